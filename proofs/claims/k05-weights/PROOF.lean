import PyProof.Rows.All
import Wide.All
import OpenK.AllK
import Wide.FinOn
import HandS.ForMost
import HandS.ForExc
import HandS.Deep
import HandS.Zip
import HandS.SortInts
import HandS.SetFor
import HandS.IsInst
import HandS.ExcIs
import HandS.HotCalls
import HandS.TupAny
import HandS.Conv
import HandS.More
import HandS.Style
import HandS.TryMany
import PySem.Challenge.RW_veilsum_k05_weights
set_option Elab.async false
set_option linter.all false
set_option maxRecDepth 100000
set_option maxHeartbeats 4000000
namespace VL
open PySem PySem.Spec PyProof.Rows L2

inductive FV where
  | d (p : PyData)
  | ob (c : Str) (fs : List (Str × PyData))
  | sc (ns : List Int)
inductive SV where
  | f (x : FV)
  | own (xs : List SV)
  | otup (xs : List SV)
  | obj (c : Str) (fs : List (Str × SV))
inductive Slot where
  | no
  | va (s : SV)
  | rf (s : SV)
  | vw (s : SV)
abbrev Env := List Slot

inductive Res (α : Type) where
  | ok (a : α)
  | err (c : Str)
  | bad
def Res.bind {α β : Type} : Res α → (α → Res β) → Res β
  | .ok a, k => k a
  | .err c, _ => .err c
  | .bad, _ => .bad
inductive Out (α : Type) where
  | ok (a : α) (e : Env)
  | err (c : Str)
  | bad
inductive Flow where
  | nx (e : Env)
  | rt (v : SV) (e : Env)
  | err (c : Str) (e : Env)
  | bad

mutual
inductive Dq (K : PySem.W.Frag) (G : Hp) : V → PyData → Prop
  | non : Dq K G .non .none
  | bl (b : Bool) : Dq K G (.bl b) (.bool b)
  | int (i : Int) : Dq K G (.int i) (.int i)
  | str (x : Str) : Dq K G (.str x) (.str x)
  | lst {a : Addr} {xs : List V} {ds : List PyData} : G a = some (.lst xs) → Dqs K G xs ds → Dq K G (.ref a) (.list ds)
  | tup {a : Addr} {xs : List V} {ds : List PyData} : SqT K G a xs → Dqs K G xs ds → Dq K G (.ref a) (.tuple ds)
inductive Dqs (K : PySem.W.Frag) (G : Hp) : List V → List PyData → Prop
  | nil : Dqs K G [] []
  | cons {v : V} {vs : List V} {d : PyData} {ds : List PyData} : Dq K G v d → Dqs K G vs ds → Dqs K G (v :: vs) (d :: ds)
end
inductive Dqf (K : PySem.W.Frag) (G : Hp) : List (Str × V) → List (Str × PyData) → Prop
  | nil : Dqf K G [] []
  | cons {n : Str} {v : V} {vs : List (Str × V)} {d : PyData} {ds : List (Str × PyData)} : Dq K G v d → Dqf K G vs ds → Dqf K G ((n, v) :: vs) ((n, d) :: ds)
inductive Fq (K : PySem.W.Frag) (mg : Str → Option Value) (G : Hp) : V → FV → Prop
  | d {v : V} {p : PyData} : Dq K G v p → Fq K mg G v (.d p)
  | ob {a C dx : Addr} {c : Str} {vs : List (Str × V)} {fs : List (Str × PyData)} : mg c = some (.ref C) → G a = some (.ins C dx vs) → Dqf K G vs fs → Fq K mg G (.ref a) (.ob c fs)
  | sc {a : Addr} {ns : List Int} : SqL K G a (ns.map V.int) → Fq K mg G (.ref a) (.sc ns)
mutual
inductive Ow (K : PySem.W.Frag) (mg : Str → Option Value) (G H : Hp) : V → SV → List Addr → Prop
  | f {v : V} {x : FV} : Fq K mg G v x → Ow K mg G H v (.f x) []
  | own {a : Addr} {vs : List V} {xs : List SV} {r : List Addr} : H a = some (.lst vs) → Ows K mg G H vs xs r → Ow K mg G H (.ref a) (.own xs) (a :: r)
  | otup {a : Addr} {vs : List V} {xs : List SV} {r : List Addr} : H a = some (.tup vs) → Ows K mg G H vs xs r → Ow K mg G H (.ref a) (.otup xs) (a :: r)
  | obj {a C dx : Addr} {c : Str} {vs : List (Str × V)} {fs : List (Str × SV)} {r : List Addr} : mg c = some (.ref C) → H a = some (.ins C dx vs) → Owf K mg G H vs fs r → Ow K mg G H (.ref a) (.obj c fs) (a :: r)
inductive Ows (K : PySem.W.Frag) (mg : Str → Option Value) (G H : Hp) : List V → List SV → List Addr → Prop
  | nil : Ows K mg G H [] [] []
  | cons {v : V} {vs : List V} {x : SV} {xs : List SV} {r rs : List Addr} : Ow K mg G H v x r → Ows K mg G H vs xs rs → Ows K mg G H (v :: vs) (x :: xs) (r ++ rs)
inductive Owf (K : PySem.W.Frag) (mg : Str → Option Value) (G H : Hp) : List (Str × V) → List (Str × SV) → List Addr → Prop
  | nil : Owf K mg G H [] [] []
  | cons {n : Str} {v : V} {vs : List (Str × V)} {x : SV} {xs : List (Str × SV)} {r rs : List Addr} : Ow K mg G H v x r → Owf K mg G H vs xs rs → Owf K mg G H ((n, v) :: vs) ((n, x) :: xs) (r ++ rs)
end

section
variable {K : PySem.W.Frag} {mg : Str → Option Value} {G G' H H' : Hp}
theorem sqt_mono {a : Addr} {xs : List V} (e : Same G G') (h : SqT K G a xs) : SqT K G' a xs := by
  rcases h with (h | ⟨o, h⟩) | h
  · exact .inl (.inl (e _ _ h))
  · exact .inl (.inr ⟨o, e _ _ h⟩)
  · exact .inr h
mutual
theorem Dq.mono (e : Same G G') : ∀ {v : V} {p : PyData}, Dq K G v p → Dq K G' v p
  | _, _, .non => .non
  | _, _, .bl b => .bl b
  | _, _, .int i => .int i
  | _, _, .str x => .str x
  | _, _, .lst h t => .lst (e _ _ h) (Dqs.mono e t)
  | _, _, .tup h t => .tup (sqt_mono e h) (Dqs.mono e t)
theorem Dqs.mono (e : Same G G') : ∀ {v : List V} {p : List PyData}, Dqs K G v p → Dqs K G' v p
  | _, _, .nil => .nil
  | _, _, .cons h t => .cons (Dq.mono e h) (Dqs.mono e t)
end
theorem Dqf.mono (e : Same G G') {v : List (Str × V)} {p : List (Str × PyData)} (h : Dqf K G v p) : Dqf K G' v p := by
  induction h with
  | nil => exact .nil
  | cons h t ih => exact .cons (h.mono e) ih
theorem Fq.mono (e : Same G G') {v : V} {x : FV} (h : Fq K mg G v x) : Fq K mg G' v x := by
  cases h with
  | d h => exact .d (h.mono e)
  | ob m h t => exact .ob m (e _ _ h) (t.mono e)
  | sc h => exact .sc (e.seq h)
mutual
theorem Dq.dp : ∀ {v : V} {p : PyData}, Dq K G v p → Dp K G v p
  | _, _, .non => .non
  | _, _, .bl b => .bl b
  | _, _, .int i => .int i
  | _, _, .str x => .str x
  | _, _, .lst h t => .lst (.inl (.inl h)) (Dqs.dp t)
  | _, _, .tup h t => .tup h (Dqs.dp t)
theorem Dqs.dp : ∀ {v : List V} {p : List PyData}, Dqs K G v p → DpAll K G v p
  | _, _, .nil => .nil
  | _, _, .cons h t => .cons (Dq.dp h) (Dqs.dp t)
end
inductive Dr (K : PySem.W.Frag) (G H : Hp) : V → PyData → Prop
  | fz {v : V} {p : PyData} : Dq K G v p → Dr K G H v p
  | top {a : Addr} {vs : List V} {ds : List PyData} : H a = some (.lst vs) → Dqs K G vs ds → Dr K G H (.ref a) (.list ds)
theorem Dr.lst {a : V} {ds : List PyData} (s : Same G H) (h : Dr K G H a (.list ds)) : ∃ b vs, a = .ref b ∧ H b = some (.lst vs) ∧ Dqs K G vs ds := by
  cases h with
  | fz h => cases h with
    | lst h t => exact ⟨_, _, rfl, s _ _ h, t⟩
  | top h t => exact ⟨_, _, rfl, h, t⟩
theorem Dr.dp {v : V} {p : PyData} (s : Same G H) (h : Dr K G H v p) : Dp K H v p := by
  cases h with
  | fz h => exact (h.mono s).dp
  | top h t => exact .lst (.inl (.inl h)) (t.mono s).dp
theorem Dr.mono {v : V} {p : PyData} (g : Same G G') (e : Same H H') (h : Dr K G H v p) : Dr K G' H' v p := by
  cases h with
  | fz h => exact .fz (h.mono g)
  | top h t => exact .top (e _ _ h) (t.mono g)
theorem Dqs.length {vs : List V} {ds : List PyData} (h : Dqs K G vs ds) : vs.length = ds.length := by
  induction ds generalizing vs with
  | nil => cases h; rfl
  | cons d ds ih => cases h with | cons h t => simp [ih t]
theorem Dqs.get {vs : List V} {ds : List PyData} {i : Nat} {d : PyData} (h : Dqs K G vs ds) (e : ds[i]? = some d) : ∃ v, vs[i]? = some v ∧ Dq K G v d := by
  induction ds generalizing vs i with
  | nil => simp at e
  | cons x ds ih =>
    cases h with
    | cons h t =>
      cases i with
      | zero => simp at e; subst e; exact ⟨_, rfl, h⟩
      | succ i => simpa using ih t (by simpa using e)
theorem Dqs.append {vs ws : List V} {ds es : List PyData} (h : Dqs K G vs ds) (h' : Dqs K G ws es) : Dqs K G (vs ++ ws) (ds ++ es) := by
  induction ds generalizing vs with
  | nil => cases h; exact h'
  | cons d ds ih => cases h with | cons h t => exact .cons h (ih t)
theorem Dqs.take {vs : List V} {ds : List PyData} (h : Dqs K G vs ds) (n : Nat) : Dqs K G (vs.take n) (ds.take n) := by
  induction ds generalizing vs n with
  | nil => cases h; simp; exact .nil
  | cons d ds ih =>
    cases h with
    | cons h t =>
      cases n with
      | zero => exact .nil
      | succ n => exact .cons h (ih t n)
theorem Dqs.drop {vs : List V} {ds : List PyData} (h : Dqs K G vs ds) (n : Nat) : Dqs K G (vs.drop n) (ds.drop n) := by
  induction ds generalizing vs n with
  | nil => cases h; simp; exact .nil
  | cons d ds ih =>
    cases h with
    | cons h t =>
      cases n with
      | zero => exact .cons h t
      | succ n => exact ih t n
theorem Dqs.ints {vs : List V} {ns : List Int} (h : Dqs K G vs (ns.map PyData.int)) : vs = ns.map V.int := by
  induction ns generalizing vs with
  | nil => cases h; rfl
  | cons n ns ih => cases h with | cons h t => cases h; simp [ih t]
theorem Dqs.bools {vs : List V} {ns : List Bool} (h : Dqs K G vs (ns.map PyData.bool)) : vs = ns.map V.bl := by
  induction ns generalizing vs with
  | nil => cases h; rfl
  | cons n ns ih => cases h with | cons h t => cases h; simp [ih t]
theorem Dqs.of_ints (ns : List Int) : Dqs K G (ns.map V.int) (ns.map PyData.int) := by
  induction ns with
  | nil => exact .nil
  | cons n ns ih => exact .cons (.int n) ih

mutual
theorem Ow.mono (g : Same G G') : ∀ {v : V} {x : SV} {r : List Addr}, Ow K mg G H v x r → (∀ a ∈ r, H' a = H a) → Ow K mg G' H' v x r
  | _, _, _, .f h, _ => .f (h.mono g)
  | _, _, _, .own h t, e => .own ((e _ List.mem_cons_self).trans h) (Ows.mono g t fun a m => e a (List.mem_cons_of_mem _ m))
  | _, _, _, .otup h t, e => .otup ((e _ List.mem_cons_self).trans h) (Ows.mono g t fun a m => e a (List.mem_cons_of_mem _ m))
  | _, _, _, .obj m h t, e => .obj m ((e _ List.mem_cons_self).trans h) (Owf.mono g t fun a m => e a (List.mem_cons_of_mem _ m))
theorem Ows.mono (g : Same G G') : ∀ {v : List V} {x : List SV} {r : List Addr}, Ows K mg G H v x r → (∀ a ∈ r, H' a = H a) → Ows K mg G' H' v x r
  | _, _, _, .nil, _ => .nil
  | _, _, _, .cons h t, e => .cons (Ow.mono g h fun a m => e a (List.mem_append_left _ m)) (Ows.mono g t fun a m => e a (List.mem_append_right _ m))
theorem Owf.mono (g : Same G G') : ∀ {v : List (Str × V)} {x : List (Str × SV)} {r : List Addr}, Owf K mg G H v x r → (∀ a ∈ r, H' a = H a) → Owf K mg G' H' v x r
  | _, _, _, .nil, _ => .nil
  | _, _, _, .cons h t, e => .cons (Ow.mono g h fun a m => e a (List.mem_append_left _ m)) (Owf.mono g t fun a m => e a (List.mem_append_right _ m))
end
mutual
theorem Ow.there : ∀ {v : V} {x : SV} {r : List Addr}, Ow K mg G H v x r → ∀ a ∈ r, ∃ o, H a = some o
  | _, _, _, .f h, _, m => by cases m
  | _, _, _, .own h t, a, m => by
    rcases List.mem_cons.mp m with rfl | m
    · exact ⟨_, h⟩
    · exact Ows.there t a m
  | _, _, _, .otup h t, a, m => by
    rcases List.mem_cons.mp m with rfl | m
    · exact ⟨_, h⟩
    · exact Ows.there t a m
  | _, _, _, .obj _ h t, a, m => by
    rcases List.mem_cons.mp m with rfl | m
    · exact ⟨_, h⟩
    · exact Owf.there t a m
theorem Ows.there : ∀ {v : List V} {x : List SV} {r : List Addr}, Ows K mg G H v x r → ∀ a ∈ r, ∃ o, H a = some o
  | _, _, _, .nil, _, m => by cases m
  | _, _, _, .cons h t, a, m => by
    rcases List.mem_append.mp m with m | m
    · exact Ow.there h a m
    · exact Ows.there t a m
theorem Owf.there : ∀ {v : List (Str × V)} {x : List (Str × SV)} {r : List Addr}, Owf K mg G H v x r → ∀ a ∈ r, ∃ o, H a = some o
  | _, _, _, .nil, _, m => by cases m
  | _, _, _, .cons h t, a, m => by
    rcases List.mem_append.mp m with m | m
    · exact Ow.there h a m
    · exact Owf.there t a m
end
theorem Ow.same {v : V} {x : SV} {r : List Addr} (g : Same G G') (e : Same H H') (h : Ow K mg G H v x r) : Ow K mg G' H' v x r :=
  h.mono g fun a m => by
    obtain ⟨o, q⟩ := h.there a m
    rw [q]; exact e a o q

mutual
def SV.frz : SV → Option PyData
  | .f (.d p) => some p
  | .f _ => none
  | .own xs => (SV.frzs xs).map .list
  | .otup xs => (SV.frzs xs).map .tuple
  | .obj _ _ => none
def SV.frzs : List SV → Option (List PyData)
  | [] => some []
  | x :: xs => match SV.frz x, SV.frzs xs with
    | some p, some ps => some (p :: ps)
    | _, _ => none
end
def SV.frzf : List (Str × SV) → Option (List (Str × PyData))
  | [] => some []
  | (n, x) :: xs => match SV.frz x, SV.frzf xs with
    | some p, some ps => some ((n, p) :: ps)
    | _, _ => none
def SV.frz? : SV → Option FV
  | .f x => some x
  | .own xs => (SV.frzs xs).map fun ps => .d (.list ps)
  | .otup xs => (SV.frzs xs).map fun ps => .d (.tuple ps)
  | .obj c fs => (SV.frzf fs).map fun ps => .ob c ps
end
end VL

set_option Elab.async false
set_option linter.all false
set_option maxRecDepth 100000
set_option maxHeartbeats 4000000
namespace VL
open PySem PySem.Spec PyProof.Rows L2
section
variable {K : PySem.W.Frag} {mg : Str → Option Value} {G G' H H' : Hp}
mutual
theorem Ow.frozen (g : Same G G') : ∀ {v : V} {x : SV} {r : List Addr} {p : PyData}, Ow K mg G H v x r → (∀ a ∈ r, ∀ o, H a = some o → G' a = some o) → SV.frz x = some p → Dq K G' v p
  | _, _, _, _, .f (.d h), _, q => by
    cases (show some _ = some _ from q)
    exact h.mono g
  | _, _, _, _, .f (.ob _ _ _), _, q => by cases (show none = some _ from q)
  | _, _, _, _, .f (.sc _), _, q => by cases (show none = some _ from q)
  | _, .own xs, _, _, .own h t, e, q => by
    have q' : (SV.frzs xs).map PyData.list = some _ := q
    cases z : SV.frzs xs with
    | none => rw [z] at q'; cases q'
    | some ps =>
      rw [z] at q'
      cases q'
      exact .lst (e _ List.mem_cons_self _ h) (Ows.frozen g t (fun a m => e a (List.mem_cons_of_mem _ m)) z)
  | _, .otup xs, _, _, .otup h t, e, q => by
    have q' : (SV.frzs xs).map PyData.tuple = some _ := q
    cases z : SV.frzs xs with
    | none => rw [z] at q'; cases q'
    | some ps =>
      rw [z] at q'
      cases q'
      exact .tup (SqT.of (e _ List.mem_cons_self _ h)) (Ows.frozen g t (fun a m => e a (List.mem_cons_of_mem _ m)) z)
  | _, _, _, _, .obj _ _ _, _, q => by cases (show none = some _ from q)
theorem Ows.frozen (g : Same G G') : ∀ {v : List V} {x : List SV} {r : List Addr} {p : List PyData}, Ows K mg G H v x r → (∀ a ∈ r, ∀ o, H a = some o → G' a = some o) → SV.frzs x = some p → Dqs K G' v p
  | _, _, _, _, .nil, _, q => by
    cases (show some [] = some _ from q)
    exact .nil
  | _, x :: xs, _, _, .cons h t, e, q => by
    unfold SV.frzs at q
    split at q
    · rename_i p ps h1 h2
      cases q
      exact .cons (Ow.frozen g h (fun a m => e a (List.mem_append_left _ m)) h1) (Ows.frozen g t (fun a m => e a (List.mem_append_right _ m)) h2)
    · cases q
end
theorem Owf.frozen (g : Same G G') : ∀ {v : List (Str × V)} {x : List (Str × SV)} {r : List Addr} {p : List (Str × PyData)}, Owf K mg G H v x r → (∀ a ∈ r, ∀ o, H a = some o → G' a = some o) → SV.frzf x = some p → Dqf K G' v p
  | _, _, _, _, .nil, _, q => by
    cases (show some [] = some _ from q)
    exact .nil
  | _, (n, x) :: xs, _, _, .cons h t, e, q => by
    unfold SV.frzf at q
    split at q
    · rename_i p ps h1 h2
      cases q
      exact .cons (h.frozen g (fun a m => e a (List.mem_append_left _ m)) h1) (Owf.frozen g t (fun a m => e a (List.mem_append_right _ m)) h2)
    · cases q
theorem Ow.frozenF (g : Same G G') {v : V} {x : SV} {r : List Addr} {y : FV} (h : Ow K mg G H v x r) (e : ∀ a ∈ r, ∀ o, H a = some o → G' a = some o) (q : SV.frz? x = some y) : Fq K mg G' v y := by
  cases h with
  | f h =>
    cases (show some _ = some _ from q)
    exact h.mono g
  | @own a vs xs r h t =>
    have q' : (SV.frzs xs).map (fun ps => FV.d (PyData.list ps)) = some _ := q
    cases z : SV.frzs xs with
    | none => rw [z] at q'; cases q'
    | some ps =>
      rw [z] at q'
      cases q'
      exact .d (.lst (e _ List.mem_cons_self _ h) (Ows.frozen g t (fun a m => e a (List.mem_cons_of_mem _ m)) z))
  | @otup a vs xs r h t =>
    have q' : (SV.frzs xs).map (fun ps => FV.d (PyData.tuple ps)) = some _ := q
    cases z : SV.frzs xs with
    | none => rw [z] at q'; cases q'
    | some ps =>
      rw [z] at q'
      cases q'
      exact .d (.tup (SqT.of (e _ List.mem_cons_self _ h)) (Ows.frozen g t (fun a m => e a (List.mem_cons_of_mem _ m)) z))
  | @obj a C dx c vs fs r m h t =>
    have q' : (SV.frzf fs).map (fun ps => FV.ob c ps) = some _ := q
    cases z : SV.frzf fs with
    | none => rw [z] at q'; cases q'
    | some ps =>
      rw [z] at q'
      cases q'
      exact .ob m (e _ List.mem_cons_self _ h) (t.frozen g (fun a m => e a (List.mem_cons_of_mem _ m)) z)
def gu (G H : Hp) (r : List Addr) : Hp := fun a => if a ∈ r then H a else G a
theorem gu_in {r : List Addr} {a : Addr} (h : a ∈ r) : gu G H r a = H a := by unfold gu; rw [if_pos h]
theorem gu_out {r : List Addr} {a : Addr} (h : a ∉ r) : gu G H r a = G a := by unfold gu; rw [if_neg h]
theorem gu_same {r : List Addr} (s : Same G H) : Same G (gu G H r) := fun a o e => by
  by_cases m : a ∈ r
  · rw [gu_in m]; exact s a o e
  · rw [gu_out m]; exact e
theorem gu_sub {r : List Addr} (s : Same G H) : Same (gu G H r) H := fun a o e => by
  by_cases m : a ∈ r
  · rw [gu_in m] at e; exact e
  · rw [gu_out m] at e; exact s a o e

def slotOk (K : PySem.W.Frag) (mg : Str → Option Value) (G H : Hp) (pv : V) (o : Option (Option V)) (fp : List Addr) : Slot → Prop
  | .no => fp = []
  | .va s => ∃ v, o = some (some v) ∧ Ow K mg G H v s fp
  | .rf s => o = some (some pv) ∧ Ow K mg G H pv s fp
  | .vw s => fp = [] ∧ ∃ v r, o = some (some v) ∧ Ow K mg G H v s r
structure RS (K : PySem.W.Frag) (mg : Str → Option Value) (G : Hp) (σ : L2.St) (env : Env) (H : Hp) (fp : Nat → List Addr) (pv : Nat → V) : Prop where
  len : env.length = σ.length
  rel : ∀ i s, env[i]? = some s → slotOk K mg G H (pv i) σ[i]? (fp i) s
  nil : ∀ i, env.length ≤ i → fp i = []
  sub : Same G H
  out : ∀ i, ∀ a ∈ fp i, G a = none
  nd : ∀ i, (fp i).Nodup
  dj : ∀ i j a, a ∈ fp i → a ∈ fp j → i = j
structure Ext (G H G' H' : Hp) : Prop where
  g : Same G G'
  h : Same H H'
  s : Same G' H'
  n : ∀ a o, G' a = some o → G a = some o ∨ H a = none
theorem Ext.refl (s : Same G H) : Ext G H G H := ⟨Same.refl _, Same.refl _, s, fun _ _ e => .inl e⟩
theorem none_back (e : Same H H') {a : Addr} (h : H' a = none) : H a = none := e.free h
theorem Ext.trans {G2 H2 : Hp} (x : Ext G H G' H') (y : Ext G' H' G2 H2) : Ext G H G2 H2 := ⟨x.g.trans y.g, x.h.trans y.h, y.s, fun a o e => by
  rcases y.n a o e with q | q
  · exact x.n a o q
  · exact .inr (none_back x.h q)⟩
theorem Ext.new {p : Addr} {o : HO} (s : Same G H) (hp : H p = none) : Ext G H (upd G p o) (upd H p o) where
  g := fun a u e => by rw [upd_ne (ne_of_none (s _ _ e) hp)]; exact e
  h := fun a u e => by rw [upd_ne (ne_of_none e hp)]; exact e
  s := fun a u e => by
    by_cases q : a = p
    · subst q; rw [upd_same] at e ⊢; exact e
    · rw [upd_ne q] at e ⊢; exact s _ _ e
  n := fun a u e => by
    by_cases q : a = p
    · subst q; exact .inr hp
    · rw [upd_ne q] at e; exact .inl e
theorem Ext.newO {p : Addr} {o : HO} (s : Same G H) (hp : H p = none) : Ext G H G (upd H p o) where
  g := Same.refl _
  h := fun a u e => by rw [upd_ne (ne_of_none e hp)]; exact e
  s := fun a u e => by rw [upd_ne (ne_of_none (s _ _ e) hp)]; exact s _ _ e
  n := fun _ _ e => .inl e
theorem slotOk.mono {pv : V} {o : Option (Option V)} {fp : List Addr} {s : Slot} (g : Same G G') (e : Same H H') (h : slotOk K mg G H pv o fp s) : slotOk K mg G' H' pv o fp s := by
  cases s with
  | no => exact h
  | va s => obtain ⟨v, e1, q⟩ := h; exact ⟨v, e1, q.same g e⟩
  | rf s => obtain ⟨e1, q⟩ := h; exact ⟨e1, q.same g e⟩
  | vw p => obtain ⟨e0, v, r, e1, q⟩ := h; exact ⟨e0, v, r, e1, q.same g e⟩
theorem slotOk.there {pv : V} {o : Option (Option V)} {fp : List Addr} {s : Slot} (h : slotOk K mg G H pv o fp s) : ∀ a ∈ fp, ∃ u, H a = some u := by
  cases s with
  | no => intro a m; rw [show fp = [] from h] at m; cases m
  | va s => obtain ⟨v, e1, q⟩ := h; exact q.there
  | rf s => obtain ⟨e1, q⟩ := h; exact q.there
  | vw p => obtain ⟨e0, v, r, e1, q⟩ := h; intro a m; rw [e0] at m; cases m
variable {σ σ' : L2.St} {env : Env} {fp : Nat → List Addr} {pv : Nat → V}
theorem RS.there (h : RS K mg G σ env H fp pv) (i : Nat) : ∀ a ∈ fp i, ∃ u, H a = some u := by
  intro a m
  by_cases hi : i < env.length
  · exact (h.rel i _ (List.getElem?_eq_getElem hi)).there a m
  · rw [h.nil i (by omega)] at m; cases m
theorem RS.ext (h : RS K mg G σ env H fp pv) (x : Ext G H G' H') : RS K mg G' σ env H' fp pv where
  len := h.len
  rel := fun i s e => (h.rel i s e).mono x.g x.h
  nil := h.nil
  sub := x.s
  out := fun i a m => by
    cases q : G' a with
    | none => rfl
    | some o =>
      rcases x.n a o q with z | z
      · rw [h.out i a m] at z; cases z
      · obtain ⟨u, hu⟩ := h.there i a m
        rw [hu] at z; cases z
  nd := h.nd
  dj := h.dj
theorem RS.same (h : RS K mg G σ env H fp pv) (e : Same H H') : RS K mg G σ env H' fp pv :=
  h.ext ⟨Same.refl _, e, h.sub.trans e, fun _ _ q => .inl q⟩

def ErrW (mg : Str → Option Value) (W : WX) (σ : L2.St) (H : Hp) (c : Str) : Prop := ∀ C H', mg c = some (.ref C) → Same H H' → W (.ref C) none σ H'
def PostR {α : Type} (mg : Str → Option Value) (W : WX) (σ : L2.St) (H : Hp) (k : α → Prop) : Res α → Prop
  | .ok a => k a
  | .err c => ErrW mg W σ H c
  | .bad => False
abbrev FP := Env → Res FV
abbrev FD := Env → Res PyData
abbrev FO := Env → Res SV
abbrev FT := Env → Res Bool
def tP (K : PySem.W.Frag) (mg : Str → Option Value) (W : WX) (f : FP) : TE := fun σ H Q => ∃ G env fp pv, RS K mg G σ env H fp pv ∧
  PostR mg W σ H (fun x => ∀ v G' H', Ext G H G' H' → Fq K mg G' v x → Q v H') (f env)
def tD (K : PySem.W.Frag) (mg : Str → Option Value) (W : WX) (f : FD) : TE := fun σ H Q => ∃ G env fp pv, RS K mg G σ env H fp pv ∧
  PostR mg W σ H (fun x => ∀ v G' H', Ext G H G' H' → Dr K G' H' v x → Q v H') (f env)
def tO (K : PySem.W.Frag) (mg : Str → Option Value) (W : WX) (f : FO) : TE := fun σ H Q => ∃ G env fp pv, RS K mg G σ env H fp pv ∧
  PostR mg W σ H (fun x => ∀ v G' H' r, Ext G H G' H' → Ow K mg G' H' v x r → r.Nodup → (∀ a ∈ r, H a = none ∧ G' a = none) → Q v H') (f env)
def tT (K : PySem.W.Frag) (mg : Str → Option Value) (W : WX) (f : FT) : TT := fun σ H Q => ∃ G env fp pv, RS K mg G σ env H fp pv ∧
  PostR mg W σ H (fun x => ∀ G' H', Ext G H G' H' → Q x H') (f env)
def tA (K : PySem.W.Frag) (mg : Str → Option Value) (W : WX) (f : Env → Res (List PyData)) : TA := fun σ H Q => ∃ G env fp pv, RS K mg G σ env H fp pv ∧
  PostR mg W σ H (fun xs => ∀ vs G' H', Ext G H G' H' → Dqs K G' vs xs → Q vs H') (f env)
inductive Fqs (K : PySem.W.Frag) (mg : Str → Option Value) (G : Hp) : List V → List FV → Prop
  | nil : Fqs K mg G [] []
  | cons {v : V} {vs : List V} {x : FV} {xs : List FV} : Fq K mg G v x → Fqs K mg G vs xs → Fqs K mg G (v :: vs) (x :: xs)
theorem Fqs.mono (g : Same G G') {vs : List V} {xs : List FV} (h : Fqs K mg G vs xs) : Fqs K mg G' vs xs := by
  induction h with
  | nil => exact .nil
  | cons h t ih => exact .cons (h.mono g) ih
theorem ErrW.mono {W : WX} {c : Str} (e : Same H H') (h : ErrW mg W σ H c) : ErrW mg W σ H' c := fun C H2 m s => h C H2 m (e.trans s)
theorem PostR.imp {α : Type} {W : WX} {k k' : α → Prop} {r : Res α} (h : PostR mg W σ H k r) (e : Same H H') (q : ∀ a, k a → k' a) : PostR mg W σ H' k' r := by
  cases r with
  | ok a => exact q a h
  | err c => exact h.mono e
  | bad => exact h
theorem PostR.seq {α β : Type} {W : WX} {k : α → Prop} {j : β → Prop} {r : Res α} {g : α → Res β} (h : PostR mg W σ H j (r.bind g)) (q : ∀ a, PostR mg W σ H j (g a) → k a) : PostR mg W σ H k r := by
  cases r with
  | ok a => exact q a h
  | err c => exact h
  | bad => exact h
end

section
variable {X : Cx} {e : Expr} {es : List Expr}
theorem pe_imp {t t' : TE} (h : PE X e t) (q : ∀ σ H Q, t' σ H Q → t σ H Q) : PE X e t' := ⟨fun pins s σ H Q I w => h.run pins s σ H Q I (q σ H Q w)⟩
theorem pt_imp {t t' : TT} (h : PT X e t) (q : ∀ σ H Q, t' σ H Q → t σ H Q) : PT X e t' := ⟨fun pins s σ H Q I w => h.run pins s σ H Q I (q σ H Q w)⟩
theorem pa_imp {t t' : TA} (h : PA X es t) (q : ∀ σ H Q, t' σ H Q → t σ H Q) : PA X es t' := ⟨fun pos pins s σ H Q I w => h.run pos pins s σ H Q I (q σ H Q w)⟩
theorem ps_imp {st : Stmt} {t t' : TS} (h : PS X st t) (q : ∀ D σ H, t' D σ H → t D σ H) : PS X st t' := ⟨fun pins s σ H D I w => h.run pins s σ H D I (q D σ H w)⟩
theorem pss_imp {st : List Stmt} {t t' : TS} (h : PSs X st t) (q : ∀ D σ H, t' D σ H → t D σ H) : PSs X st t' := ⟨fun pins s σ H D I w => h.run pins s σ H D I (q D σ H w)⟩
theorem pi_imp {tg : Expr} {t t' : TI} (h : PI X tg e t) (q : ∀ σ H R, t' σ H R → t σ H R) : PI X tg e t' := ⟨fun pins s σ H R I w => h.run pins s σ H R I (q σ H R w)⟩
theorem pg_imp {t t' : TG} (h : PG X e t) (q : ∀ v σ H Q, t' v σ H Q → t v σ H Q) : PG X e t' := ⟨fun pins s σ H v u Q I r w => h.run pins s σ H v u Q I r (q v σ H Q w)⟩
abbrev VP (X : Cx) (W : WX) (e : Expr) (f : FP) : Prop := PE X e (tP X.K X.mg W f)
abbrev VD (X : Cx) (W : WX) (e : Expr) (f : FD) : Prop := PE X e (tD X.K X.mg W f)
abbrev VO (X : Cx) (W : WX) (e : Expr) (f : FO) : Prop := PE X e (tO X.K X.mg W f)
abbrev VT (X : Cx) (W : WX) (e : Expr) (f : FT) : Prop := PT X e (tT X.K X.mg W f)
abbrev VA (X : Cx) (W : WX) (es : List Expr) (f : Env → Res (List PyData)) : Prop := PA X es (tA X.K X.mg W f)
end
end VL

set_option Elab.async false
set_option linter.all false
set_option maxRecDepth 100000
set_option maxHeartbeats 4000000
namespace VL
open PySem PySem.Spec PyProof.Rows L2
section
variable {X : Cx} {W : WX} {a b c e : Expr} {es : List Expr} {pos : Pos}

def SV.leafs : List SV → Option (List PyData)
  | [] => some []
  | .f (.d p) :: xs => (SV.leafs xs).map (p :: ·)
  | _ :: _ => none
def SV.dl (ds : List PyData) : SV := .own (ds.map fun p => .f (.d p))
theorem leafs_dq {K : PySem.W.Frag} {mg : Str → Option Value} {G H : Hp} : ∀ {vs : List V} {xs : List SV} {r : List Addr} {ds : List PyData}, Ows K mg G H vs xs r → SV.leafs xs = some ds → Dqs K G vs ds
  | _, _, _, _, .nil, q => by
    cases (show some [] = some _ from q)
    exact .nil
  | _, x :: xs, _, _, .cons h t, q => by
    match x, h, q with
    | .f (.d p), .f (.d h), q =>
      have q' : (SV.leafs xs).map (p :: ·) = some _ := q
      cases z : SV.leafs xs with
      | none => rw [z] at q'; cases q'
      | some ds => rw [z] at q'; cases q'; exact .cons h (leafs_dq t z)
    | .f (.ob _ _), _, q => cases (show none = some _ from q)
    | .f (.sc _), _, q => cases (show none = some _ from q)
    | .own _, _, q => cases (show none = some _ from q)
    | .otup _, _, q => cases (show none = some _ from q)
    | .obj _ _, _, q => cases (show none = some _ from q)
theorem leafs_map (ds : List PyData) : SV.leafs (ds.map fun p => .f (.d p)) = some ds := by
  induction ds with
  | nil => rfl
  | cons d ds ih => show (SV.leafs _).map _ = _; rw [ih]; rfl
theorem frzs_map (ds : List PyData) : SV.frzs (ds.map fun p => .f (.d p)) = some ds := by
  induction ds with
  | nil => rfl
  | cons d ds ih =>
    show (match SV.frz (.f (.d d)), SV.frzs (ds.map fun p => .f (.d p)) with | some p, some ps => some (p :: ps) | _, _ => none) = _
    rw [ih]
    rfl
theorem frz?_dl (ds : List PyData) : SV.frz? (SV.dl ds) = some (.d (.list ds)) := by
  show (SV.frzs _).map _ = _
  rw [frzs_map]; rfl
theorem frz_dl (ds : List PyData) : SV.frz (SV.dl ds) = some (.list ds) := by
  show (SV.frzs _).map _ = _
  rw [frzs_map]; rfl
theorem ows_of {K : PySem.W.Frag} {mg : Str → Option Value} {G H : Hp} : ∀ {vs : List V} {ds : List PyData}, Dqs K G vs ds → Ows K mg G H vs (ds.map fun p => .f (.d p)) []
  | _, _, .nil => .nil
  | _, _, .cons h t => .cons (r := []) (rs := []) (.f (.d h)) (ows_of t)
theorem ow_dl {K : PySem.W.Frag} {mg : Str → Option Value} {G H : Hp} {p : Addr} {vs : List V} {ds : List PyData} (h : H p = some (.lst vs)) (t : Dqs K G vs ds) : Ow K mg G H (.ref p) (SV.dl ds) [p] := .own h (ows_of t)
theorem new_dl {K : PySem.W.Frag} {mg : Str → Option Value} {G H : Hp} {vs : List V} {ds : List PyData} {Q : VK} (s : Same G H) (t : Dqs K G vs ds)
    (q : ∀ v G' H' r, Ext G H G' H' → Ow K mg G' H' v (SV.dl ds) r → r.Nodup → (∀ a ∈ r, H a = none ∧ G' a = none) → Q v H') : ∀ p, H p = none → Q (.ref p) (upd H p (.lst vs)) := fun p hp =>
  q _ G _ [p] (Ext.newO s hp) (ow_dl upd_same t) (by simp) fun a m => by
    have e : a = p := by simpa using m
    subst e
    exact ⟨hp, none_back s hp⟩
theorem new_tup {K : PySem.W.Frag} {mg : Str → Option Value} {G H : Hp} {vs : List V} {ds : List PyData} {Q : VK} (s : Same G H) (t : Dqs K G vs ds)
    (q : ∀ v G' H', Ext G H G' H' → Fq K mg G' v (.d (.tuple ds)) → Q v H') : ∀ p, H p = none → Q (.ref p) (upd H p (.tup vs)) := fun p hp =>
  q _ _ _ (Ext.new s hp) (.d (.tup (SqT.of upd_same) (t.mono (Ext.new s hp).g)))

def toD (f : FP) : FD := fun env => (f env).bind fun | .d p => .ok p | _ => .bad
def frO (f : FO) : FP := fun env => (f env).bind fun s => match s.frz? with | some x => .ok x | none => .bad
def frD (f : FO) : FD := fun env => (f env).bind fun s => match s.frz with | some x => .ok x | none => .bad
def unO (f : FP) : FO := fun env => (f env).bind fun x => .ok (.f x)
theorem vd_p {f : FP} (h : VP X W e f) : VD X W e (toD f) := pe_imp h fun σ H Q ⟨G, env, fp, pv, rs, w⟩ => ⟨G, env, fp, pv, rs, PostR.seq w fun x w v G' H' ex fq => by
  match x, fq, w with
  | .d p, .d q, w => exact w v G' H' ex (.fz q)
  | .ob _ _, _, w => exact w.elim
  | .sc _, _, w => exact w.elim⟩
theorem vp_o {f : FO} (h : VO X W e f) : VP X W e (frO f) := pe_imp h fun σ H Q ⟨G, env, fp, pv, rs, w⟩ => ⟨G, env, fp, pv, rs, PostR.seq w fun s w v G' H' r ex ow nd fr => by
  cases z : s.frz? with
  | none => rw [z] at w; exact w.elim
  | some x =>
    rw [z] at w
    have g : Same G' (gu G' H' r) := gu_same ex.s
    refine w v (gu G' H' r) H' ⟨ex.g.trans g, ex.h, gu_sub ex.s, fun a o e => ?_⟩ (ow.frozenF g (fun a m o e => by rw [gu_in m]; exact e) z)
    by_cases m : a ∈ r
    · exact .inr (fr a m).1
    · rw [gu_out m] at e; exact ex.n a o e⟩
theorem vd_o {f : FO} (h : VO X W e f) : VD X W e (frD f) := pe_imp h fun σ H Q ⟨G, env, fp, pv, rs, w⟩ => ⟨G, env, fp, pv, rs, PostR.seq w fun s w v G' H' r ex ow nd fr => by
  cases z : s.frz with
  | none => rw [z] at w; exact w.elim
  | some x =>
    rw [z] at w
    have g : Same G' (gu G' H' r) := gu_same ex.s
    refine w v (gu G' H' r) H' ⟨ex.g.trans g, ex.h, gu_sub ex.s, fun a o e => ?_⟩ (.fz (ow.frozen g (fun a m o e => by rw [gu_in m]; exact e) z))
    by_cases m : a ∈ r
    · exact .inr (fr a m).1
    · rw [gu_out m] at e; exact ex.n a o e⟩
theorem vo_p {f : FP} (h : VP X W e f) : VO X W e (unO f) := pe_imp h fun σ H Q ⟨G, env, fp, pv, rs, w⟩ => ⟨G, env, fp, pv, rs, PostR.seq w fun x w v G' H' ex fq =>
  w v G' H' [] ex (.f fq) .nil (fun _ m => by cases m)⟩

def vVar (i : Nat) : FP := fun env => match env[i]? with | some (.va (.f x)) => .ok x | some (.rf (.f x)) => .ok x | some (.vw (.f x)) => .ok x | _ => .bad
def vVarD (i : Nat) : FD := fun env => match env[i]? with
  | some (.va (.f (.d p))) => .ok p
  | some (.rf (.f (.d p))) => .ok p
  | some (.va (.own xs)) => match SV.leafs xs with | some ds => .ok (.list ds) | none => .bad
  | some (.rf (.own xs)) => match SV.leafs xs with | some ds => .ok (.list ds) | none => .bad
  | some (.vw (.f (.d p))) => .ok p
  | some (.vw (.own xs)) => match SV.leafs xs with | some ds => .ok (.list ds) | none => .bad
  | _ => .bad
theorem vp_var {i : Nat} (h : PE X e (tVar i)) : VP X W e (vVar i) := pe_imp h fun σ H Q ⟨G, env, fp, pv, rs, w⟩ => by
  unfold vVar at w
  split at w
  · rename_i x e1
    obtain ⟨v, e2, q⟩ := rs.rel i _ e1
    generalize fp i = r at q
    cases q with
    | f q => exact ⟨v, e2, w v G H (Ext.refl rs.sub) q⟩
  · rename_i x e1
    obtain ⟨e2, q⟩ := rs.rel i _ e1
    generalize fp i = r at q
    generalize pv i = u at e2 q
    cases q with
    | f q => exact ⟨_, e2, w _ G H (Ext.refl rs.sub) q⟩
  · rename_i x e1
    obtain ⟨_, v, r, e2, q⟩ := rs.rel i _ e1
    cases q with
    | f q => exact ⟨_, e2, w _ G H (Ext.refl rs.sub) q⟩
  · exact w.elim
theorem vd_var {i : Nat} (h : PE X e (tVar i)) : VD X W e (vVarD i) := pe_imp h fun σ H Q ⟨G, env, fp, pv, rs, w⟩ => by
  unfold vVarD at w
  split at w
  · rename_i x e1
    obtain ⟨v, e2, q⟩ := rs.rel i _ e1
    generalize fp i = r at q
    cases q with
    | f q => cases q with | d q => exact ⟨v, e2, w v G H (Ext.refl rs.sub) (.fz q)⟩
  · rename_i x e1
    obtain ⟨e2, q⟩ := rs.rel i _ e1
    generalize fp i = r at q
    generalize pv i = u at e2 q
    cases q with
    | f q => cases q with | d q => exact ⟨_, e2, w _ G H (Ext.refl rs.sub) (.fz q)⟩
  · rename_i xs e1
    obtain ⟨v, e2, q⟩ := rs.rel i _ e1
    generalize fp i = r at q
    cases z : SV.leafs xs with
    | none => rw [z] at w; exact w.elim
    | some ds =>
      rw [z] at w
      cases q with
      | own h t => exact ⟨_, e2, w _ G H (Ext.refl rs.sub) (.top h (leafs_dq t z))⟩
  · rename_i xs e1
    obtain ⟨e2, q⟩ := rs.rel i _ e1
    generalize fp i = r at q
    generalize pv i = u at e2 q
    cases z : SV.leafs xs with
    | none => rw [z] at w; exact w.elim
    | some ds =>
      rw [z] at w
      cases q with
      | own h t => exact ⟨_, e2, w _ G H (Ext.refl rs.sub) (.top h (leafs_dq t z))⟩
  · rename_i x e1
    obtain ⟨_, v, r, e2, q⟩ := rs.rel i _ e1
    cases q with
    | f q => cases q with | d q => exact ⟨v, e2, w v G H (Ext.refl rs.sub) (.fz q)⟩
  · rename_i xs e1
    obtain ⟨_, v, r, e2, q⟩ := rs.rel i _ e1
    cases z : SV.leafs xs with
    | none => rw [z] at w; exact w.elim
    | some ds =>
      rw [z] at w
      cases q with
      | own h t => exact ⟨_, e2, w _ G H (Ext.refl rs.sub) (.top h (leafs_dq t z))⟩
  · exact w.elim
def vC (p : PyData) : FP := fun _ => .ok (.d p)
theorem vp_c {v : V} {p : PyData} (h : PE X e (tC v)) (q : ∀ G, Dq X.K G v p) : VP X W e (vC p) := pe_imp h fun σ H Q ⟨G, env, fp, pv, rs, w⟩ => w v G H (Ext.refl rs.sub) (.d (q G))
theorem vp_int {i : Int} {j} : VP X W (.Constant (.int i) j pos) (vC (.int i)) := vp_c pe_int fun _ => .int i
theorem vp_bl {i : Bool} {j} : VP X W (.Constant (.bool i) j pos) (vC (.bool i)) := vp_c pe_bl fun _ => .bl i
def v2 {α : Type} (h : PyData → PyData → Res α) (f g : FD) : Env → Res α := fun env => (f env).bind fun x => (g env).bind fun y => h x y
theorem tD_bin {α : Type} {h : PyData → PyData → Res α} {f g : FD} {r : R2} {ta tb : TE} {σ : L2.St} {H : Hp} {Q : VK} {j : Hp → Hp → α → Prop} {G : Hp} {env : Env} {fp : Nat → List Addr} {pv : Nat → V}
    (ea : ta = tD X.K X.mg W f) (eb : tb = tD X.K X.mg W g) (rs : RS X.K X.mg G σ env H fp pv)
    (w : PostR X.mg W σ H (j G H) (v2 h f g env)) (jm : ∀ {G H G' H' x}, Ext G H G' H' → j G H x → j G' H' x)
    (hr : ∀ x y vx vy G H, Same G H → Dr X.K G H vx x → Dr X.K G H vy y → PostR X.mg W σ H (j G H) (h x y) → r vx vy H Q) : tOp r ta tb σ H Q := by
  subst ea eb
  refine ⟨G, env, fp, pv, rs, PostR.seq w fun x w vx G1 H1 e1 q1 => ⟨G1, env, fp, pv, rs.ext e1, ?_⟩⟩
  refine PostR.imp (PostR.seq (k := fun y => PostR X.mg W σ H (j G H) (h x y)) w fun y w => w) e1.h fun y w vy G2 H2 e2 q2 => ?_
  exact hr x y vx vy G2 H2 e2.s (q1.mono e2.g e2.h) q2 (PostR.imp w (e1.h.trans e2.h) fun z q => jm (e1.trans e2) q)
def jP (K : PySem.W.Frag) (mg : Str → Option Value) (Q : VK) (G H : Hp) (x : FV) : Prop := ∀ v G' H', Ext G H G' H' → Fq K mg G' v x → Q v H'
def jO (K : PySem.W.Frag) (mg : Str → Option Value) (Q : VK) (G H : Hp) (x : SV) : Prop := ∀ v G' H' r, Ext G H G' H' → Ow K mg G' H' v x r → r.Nodup → (∀ a ∈ r, H a = none ∧ G' a = none) → Q v H'
theorem jP.ext {Q : VK} {G H G' H' : Hp} {x : FV} (e : Ext G H G' H') (h : jP X.K X.mg Q G H x) : jP X.K X.mg Q G' H' x := fun v G2 H2 e2 q => h v G2 H2 (e.trans e2) q
theorem jO.ext {Q : VK} {G H G' H' : Hp} {x : SV} (e : Ext G H G' H') (h : jO X.K X.mg Q G H x) : jO X.K X.mg Q G' H' x := fun v G2 H2 r e2 q nd fr => h v G2 H2 r (e.trans e2) q nd fun a m => ⟨none_back e.h (fr a m).1, (fr a m).2⟩
theorem vp_op {op : Operator} {r : R2} {h : PyData → PyData → Res FV} {f g : FD} (ho : OpR X (binaryOp op) r) (ha : VD X W a f) (hb : VD X W b g)
    (hr : ∀ σ Q x y vx vy G H, Same G H → Dr X.K G H vx x → Dr X.K G H vy y → PostR X.mg W σ H (jP X.K X.mg Q G H) (h x y) → r vx vy H Q) : VP X W (.BinOp a op b pos) (v2 h f g) :=
  pe_imp (pe_op ho ha hb) fun σ H Q ⟨G, env, fp, pv, rs, w⟩ => tD_bin (j := jP X.K X.mg Q) rfl rfl rs w jP.ext (hr σ Q)
theorem vo_op {op : Operator} {r : R2} {h : PyData → PyData → Res SV} {f g : FD} (ho : OpR X (binaryOp op) r) (ha : VD X W a f) (hb : VD X W b g)
    (hr : ∀ σ Q x y vx vy G H, Same G H → Dr X.K G H vx x → Dr X.K G H vy y → PostR X.mg W σ H (jO X.K X.mg Q G H) (h x y) → r vx vy H Q) : VO X W (.BinOp a op b pos) (v2 h f g) :=
  pe_imp (pe_op ho ha hb) fun σ H Q ⟨G, env, fp, pv, rs, w⟩ => tD_bin (j := jO X.K X.mg Q) rfl rfl rs w jO.ext (hr σ Q)
theorem vp_cm {op : CmpOp} {r : R2} {h : PyData → PyData → Res FV} {f g : FD} (ho : OpR X (compareOp op) r) (ha : VD X W a f) (hb : VD X W b g) (hm : behindInMarks op b = false)
    (hr : ∀ σ Q x y vx vy G H, Same G H → Dr X.K G H vx x → Dr X.K G H vy y → PostR X.mg W σ H (jP X.K X.mg Q G H) (h x y) → r vx vy H Q) : VP X W (.Compare a [op] [b] pos) (v2 h f g) :=
  pe_imp (pe_cmpR ho ha hb hm) fun σ H Q ⟨G, env, fp, pv, rs, w⟩ => tD_bin (j := jP X.K X.mg Q) rfl rfl rs w jP.ext (hr σ Q)
noncomputable def cIf {α : Type} (c : Prop) (a b : α) : α := @ite α c (Classical.propDecidable c) a b
theorem cIf_pos {α : Type} {c : Prop} {a b : α} (h : c) : cIf c a b = a := by unfold cIf; rw [if_pos h]
theorem cIf_neg {α : Type} {c : Prop} {a b : α} (h : ¬ c) : cIf c a b = b := by unfold cIf; rw [if_neg h]

def iI (i : Int) : Res FV := .ok (.d (.int i))
def iB (b : Bool) : Res FV := .ok (.d (.bool b))
def subI : PyData → PyData → Res FV
  | .int i, .int j => iI (i - j)
  | _, _ => .bad
noncomputable def modI : PyData → PyData → Res FV
  | .int i, .int j => cIf (0 < j) (iI (i % j)) .bad
  | _, _ => .bad
noncomputable def divI : PyData → PyData → Res FV
  | .int i, .int j => cIf (0 < j ∧ j < 1073741824) (iI (i / j)) .bad
  | _, _ => .bad
theorem Dr.int {K : PySem.W.Frag} {G H : Hp} {v : V} {i : Int} (h : Dr K G H v (.int i)) : v = .int i := by
  cases h with | fz h => cases h; rfl
theorem Dr.bool {K : PySem.W.Frag} {G H : Hp} {v : V} {i : Bool} (h : Dr K G H v (.bool i)) : v = .bl i := by
  cases h with | fz h => cases h; rfl
theorem Dr.str {K : PySem.W.Frag} {G H : Hp} {v : V} {i : Str} (h : Dr K G H v (.str i)) : v = .str i := by
  cases h with | fz h => cases h; rfl
theorem Dr.non {K : PySem.W.Frag} {G H : Hp} {v : V} (h : Dr K G H v .none) : v = .non := by
  cases h with | fz h => cases h; rfl
theorem jP.int {Q : VK} {G H : Hp} {i : Int} (s : Same G H) (h : jP X.K X.mg Q G H (.d (.int i))) : Q (.int i) H := h _ G H (Ext.refl s) (.d (.int i))
theorem jP.bool {Q : VK} {G H : Hp} {i : Bool} (s : Same G H) (h : jP X.K X.mg Q G H (.d (.bool i))) : Q (.bl i) H := h _ G H (Ext.refl s) (.d (.bl i))
theorem vp_sub {f g : FD} (ha : VD X W a f) (hb : VD X W b g) : VP X W (.BinOp a .Sub b pos) (v2 subI f g) := vp_op op_sub ha hb fun σ Q x y vx vy G H s hx hy w => by
  unfold subI at w
  split at w
  · exact ⟨_, _, hx.int, hy.int, jP.int s w⟩
  · exact w.elim
theorem vp_mod {f g : FD} (ha : VD X W a f) (hb : VD X W b g) : VP X W (.BinOp a .Mod b pos) (v2 modI f g) := vp_op op_mod ha hb fun σ Q x y vx vy G H s hx hy w => by
  unfold modI cIf at w
  split at w
  · split at w
    · rename_i h
      exact ⟨_, _, hx.int, hy.int, h, jP.int s w⟩
    · exact w.elim
  · exact w.elim
theorem vp_div {f g : FD} (ha : VD X W a f) (hb : VD X W b g) : VP X W (.BinOp a .FloorDiv b pos) (v2 divI f g) := vp_op op_fdiv ha hb fun σ Q x y vx vy G H s hx hy w => by
  unfold divI cIf at w
  split at w
  · split at w
    · rename_i h
      exact ⟨_, _, hx.int, hy.int, h, jP.int s w⟩
    · exact w.elim
  · exact w.elim
noncomputable def addV : PyData → PyData → Res SV
  | .int i, .int j => .ok (.f (.d (.int (i + j))))
  | .list xs, .list ys => cIf (xs.length + ys.length ≤ 16777216) (.ok (SV.dl (xs ++ ys))) .bad
  | .tuple xs, .tuple ys => cIf (xs.length + ys.length ≤ 16777216) (.ok (.f (.d (.tuple (xs ++ ys))))) .bad
  | _, _ => .bad
theorem jO.f {Q : VK} {G H : Hp} {x : FV} (h : jO X.K X.mg Q G H (.f x)) : jP X.K X.mg Q G H x := fun v G' H' e q => h v G' H' [] e (.f q) .nil (fun _ m => by cases m)
theorem sl_eq : sizeLine = 16777216 := sizeLine_eq
theorem Dr.tup {K : PySem.W.Frag} {G H : Hp} {v : V} {ds : List PyData} (h : Dr K G H v (.tuple ds)) : ∃ a vs, v = .ref a ∧ SqT K G a vs ∧ Dqs K G vs ds := by
  cases h with | fz h => cases h with | tup h t => exact ⟨_, _, rfl, h, t⟩
theorem vo_add {f g : FD} (ha : VD X W a f) (hb : VD X W b g) : VO X W (.BinOp a .Add b pos) (v2 addV f g) := vo_op (OpR.or op_add (OpR.or op_cat op_catA)) ha hb fun σ Q x y vx vy G H s hx hy w => by
  unfold addV cIf at w
  split at w
  · exact .inl ⟨_, _, hx.int, hy.int, jP.int s (jO.f w)⟩
  · split at w
    · rename_i xs ys hl
      obtain ⟨p1, v1, e1, h1, t1⟩ := hx.lst s
      obtain ⟨p2, v2, e2, h2, t2⟩ := hy.lst s
      exact .inr (.inl ⟨p1, p2, v1, v2, e1, e2, h1, h2, by rw [t1.length, t2.length, sl_eq]; exact hl, new_dl s (t1.append t2) w⟩)
    · exact w.elim
  · split at w
    · rename_i xs ys hl
      obtain ⟨p1, v1, e1, h1, t1⟩ := hx.tup
      obtain ⟨p2, v2, e2, h2, t2⟩ := hy.tup
      have w' := jO.f w
      refine .inr (.inr ⟨p1, p2, v1, v2, e1, e2, sqt_mono s h1, sqt_mono s h2, by rw [t1.length, t2.length, sl_eq]; exact hl, fun z => ?_, fun _ z => ?_, fun _ _ => new_tup s (t1.append t2) w'⟩)
      · subst z
        cases t1
        exact w' _ G H (Ext.refl s) (.d (.tup h2 t2))
      · subst z
        cases t2
        exact w' _ G H (Ext.refl s) (.d (.tup h1 (by rw [List.append_nil]; exact t1)))
    · exact w.elim
  · exact w.elim
noncomputable def mulV : PyData → PyData → Res SV
  | .int i, .int j => cIf ((-18446744073709551616 < i ∧ i < 18446744073709551616) ∨ (-18446744073709551616 < j ∧ j < 18446744073709551616)) (.ok (.f (.d (.int (i * j))))) .bad
  | .list xs, .int k => cIf (0 ≤ k ∧ k < 1000000 ∧ xs.length * k.toNat ≤ 16777216) (.ok (SV.dl (List.replicate k.toNat xs).flatten)) .bad
  | _, _ => .bad
theorem Dqs.rep {K : PySem.W.Frag} {G : Hp} {vs : List V} {ds : List PyData} (h : Dqs K G vs ds) : ∀ n : Nat, Dqs K G (List.replicate n vs).flatten (List.replicate n ds).flatten
  | 0 => .nil
  | n + 1 => by
    rw [List.replicate_succ, List.replicate_succ, List.flatten_cons, List.flatten_cons]
    exact h.append (Dqs.rep h n)
theorem vo_mul {f g : FD} (ha : VD X W a f) (hb : VD X W b g) : VO X W (.BinOp a .Mult b pos) (v2 mulV f g) := vo_op (OpR.or op_mul op_rep) ha hb fun σ Q x y vx vy G H s hx hy w => by
  unfold mulV cIf at w
  split at w
  · split at w
    · rename_i h
      exact .inl ⟨_, _, hx.int, hy.int, h.imp (fun q => ⟨by have := q.1; omega, by have := q.2; omega⟩) (fun q => ⟨by have := q.1; omega, by have := q.2; omega⟩), jP.int s (jO.f w)⟩
    · exact w.elim
  · split at w
    · rename_i xs k hl
      obtain ⟨p1, v1, e1, h1, t1⟩ := hx.lst s
      exact .inr ⟨p1, k, v1, e1, hy.int, h1, by omega, by omega, by rw [t1.length, sl_eq]; exact hl.2.2, new_dl s (t1.rep k.toNat) w⟩
    · exact w.elim
  · exact w.elim
def negI : PyData → Res FV
  | .int i => iI (-i)
  | _ => .bad
def v1 {α : Type} (h : PyData → Res α) (f : FD) : Env → Res α := fun env => (f env).bind fun x => h x
theorem vp_neg {f : FD} (ha : VD X W a f) : VP X W (.UnaryOp .USub a pos) (v1 negI f) := pe_imp (pe_un un_neg ha) fun σ H Q ⟨G, env, fp, pv, rs, w⟩ =>
  ⟨G, env, fp, pv, rs, PostR.seq w fun x w vx G1 H1 e1 q1 => by
    unfold negI at w
    split at w
    · exact ⟨_, q1.int, w _ G1 H1 e1 (.d (.int _))⟩
    · exact w.elim⟩

def ltI (r : Int → Int → Bool) : PyData → PyData → Res FV
  | .int i, .int j => iB (r i j)
  | _, _ => .bad
theorem rI0_ok {r : Int → Int → Bool} {σ : L2.St} {Q : VK} {x y : PyData} {vx vy : V} {G H : Hp} (s : Same G H) (hx : Dr X.K G H vx x) (hy : Dr X.K G H vy y) (w : PostR X.mg W σ H (jP X.K X.mg Q G H) (ltI r x y)) : rI0 (fun i j => .bl (r i j)) vx vy H Q := by
  unfold ltI at w
  split at w
  · exact ⟨_, _, hx.int, hy.int, jP.bool s w⟩
  · exact w.elim
def eqP (x y : PyData) : Res FV := if SeqAt.shaped x = true ∧ SeqAt.shaped y = true then iB (PyData.eqv x y) else .bad
def neP (x y : PyData) : Res FV := if SeqAt.shaped x = true ∧ SeqAt.shaped y = true then iB (!PyData.eqv x y) else .bad
theorem eqP_ok {σ : L2.St} {Q : VK} {x y : PyData} {vx vy : V} {G H : Hp} (s : Same G H) (hx : Dr X.K G H vx x) (hy : Dr X.K G H vy y) (w : PostR X.mg W σ H (jP X.K X.mg Q G H) (eqP x y)) : rEqD X.K vx vy H Q := by
  unfold eqP at w
  split at w
  · rename_i h
    exact ⟨x, y, hx.dp s, hy.dp s, h.1, h.2, jP.bool s w⟩
  · exact w.elim
theorem neP_ok {σ : L2.St} {Q : VK} {x y : PyData} {vx vy : V} {G H : Hp} (s : Same G H) (hx : Dr X.K G H vx x) (hy : Dr X.K G H vy y) (w : PostR X.mg W σ H (jP X.K X.mg Q G H) (neP x y)) : rNeD X.K vx vy H Q := by
  unfold neP at w
  split at w
  · rename_i h
    exact ⟨x, y, hx.dp s, hy.dp s, h.1, h.2, jP.bool s w⟩
  · exact w.elim
def flatP : PyData → Bool
  | .none => true
  | .bool _ => true
  | .int _ => true
  | .str _ => true
  | _ => false
def toV : PyData → V
  | .none => .non
  | .bool b => .bl b
  | .int i => .int i
  | .str s => .str s
  | _ => .flt 0
theorem Dq.flat {K : PySem.W.Frag} {G : Hp} {v : V} {p : PyData} (h : Dq K G v p) (f : flatP p = true) : v = toV p ∧ flatV v = true := by
  cases h with
  | non => exact ⟨rfl, rfl⟩
  | bl b => exact ⟨rfl, rfl⟩
  | int b => exact ⟨rfl, rfl⟩
  | str b => exact ⟨rfl, rfl⟩
  | lst _ _ => cases f
  | tup _ _ => cases f
theorem Dr.flat {K : PySem.W.Frag} {G H : Hp} {v : V} {p : PyData} (h : Dr K G H v p) (f : flatP p = true) : v = toV p ∧ flatV v = true := by
  cases h with
  | fz h => exact h.flat f
  | top _ _ => cases f
theorem Dqs.flat {K : PySem.W.Frag} {G : Hp} : ∀ {vs : List V} {ds : List PyData}, Dqs K G vs ds → ds.all flatP = true → vs = ds.map toV ∧ vs.all flatV = true
  | _, _, .nil, _ => ⟨rfl, rfl⟩
  | _, _, .cons h t, f => by
    rw [List.all_cons, Bool.and_eq_true] at f
    obtain ⟨e1, f1⟩ := h.flat f.1
    obtain ⟨e2, f2⟩ := Dqs.flat t f.2
    exact ⟨by rw [List.map_cons, ← e1, ← e2], by rw [List.all_cons, f1, f2]; rfl⟩
def inB (neg b : Bool) : Res FV := iB (if neg then !b else b)
def inP (neg : Bool) (x y : PyData) : Res FV := match y with
  | .list ds => if flatP x = true ∧ ds.all flatP = true then inB neg (inV (toV x) (ds.map toV)) else if SeqAt.shaped x = true ∧ SeqAt.shaped (.list ds) = true then inB neg (ds.any fun z => PyData.eqv z x) else .bad
  | .tuple ds => if flatP x = true ∧ ds.all flatP = true then inB neg (inV (toV x) (ds.map toV)) else .bad
  | _ => .bad
theorem inP_ok {neg : Bool} {σ : L2.St} {Q : VK} {x y : PyData} {vx vy : V} {G H : Hp} (s : Same G H) (hx : Dr X.K G H vx x) (hy : Dr X.K G H vy y) (w : PostR X.mg W σ H (jP X.K X.mg Q G H) (inP neg x y)) :
    rIn X.K neg vx vy H Q ∨ (∃ d ds, Dp X.K H vx d ∧ Dp X.K H vy (.list ds) ∧ SeqAt.shaped d = true ∧ SeqAt.shaped (.list ds) = true ∧ Q (.bl (if neg then !(ds.any fun z => PyData.eqv z d) else ds.any fun z => PyData.eqv z d)) H) := by
  unfold inP at w
  split at w
  · rename_i ds
    split at w
    · rename_i hf
      obtain ⟨e1, f1⟩ := hx.flat hf.1
      obtain ⟨p, vs, e2, h2, t2⟩ := hy.lst s
      obtain ⟨e3, f3⟩ := t2.flat hf.2
      refine .inl ⟨p, vs, e2, .inl (SqL.of h2), f1, f3, ?_⟩
      rw [e1, e3]
      exact jP.bool s w
    · split at w
      · rename_i hs
        exact .inr ⟨x, ds, hx.dp s, hy.dp s, hs.1, hs.2, jP.bool s w⟩
      · exact w.elim
  · rename_i ds
    split at w
    · rename_i hf
      obtain ⟨e1, f1⟩ := hx.flat hf.1
      obtain ⟨p, vs, e2, h2, t2⟩ := hy.tup
      obtain ⟨e3, f3⟩ := t2.flat hf.2
      refine .inl ⟨p, vs, e2, .inr (sqt_mono s h2), f1, f3, ?_⟩
      rw [e1, e3]
      exact jP.bool s w
    · exact w.elim
  · exact w.elim
inductive Cop where
  | lt | le | gt | ge | eq | ne | isin | notin
  deriving DecidableEq
def Cop.op : Cop → CmpOp
  | .lt => .Lt | .le => .LtE | .gt => .Gt | .ge => .GtE | .eq => .Eq | .ne => .NotEq | .isin => .In | .notin => .NotIn
def Cop.h : Cop → PyData → PyData → Res FV
  | .lt => ltI fun i j => decide (i < j)
  | .le => ltI fun i j => decide (i ≤ j)
  | .gt => ltI fun i j => decide (j < i)
  | .ge => ltI fun i j => decide (j ≤ i)
  | .eq => eqP
  | .ne => neP
  | .isin => inP false
  | .notin => inP true
def Cop.r (K : PySem.W.Frag) : Cop → R2
  | .lt => rI0 fun i j => .bl (decide (i < j))
  | .le => rI0 fun i j => .bl (decide (i ≤ j))
  | .gt => rI0 fun i j => .bl (decide (j < i))
  | .ge => rI0 fun i j => .bl (decide (j ≤ i))
  | .eq => rEqD K
  | .ne => rNeD K
  | .isin => fun x y H Q => rIn K false x y H Q ∨ rInD K x y H Q
  | .notin => fun x y H Q => rIn K true x y H Q ∨ rNotInD K x y H Q
theorem cop_or (hu : X.A.units + 65 < cLine) : ∀ c : Cop, OpR X (compareOp c.op) (c.r X.K)
  | .lt => op_lt
  | .le => op_le
  | .gt => op_gt
  | .ge => op_ge
  | .eq => op_eqD (by omega)
  | .ne => op_neD (by omega)
  | .isin => OpR.or op_in_seq (op_inD hu)
  | .notin => OpR.or op_notIn_seq (op_notInD hu)
theorem cop_ok {σ : L2.St} {Q : VK} {x y : PyData} {vx vy : V} {G H : Hp} (s : Same G H) (hx : Dr X.K G H vx x) (hy : Dr X.K G H vy y) : ∀ c : Cop, PostR X.mg W σ H (jP X.K X.mg Q G H) (c.h x y) → c.r X.K vx vy H Q
  | .lt, w => rI0_ok s hx hy w
  | .le, w => rI0_ok s hx hy w
  | .gt, w => rI0_ok s hx hy w
  | .ge, w => rI0_ok s hx hy w
  | .eq, w => eqP_ok s hx hy w
  | .ne, w => neP_ok s hx hy w
  | .isin, w => by
    rcases inP_ok s hx hy w with q | ⟨d, ds, h1, h2, h3, h4, q⟩
    · exact .inl q
    · exact .inr ⟨d, ds, h1, h2, h3, h4, q⟩
  | .notin, w => by
    rcases inP_ok s hx hy w with q | ⟨d, ds, h1, h2, h3, h4, q⟩
    · exact .inl q
    · exact .inr ⟨d, ds, h1, h2, h3, h4, q⟩
def vCmp (c : Cop) (f g : FD) : FP := v2 c.h f g
theorem vp_cmp (c : Cop) {f g : FD} (hu : X.A.units + 65 < cLine) (ha : VD X W a f) (hb : VD X W b g) (hm : behindInMarks c.op b = false) : VP X W (.Compare a [c.op] [b] pos) (vCmp c f g) :=
  vp_cm (cop_or hu c) ha hb hm fun σ Q x y vx vy G H s hx hy w => cop_ok s hx hy c w
end
end VL

set_option Elab.async false
set_option linter.all false
set_option maxRecDepth 100000
set_option maxHeartbeats 4000000
namespace VL
open PySem PySem.Spec PyProof.Rows L2
section
variable {X : Cx} {W : WX} {a b c e : Expr} {es : List Expr} {pos : Pos}

def toT (f : FP) : FT := fun env => (f env).bind fun | .d (.bool b) => .ok b | _ => .bad
theorem tT_tP {f : FP} {σ : L2.St} {H : Hp} {Q : Bool → Hp → Prop} (h : tT X.K X.mg W (toT f) σ H Q) : tP X.K X.mg W f σ H fun x H' => ∃ k, x = .bl k ∧ Q k H' := by
  obtain ⟨G, env, fp, pv, rs, w⟩ := h
  refine ⟨G, env, fp, pv, rs, PostR.seq w fun x w v G' H' ex q => ?_⟩
  match x, q, w with
  | .d (.bool k), .d q, w => cases q; exact ⟨k, rfl, w G' H' ex⟩
  | .d .none, _, w => exact w.elim
  | .d (.int _), _, w => exact w.elim
  | .d (.str _), _, w => exact w.elim
  | .d (.list _), _, w => exact w.elim
  | .d (.tuple _), _, w => exact w.elim
  | .d (.dict _), _, w => exact w.elim
  | .ob _ _, _, w => exact w.elim
  | .sc _, _, w => exact w.elim
theorem vt_p {f : FP} (h : VP X W e f) (he : ∀ whole, isTrue e X.env whole = (do let v ← whole; standAt e.pos; holding [v] (truthy v)) := by intro _; rfl) : VT X W e (toT f) :=
  pt_imp (pt_val h he) fun σ H Q w => tT_tP w
theorem vp_cmp_imp {c : Cop} {f g : FD} {σ : L2.St} {H : Hp} {Q : VK} (w : tP X.K X.mg W (vCmp c f g) σ H Q) : tOp (c.r X.K) (tD X.K X.mg W f) (tD X.K X.mg W g) σ H Q := by
  obtain ⟨G, env, fp, pv, rs, w⟩ := w
  exact tD_bin (j := jP X.K X.mg Q) rfl rfl rs w jP.ext fun x y vx vy G H s hx hy w => cop_ok s hx hy c w
theorem vt_cmp (c : Cop) {f g : FD} (hu : X.A.units + 65 < cLine) (ha : VD X W a f) (hb : VD X W b g) (hm : behindInMarks c.op b = false) : VT X W (.Compare a [c.op] [b] pos) (toT (vCmp c f g)) :=
  pt_imp (pt_cmpR (cop_or hu c) ha hb hm) fun σ H Q w => vp_cmp_imp (tT_tP w)
def vChain (c c' : Cop) (f g h : FD) : FP := fun env => (f env).bind fun x => (g env).bind fun y => (c.h x y).bind fun
  | .d (.bool true) => (h env).bind fun z => c'.h y z
  | .d (.bool false) => iB false
  | _ => .bad
theorem vp_chain_imp {c c' : Cop} {f g h : FD} {σ : L2.St} {H : Hp} {Q : VK} (w : tP X.K X.mg W (vChain c c' f g h) σ H Q) : tChain (c.r X.K) (c'.r X.K) (tD X.K X.mg W f) (tD X.K X.mg W g) (tD X.K X.mg W h) σ H Q := by
  obtain ⟨G, env, fp, pv, rs, w⟩ := w
  refine ⟨G, env, fp, pv, rs, PostR.seq w fun x w vx G1 H1 e1 q1 => ⟨G1, env, fp, pv, rs.ext e1, ?_⟩⟩
  refine PostR.imp (PostR.seq (k := fun y => PostR X.mg W σ H (jP X.K X.mg Q G H) ((c.h x y).bind _)) w fun y w => w) e1.h fun y w vy G2 H2 e2 q2 => ?_
  have q1' := q1.mono e2.g e2.h
  show c.r X.K vx vy H2 _
  refine cop_ok (W := W) (σ := σ) e2.s q1' q2 c ?_
  refine PostR.imp (PostR.seq (k := fun z => PostR X.mg W σ H (jP X.K X.mg Q G H) _) w fun z w => w) (e1.h.trans e2.h) fun z w v G3 H3 e3 q3 => ?_
  · match z, q3, w with
    | .d (.bool true), .d q3, w =>
      cases q3
      refine ⟨true, rfl, ?_⟩
      show tD X.K X.mg W h σ H3 _
      refine ⟨G3, env, fp, pv, (rs.ext (e1.trans e2)).ext e3, ?_⟩
      refine PostR.imp (PostR.seq (k := fun z => PostR X.mg W σ H (jP X.K X.mg Q G H) (c'.h y z)) w fun y w => w) ((e1.h.trans e2.h).trans e3.h) fun z w vz G4 H4 e4 q4 => ?_
      exact cop_ok e4.s ((q2.mono e3.g e3.h).mono e4.g e4.h) q4 c' (PostR.imp w (((e1.h.trans e2.h).trans e3.h).trans e4.h) fun z q => jP.ext (((e1.trans e2).trans e3).trans e4) q)
    | .d (.bool false), .d q3, w =>
      cases q3
      exact ⟨false, rfl, jP.bool e3.s (jP.ext ((e1.trans e2).trans e3) w)⟩
    | .d .none, _, w => exact w.elim
    | .d (.int _), _, w => exact w.elim
    | .d (.str _), _, w => exact w.elim
    | .d (.list _), _, w => exact w.elim
    | .d (.tuple _), _, w => exact w.elim
    | .d (.dict _), _, w => exact w.elim
    | .ob _ _, _, w => exact w.elim
    | .sc _, _, w => exact w.elim
theorem vp_chain (k k' : Cop) {f g h : FD} (hu : X.A.units + 65 < cLine) (ha : VD X W a f) (hb : VD X W b g) (hc : VD X W c h) (hm : lastMarks [k.op, k'.op] [b, c] = false) : VP X W (.Compare a [k.op, k'.op] [b, c] pos) (vChain k k' f g h) :=
  pe_imp (pe_chain (cop_or hu k) (cop_or hu k') ha hb hc hm) fun σ H Q w => vp_chain_imp w
theorem vt_chain (k k' : Cop) {f g h : FD} (hu : X.A.units + 65 < cLine) (ha : VD X W a f) (hb : VD X W b g) (hc : VD X W c h) (hm : lastMarks [k.op, k'.op] [b, c] = false) : VT X W (.Compare a [k.op, k'.op] [b, c] pos) (toT (vChain k k' f g h)) :=
  pt_imp (pt_chain (cop_or hu k) (cop_or hu k') ha hb hc hm) fun σ H Q w => vp_chain_imp (tT_tP w)
abbrev VW (X : Cx) (W : WX) (e : Expr) (f : FT) : Prop := PW X e (tT X.K X.mg W f)
theorem pw_imp {t t' : TT} (h : PW X e t) (q : ∀ σ H Q, t' σ H Q → t σ H Q) : PW X e t' := ⟨fun wh pins s σ H Q I w => h.run wh pins s σ H Q I (q σ H Q w)⟩
def vAndT (f g : FT) : FT := fun env => (f env).bind fun b => if b = true then g env else .ok false
def vOrT (f g : FT) : FT := fun env => (f env).bind fun b => if b = true then .ok true else g env
def vNotT (f : FT) : FT := fun env => (f env).bind fun b => .ok (!b)
theorem vw_and1 {f : FT} (h : VT X W a f) : VW X W (.BoolOp .And [a] pos) f := pw_and1 h
theorem vw_or1 {f : FT} (h : VT X W a f) : VW X W (.BoolOp .Or [a] pos) f := pw_or1 h
theorem vw_and {f g : FT} {rest : List Expr} (ha : VT X W a f) (hb : VW X W (.BoolOp .And (b :: rest) pos) g) : VW X W (.BoolOp .And (a :: b :: rest) pos) (vAndT f g) :=
  pw_imp (pw_and ha hb) fun σ H Q ⟨G, env, fp, pv, rs, w⟩ => ⟨G, env, fp, pv, rs, PostR.seq w fun k w G1 H1 e1 => by
    cases k with
    | true => exact ⟨G1, env, fp, pv, rs.ext e1, PostR.imp w e1.h fun z w G2 H2 e2 => w G2 H2 (e1.trans e2)⟩
    | false => exact w G1 H1 e1⟩
theorem vw_or {f g : FT} {rest : List Expr} (ha : VT X W a f) (hb : VW X W (.BoolOp .Or (b :: rest) pos) g) : VW X W (.BoolOp .Or (a :: b :: rest) pos) (vOrT f g) :=
  pw_imp (pw_or ha hb) fun σ H Q ⟨G, env, fp, pv, rs, w⟩ => ⟨G, env, fp, pv, rs, PostR.seq w fun k w G1 H1 e1 => by
    cases k with
    | true => exact w G1 H1 e1
    | false => exact ⟨G1, env, fp, pv, rs.ext e1, PostR.imp w e1.h fun z w G2 H2 e2 => w G2 H2 (e1.trans e2)⟩⟩
theorem vt_w {f : FT} (h : VW X W e f) : VT X W e f := h.pt
theorem vt_not {f : FT} (h : VT X W a f) : VT X W (.UnaryOp .Not a pos) (vNotT f) := pt_imp (pt_not h) fun σ H Q ⟨G, env, fp, pv, rs, w⟩ => ⟨G, env, fp, pv, rs, PostR.seq w fun k w G1 H1 e1 => w G1 H1 e1⟩
def bB {α : Type} (k : Bool → Res α) : FV → Res α
  | .d (.bool b) => k b
  | _ => .bad
def vAnd (f g : FP) : FP := fun env => (f env).bind (bB fun b => if b = true then g env else iB false)
def vOr (f g : FP) : FP := fun env => (f env).bind (bB fun b => if b = true then iB true else g env)
def vNot (f : FP) : FP := fun env => (f env).bind (bB fun b => iB (!b))
theorem bB_ok {α : Type} {K : PySem.W.Frag} {mg : Str → Option Value} {G H : Hp} {σ : L2.St} {v : V} {x : FV} {k : Bool → Res α} {j : α → Prop} (q : Fq K mg G v x) (w : PostR mg W σ H j (bB k x)) : ∃ b, v = .bl b ∧ PostR mg W σ H j (k b) := by
  match x, q, w with
  | .d (.bool b), .d q, w => cases q; exact ⟨b, rfl, w⟩
  | .d .none, _, w => exact w.elim
  | .d (.int _), _, w => exact w.elim
  | .d (.str _), _, w => exact w.elim
  | .d (.list _), _, w => exact w.elim
  | .d (.tuple _), _, w => exact w.elim
  | .d (.dict _), _, w => exact w.elim
  | .ob _ _, _, w => exact w.elim
  | .sc _, _, w => exact w.elim
theorem vp_one {op} {f : FP} (h : VP X W a f) : VP X W (.BoolOp op [a] pos) f := pe_one h
theorem vp_and {f g : FP} {rest : List Expr} (ha : VP X W a f) (hb : VP X W (.BoolOp .And (b :: rest) pos) g) : VP X W (.BoolOp .And (a :: b :: rest) pos) (vAnd f g) :=
  pe_imp (pe_and ha hb) fun σ H Q ⟨G, env, fp, pv, rs, w⟩ => ⟨G, env, fp, pv, rs, PostR.seq w fun k w v G1 H1 e1 q1 => by
    obtain ⟨k, rfl, w⟩ := bB_ok q1 w
    refine ⟨k, rfl, ?_⟩
    cases k with
    | true => exact ⟨G1, env, fp, pv, rs.ext e1, PostR.imp w e1.h fun z w v G2 H2 e2 => w v G2 H2 (e1.trans e2)⟩
    | false => exact jP.bool e1.s (jP.ext e1 w)⟩
theorem vp_not {f : FP} (h : VP X W a f) : VP X W (.UnaryOp .Not a pos) (vNot f) := pe_imp (pe_not h) fun σ H Q ⟨G, env, fp, pv, rs, w⟩ => ⟨G, env, fp, pv, rs, PostR.seq w fun k w v G1 H1 e1 q1 => by
    obtain ⟨k, rfl, w⟩ := bB_ok q1 w
    exact ⟨k, rfl, jP.bool e1.s (jP.ext e1 w)⟩⟩
def vIf {α : Type} (t : FT) (f g : Env → Res α) : Env → Res α := fun env => (t env).bind fun b => if b = true then f env else g env
def isN : PyData → Bool
  | .none => true
  | _ => false
def fldP (cn n : Str) : FV → Res FV
  | .ob c fs => if c = cn then (match fs.lookup n with | some p => .ok (.d p) | none => .bad) else .bad
  | _ => .bad
def vFld (cn n : Str) (f : FP) : FP := fun env => (f env).bind (fldP cn n)
theorem Dqf.look {K : PySem.W.Frag} {G : Hp} {n : Str} : ∀ {vs : List (Str × V)} {fs : List (Str × PyData)} {p : PyData}, Dqf K G vs fs → fs.lookup n = some p → ∃ v, vs.lookup n = some v ∧ Dq K G v p
  | _, _, _, .nil, h => by cases h
  | _, _, _, @Dqf.cons _ _ m v vs d ds h t, q => by
    by_cases e : (n == m) = true
    · simp only [List.lookup, e] at q ⊢
      cases q
      exact ⟨_, rfl, h⟩
    · have e' : (n == m) = false := by simpa using e
      simp only [List.lookup, e'] at q ⊢
      exact Dqf.look t q
def FldK (K : PySem.W.Frag) (mg : Str → Option Value) (c n : Str) : Prop :=
  ∀ C, mg c = some (.ref C) → Cls K C ∧ NoAttr K C n
abbrev FldOk (X : Cx) (c n : Str) : Prop := FldK X.K X.mg c n
theorem vp_fld {cn n : Str} {f : FP} (hc : FldOk X cn n) (ha : VP X W a f) (hb : attributeBase a n X.env (eval a X.env) = eval a X.env) : VP X W (.Attribute a n pos) (vFld cn n f) :=
  pe_imp (pe_fld ha hb) fun σ H Q ⟨G, env, fp, pv, rs, w⟩ => ⟨G, env, fp, pv, rs, PostR.seq w fun x w v G1 H1 e1 q1 => by
      match x, q1, w with
      | .ob c fs, .ob m h t, w =>
        have w0 : PostR X.mg W σ H (jP X.K X.mg Q G H) (if c = cn then (match fs.lookup n with | some p => .ok (.d p) | none => .bad) else .bad) := w
        by_cases ec : c = cn
        · rw [if_pos ec] at w0
          subst ec
          cases z2 : fs.lookup n with
          | none => rw [z2] at w0; exact w0.elim
          | some p =>
            rw [z2] at w0
            obtain ⟨u, hu, du⟩ := t.look z2
            obtain ⟨k1, k2⟩ := hc _ m
            exact ⟨_, _, _, _, u, rfl, e1.s _ _ h, k1, k2, hu, w0 u G1 H1 e1 (.d du)⟩
        · rw [if_neg ec] at w0; exact w0.elim
      | .d _, _, w => exact w.elim
      | .sc _, _, w => exact w.elim⟩

def ixP : PyData → PyData → Res FV
  | .list ds, .int i => match atI ds i with | some d => .ok (.d d) | none => .bad
  | .tuple ds, .int i => match atI ds i with | some d => .ok (.d d) | none => .bad
  | _, _ => .bad
theorem Dqs.atI {K : PySem.W.Frag} {G : Hp} {vs : List V} {ds : List PyData} {i : Int} {d : PyData} (h : Dqs K G vs ds) (e : L2.atI ds i = some d) : ∃ v, L2.atI vs i = some v ∧ Dq K G v d := by
  unfold L2.atI at e ⊢
  rw [h.length]
  cases z : ixN ds.length i with
  | none => rw [z] at e; cases e
  | some j => rw [z] at e; exact h.get e
theorem vp_ix {f g : FD} (ha : VD X W a f) (hb : VD X W b g) (hs : PlainIx b) : VP X W (.Subscript a b pos) (v2 ixP f g) :=
  pe_imp (pe_ix (IxR.or ix_list ix_tup) ha hb hs) fun σ H Q ⟨G, env, fp, pv, rs, w⟩ => tD_bin (j := jP X.K X.mg Q) rfl rfl rs w jP.ext fun x y vx vy G H s hx hy w => by
    unfold ixP at w
    split at w
    · rename_i ds i
      cases z : atI ds i with
      | none => rw [z] at w; exact w.elim
      | some d =>
        rw [z] at w
        obtain ⟨p, vs, e1, h1, t1⟩ := hx.lst s
        obtain ⟨v, hv, dv⟩ := t1.atI z
        exact .inl ⟨p, vs, i, v, e1, hy.int, SqL.of h1, hv, w v G H (Ext.refl s) (.d dv)⟩
    · rename_i ds i
      cases z : atI ds i with
      | none => rw [z] at w; exact w.elim
      | some d =>
        rw [z] at w
        obtain ⟨p, vs, e1, h1, t1⟩ := hx.tup
        obtain ⟨v, hv, dv⟩ := t1.atI z
        exact .inr ⟨p, vs, i, v, e1, hy.int, sqt_mono s h1, hv, w v G H (Ext.refl s) (.d dv)⟩
    · exact w.elim
def ixS (f : FP) (g : FD) : FP := fun env => (f env).bind fun
  | .sc ns => (g env).bind fun
    | .int i => match atI ns i with | some d => iI d | none => .bad
    | _ => .bad
  | _ => .bad
theorem atI_map {α β : Type} (k : α → β) (xs : List α) (i : Int) : atI (xs.map k) i = (atI xs i).map k := by
  unfold atI
  rw [List.length_map]
  cases ixN xs.length i with
  | none => rfl
  | some j => exact List.getElem?_map
theorem vp_ixS {f : FP} {g : FD} (ha : VP X W a f) (hb : VD X W b g) (hs : PlainIx b) : VP X W (.Subscript a b pos) (ixS f g) :=
  pe_imp (pe_ix ix_list ha hb hs) fun σ H Q ⟨G, env, fp, pv, rs, w⟩ => ⟨G, env, fp, pv, rs, PostR.seq w fun x w vx G1 H1 e1 q1 => by
    match x, q1, w with
    | .sc ns, .sc q1, w =>
      refine ⟨G1, env, fp, pv, rs.ext e1, PostR.imp (PostR.seq (k := fun y => PostR X.mg W σ H (jP X.K X.mg Q G H) _) w fun y w => w) e1.h fun y w vy G2 H2 e2 q2 => ?_⟩
      match y, q2, w with
      | .int i, q2, w =>
        have w' : PostR X.mg W σ H (jP X.K X.mg Q G H) (match atI ns i with | some d => iI d | none => .bad) := w
        cases z : atI ns i with
        | none => rw [z] at w'; exact w'.elim
        | some d =>
          rw [z] at w'
          exact ⟨_, ns.map V.int, i, .int d, rfl, q2.int, (e1.s.trans e2.h).seq q1, by rw [atI_map, z]; rfl, jP.int e2.s (jP.ext (e1.trans e2) w')⟩
      | .none, _, w => exact w.elim
      | .bool _, _, w => exact w.elim
      | .str _, _, w => exact w.elim
      | .list _, _, w => exact w.elim
      | .tuple _, _, w => exact w.elim
      | .dict _, _, w => exact w.elim
    | .d _, _, w => exact w.elim
    | .ob _ _, _, w => exact w.elim⟩
abbrev FI := Env → Res (Option Int)
def vNoPart : FI := fun _ => .ok none
def vPart (f : FD) : FI := fun env => (f env).bind fun | .int i => .ok (some i) | _ => .bad
def cutP {α : Type} (xs : List α) (lo hi : Option Int) : List α := (xs.drop (HT.sIx xs.length 0 lo)).take (HT.sIx xs.length xs.length hi - HT.sIx xs.length 0 lo)
def slP (x : PyData) (lo hi : Option Int) : Res SV := match x with
  | .list ds => .ok (SV.dl (cutP ds lo hi))
  | .tuple ds => .ok (.f (.d (.tuple (cutP ds lo hi))))
  | _ => .bad
def vSl (f : FD) (lo hi : FI) : FO := fun env => (f env).bind fun x => (lo env).bind fun l => (hi env).bind fun h => slP x l h
def vNil : Env → Res (List PyData) := fun _ => .ok []
def vCons (f : FD) (g : Env → Res (List PyData)) : Env → Res (List PyData) := fun env => (f env).bind fun x => (g env).bind fun xs => .ok (x :: xs)
theorem va_nil : VA X W [] vNil := pa_imp pa_nil fun σ H Q ⟨G, env, fp, pv, rs, w⟩ => w [] G H (Ext.refl rs.sub) .nil
theorem va_cons {f : FP} {g : Env → Res (List PyData)} (ha : VP X W e f) (hr : VA X W es g) (hs : starEach (e :: es) X.env = (false, eval e X.env) :: starEach es X.env) : VA X W (e :: es) (vCons (toD f) g) :=
  pa_imp (pa_cons ha hr hs) fun σ H Q ⟨G, env, fp, pv, rs, w⟩ => ⟨G, env, fp, pv, rs, by
    have w' := PostR.seq (k := fun x => PostR X.mg W σ H _ ((g env).bind _)) w fun y w => w
    refine PostR.seq w' fun x w v G1 H1 e1 q1 => ?_
    match x, q1, w with
    | .d x, .d q1, w =>
      have w2 : PostR X.mg W σ H _ ((g env).bind _) := w
      exact ⟨G1, env, fp, pv, rs.ext e1, PostR.imp (PostR.seq (k := fun y => PostR X.mg W σ H _ (Res.ok (x :: y))) w2 fun y w => w) e1.h fun xs w vs G2 H2 e2 q2 => w (v :: vs) G2 H2 (e1.trans e2) (.cons (q1.mono e2.g) q2)⟩
    | .ob _ _, _, w => exact w.elim
    | .sc _, _, w => exact w.elim⟩
noncomputable def vLst (g : Env → Res (List PyData)) : FO := fun env => (g env).bind fun xs => cIf (xs.length ≤ 16777216) (.ok (SV.dl xs)) .bad
noncomputable def vTup (g : Env → Res (List PyData)) : FP := fun env => (g env).bind fun xs => cIf (xs.length ≤ 16777216) (.ok (.d (.tuple xs))) .bad
theorem vo_lst {g : Env → Res (List PyData)} (h : VA X W es g) : VO X W (.List es pos) (vLst g) := pe_imp (pe_lst h) fun σ H Q ⟨G, env, fp, pv, rs, w⟩ => ⟨G, env, fp, pv, rs, PostR.seq w fun xs w vs G1 H1 e1 q1 => by
  by_cases h : xs.length ≤ 16777216
  · rw [cIf_pos h] at w
    exact ⟨by rw [q1.length, sl_eq]; exact h, new_dl e1.s q1 (jO.ext e1 w)⟩
  · rw [cIf_neg h] at w; exact w.elim⟩
theorem vp_tup {g : Env → Res (List PyData)} {x1} (h : VA X W es g) : VP X W (.Tuple es x1 pos) (vTup g) := pe_imp (pe_tup h) fun σ H Q ⟨G, env, fp, pv, rs, w⟩ => ⟨G, env, fp, pv, rs, PostR.seq w fun xs w vs G1 H1 e1 q1 => by
  by_cases h : xs.length ≤ 16777216
  · rw [cIf_pos h] at w
    exact ⟨by rw [q1.length, sl_eq]; exact h, new_tup e1.s q1 (jP.ext e1 w)⟩
  · rw [cIf_neg h] at w; exact w.elim⟩
theorem vp_call1 {x : Str} {id : String} {r : List V → Hp → VK → Prop} {h : PyData → Res FV} {f : FD} {p : Pos} (hc : CallR X (.builtin id) r) (hg : Gl X x) (hm : X.mg x = none) (hv : bootBuiltins x = some (.builtin id)) (ha : VD X W e f)
    (hr : ∀ σ Q x vx G H, Same G H → Dr X.K G H vx x → PostR X.mg W σ H (jP X.K X.mg Q G H) (h x) → r [vx] H Q)
    (hn : x ≠ "__name__") (hdb : (x == ("__debug__" : Str)) = false) (he : starEach [e] X.env = (false, eval e X.env) :: starEach [] X.env) (hpl : (backTo pos (starEach [] X.env)).any (·.1) = false) : VP X W (.Call (.Name x p) [e] [] pos) (v1 h f) :=
  pe_imp (pe_callB hc hg hm hv (pa_cons ha pa_nil he) hn hdb he hpl) fun σ H Q ⟨G, env, fp, pv, rs, w⟩ => ⟨G, env, fp, pv, rs, PostR.seq w fun x w v G1 H1 e1 q1 =>
    hr σ Q x v G1 H1 e1.s q1 (PostR.imp w e1.h fun _ q => jP.ext e1 q)⟩
theorem vo_callT1 {x : Str} {T : String} {r : List V → Hp → VK → Prop} {h : PyData → Res SV} {f : FD} {p : Pos} (hc : CallR X (.type T) r) (hg : Gl X x) (hm : X.mg x = none) (hv : bootBuiltins x = some (.type T)) (ha : VD X W e f)
    (hr : ∀ σ Q x vx G H, Same G H → Dr X.K G H vx x → PostR X.mg W σ H (jO X.K X.mg Q G H) (h x) → r [vx] H Q)
    (hn : x ≠ "__name__") (hdb : (x == ("__debug__" : Str)) = false) (he : starEach [e] X.env = (false, eval e X.env) :: starEach [] X.env) (hpl : (backTo pos (starEach [] X.env)).any (·.1) = false) : VO X W (.Call (.Name x p) [e] [] pos) (v1 h f) :=
  pe_imp (pe_callTy hc hg hm hv (pa_cons ha pa_nil he) hn hdb he hpl) fun σ H Q ⟨G, env, fp, pv, rs, w⟩ => ⟨G, env, fp, pv, rs, PostR.seq w fun x w v G1 H1 e1 q1 =>
    hr σ Q x v G1 H1 e1.s q1 (PostR.imp w e1.h fun _ q => jO.ext e1 q)⟩
def lenP : PyData → Res FV
  | .list ds => iI ds.length
  | .tuple ds => iI ds.length
  | _ => .bad
theorem vp_len {f : FD} {p : Pos} (hm : X.mg "len" = none) (ha : VD X W e f) (hg : Gl X "len" := by rfl) (he : starEach [e] X.env = (false, eval e X.env) :: starEach [] X.env := by rfl) (hpl : (backTo pos (starEach [] X.env)).any (·.1) = false := by rfl) : VP X W (.Call (.Name "len" p) [e] [] pos) (v1 lenP f) :=
  vp_call1 call_len_seq hg hm boot_len ha (fun σ Q x vx G H s hx w => by
    unfold lenP at w
    split at w
    · obtain ⟨p, vs, e1, h1, t1⟩ := hx.lst s
      subst e1
      exact ⟨p, vs, rfl, .inl (SqL.of h1), by rw [t1.length]; exact jP.int s w⟩
    · obtain ⟨p, vs, e1, h1, t1⟩ := hx.tup
      subst e1
      exact ⟨p, vs, rfl, .inr (sqt_mono s h1), by rw [t1.length]; exact jP.int s w⟩
    · exact w.elim) (by decide) (by decide) he hpl
def intsOf : List PyData → Option (List Int)
  | [] => some []
  | .int i :: r => (intsOf r).map (i :: ·)
  | _ => none
def boolsOf : List PyData → Option (List Bool)
  | [] => some []
  | .bool i :: r => (boolsOf r).map (i :: ·)
  | _ => none
theorem intsOf_eq : ∀ {ds : List PyData} {ns : List Int}, intsOf ds = some ns → ds = ns.map .int
  | [], _, h => by cases h; rfl
  | .int i :: r, ns, h => by
    have h' : (intsOf r).map (i :: ·) = some ns := h
    cases z : intsOf r with
    | none => rw [z] at h'; cases h'
    | some ms => rw [z] at h'; cases h'; rw [intsOf_eq z]; rfl
  | .none :: _, _, h => by cases h
  | .bool _ :: _, _, h => by cases h
  | .str _ :: _, _, h => by cases h
  | .list _ :: _, _, h => by cases h
  | .tuple _ :: _, _, h => by cases h
  | .dict _ :: _, _, h => by cases h
theorem boolsOf_eq : ∀ {ds : List PyData} {ns : List Bool}, boolsOf ds = some ns → ds = ns.map .bool
  | [], _, h => by cases h; rfl
  | .bool i :: r, ns, h => by
    have h' : (boolsOf r).map (i :: ·) = some ns := h
    cases z : boolsOf r with
    | none => rw [z] at h'; cases h'
    | some ms => rw [z] at h'; cases h'; rw [boolsOf_eq z]; rfl
  | .none :: _, _, h => by cases h
  | .int _ :: _, _, h => by cases h
  | .str _ :: _, _, h => by cases h
  | .list _ :: _, _, h => by cases h
  | .tuple _ :: _, _, h => by cases h
  | .dict _ :: _, _, h => by cases h
theorem intsOf_map (ns : List Int) : intsOf (ns.map .int) = some ns := by
  induction ns with
  | nil => rfl
  | cons n ns ih => show (intsOf (ns.map .int)).map _ = _; rw [ih]; rfl
theorem boolsOf_map (ns : List Bool) : boolsOf (ns.map .bool) = some ns := by
  induction ns with
  | nil => rfl
  | cons n ns ih => show (boolsOf (ns.map .bool)).map _ = _; rw [ih]; rfl
def sumP : PyData → Res FV
  | .list ds => match intsOf ds with | some ns => iI ns.sum | none => .bad
  | _ => .bad
def allP : PyData → Res FV
  | .list ds => match boolsOf ds with | some ns => iB (ns.all id) | none => .bad
  | _ => .bad
theorem vp_sum {f : FD} {p : Pos} (hc : X.calm = true) (hm : X.mg "sum" = none) (ha : VD X W e f) (hg : Gl X "sum" := by rfl) (he : starEach [e] X.env = (false, eval e X.env) :: starEach [] X.env := by rfl) (hpl : (backTo pos (starEach [] X.env)).any (·.1) = false := by rfl) : VP X W (.Call (.Name "sum" p) [e] [] pos) (v1 sumP f) :=
  vp_call1 (cr_sum hc) hg hm (by decide +kernel) ha (fun σ Q x vx G H s hx w => by
    unfold sumP at w
    split at w
    · rename_i ds
      cases z : intsOf ds with
      | none => rw [z] at w; exact w.elim
      | some ns =>
        rw [z] at w
        obtain ⟨p, vs, e1, h1, t1⟩ := hx.lst s
        rw [intsOf_eq z] at t1
        rw [t1.ints] at h1
        subst e1
        exact ⟨p, ns, rfl, SqL.of h1, jP.int s w⟩
    · exact w.elim) (by decide) (by decide) he hpl
theorem vp_all {f : FD} {p : Pos} (hc : X.calm = true) (hm : X.mg "all" = none) (ha : VD X W e f) (hg : Gl X "all" := by rfl) (he : starEach [e] X.env = (false, eval e X.env) :: starEach [] X.env := by rfl) (hpl : (backTo pos (starEach [] X.env)).any (·.1) = false := by rfl) : VP X W (.Call (.Name "all" p) [e] [] pos) (v1 allP f) :=
  vp_call1 (cr_all hc) hg hm (by decide +kernel) ha (fun σ Q x vx G H s hx w => by
    unfold allP at w
    split at w
    · rename_i ds
      cases z : boolsOf ds with
      | none => rw [z] at w; exact w.elim
      | some ns =>
        rw [z] at w
        obtain ⟨p, vs, e1, h1, t1⟩ := hx.lst s
        rw [boolsOf_eq z] at t1
        rw [t1.bools] at h1
        subst e1
        exact ⟨p, ns, rfl, SqL.of h1, jP.bool s w⟩
    · exact w.elim) (by decide) (by decide) he hpl
def listP : PyData → Res SV
  | .list ds => .ok (SV.dl ds)
  | .tuple ds => .ok (SV.dl ds)
  | _ => .bad
theorem vo_list {f : FD} {p : Pos} (hm : X.mg "list" = none) (ha : VD X W e f) (hg : Gl X "list" := by rfl) (he : starEach [e] X.env = (false, eval e X.env) :: starEach [] X.env := by rfl) (hpl : (backTo pos (starEach [] X.env)).any (·.1) = false := by rfl) : VO X W (.Call (.Name "list" p) [e] [] pos) (v1 listP f) :=
  vo_callT1 call_list_of hg hm boot_list ha (fun σ Q x vx G H s hx w => by
    unfold listP at w
    split at w
    · obtain ⟨p, vs, e1, h1, t1⟩ := hx.lst s
      subst e1
      exact ⟨p, vs, rfl, .inl (SqL.of h1), new_dl s t1 w⟩
    · obtain ⟨p, vs, e1, h1, t1⟩ := hx.tup
      subst e1
      exact ⟨p, vs, rfl, .inr (sqt_mono s h1), new_dl s t1 w⟩
    · exact w.elim) (by decide) (by decide) he hpl
def insI (x : Int) : List Int → List Int
  | [] => [x]
  | y :: r => if x ≤ y then x :: y :: r else y :: insI x r
def srtI : List Int → List Int
  | [] => []
  | x :: r => insI x (srtI r)
def sortP : PyData → Res SV
  | .list ds => match intsOf ds with | some ns => .ok (SV.dl ((srtI ns).map .int)) | none => .bad
  | _ => .bad
def intP : PyData → Res SV
  | .int i => .ok (.f (.d (.int i)))
  | .bool b => .ok (.f (.d (.int (if b then 1 else 0))))
  | _ => .bad
theorem vo_int {f : FD} {p : Pos} (hm : X.mg "int" = none) (ha : VD X W e f) (hg : Gl X "int" := by rfl) (he : starEach [e] X.env = (false, eval e X.env) :: starEach [] X.env := by rfl) (hpl : (backTo pos (starEach [] X.env)).any (·.1) = false := by rfl) : VO X W (.Call (.Name "int" p) [e] [] pos) (v1 intP f) :=
  vo_callT1 call_int1 hg hm boot_int ha (fun σ Q x vx G H s hx w => by
    unfold intP at w
    split at w
    · have e1 := hx.int
      subst e1
      exact .inl ⟨_, rfl, jP.int s (jO.f w)⟩
    · have e1 := hx.bool
      subst e1
      exact .inr ⟨_, rfl, jP.int s (jO.f w)⟩
    · exact w.elim) (by decide) (by decide) he hpl
def maxI : PyData → PyData → Res FV
  | .int i, .int j => iI (if j > i then j else i)
  | _, _ => .bad
def minI : PyData → PyData → Res FV
  | .int i, .int j => iI (if j < i then j else i)
  | _, _ => .bad
theorem vp_call2 {x : Str} {id : String} {r : List V → Hp → VK → Prop} {h : PyData → PyData → Res FV} {f g : FD} {p : Pos} (hc : CallR X (.builtin id) r) (hg : Gl X x) (hm : X.mg x = none) (hv : bootBuiltins x = some (.builtin id)) (ha : VD X W a f) (hb : VD X W b g)
    (hr : ∀ σ Q x y vx vy G H, Same G H → Dr X.K G H vx x → Dr X.K G H vy y → PostR X.mg W σ H (jP X.K X.mg Q G H) (h x y) → r [vx, vy] H Q)
    (hn : x ≠ "__name__") (hdb : (x == ("__debug__" : Str)) = false) (he : starEach [a, b] X.env = (false, eval a X.env) :: starEach [b] X.env) (he2 : starEach [b] X.env = (false, eval b X.env) :: starEach [] X.env) (hpl : (backTo pos (starEach [b] X.env)).any (·.1) = false) : VP X W (.Call (.Name x p) [a, b] [] pos) (v2 h f g) :=
  pe_imp (pe_callB hc hg hm hv (pa_cons ha (pa_cons hb pa_nil he2) he) hn hdb he hpl) fun σ H Q ⟨G, env, fp, pv, rs, w⟩ =>
    (tD_bin (r := fun x y H Q => r [x, y] H Q) (j := jP X.K X.mg Q) rfl rfl rs w jP.ext (hr σ Q) :)
theorem vp_max {f g : FD} {p : Pos} (hc : X.calm = true) (hm : X.mg "max" = none) (ha : VD X W a f) (hb : VD X W b g) (hg : Gl X "max" := by rfl) (he : starEach [a, b] X.env = (false, eval a X.env) :: starEach [b] X.env := by rfl) (he2 : starEach [b] X.env = (false, eval b X.env) :: starEach [] X.env := by rfl) (hpl : (backTo pos (starEach [b] X.env)).any (·.1) = false := by rfl) : VP X W (.Call (.Name "max" p) [a, b] [] pos) (v2 maxI f g) :=
  vp_call2 (call_max2 hc) hg hm (by decide +kernel) ha hb (fun σ Q x y vx vy G H s hx hy w => by
    unfold maxI at w
    split at w
    · have e1 := hx.int
      have e2 := hy.int
      subst e1 e2
      exact ⟨_, _, rfl, jP.int s w⟩
    · exact w.elim) (by decide) (by decide) he he2 hpl
theorem vp_min {f g : FD} {p : Pos} (hc : X.calm = true) (hm : X.mg "min" = none) (ha : VD X W a f) (hb : VD X W b g) (hg : Gl X "min" := by rfl) (he : starEach [a, b] X.env = (false, eval a X.env) :: starEach [b] X.env := by rfl) (he2 : starEach [b] X.env = (false, eval b X.env) :: starEach [] X.env := by rfl) (hpl : (backTo pos (starEach [b] X.env)).any (·.1) = false := by rfl) : VP X W (.Call (.Name "min" p) [a, b] [] pos) (v2 minI f g) :=
  vp_call2 (call_min2 hc) hg hm (by decide +kernel) ha hb (fun σ Q x y vx vy G H s hx hy w => by
    unfold minI at w
    split at w
    · have e1 := hx.int
      have e2 := hy.int
      subst e1 e2
      exact ⟨_, _, rfl, jP.int s w⟩
    · exact w.elim) (by decide) (by decide) he he2 hpl
def vLenS (f : FP) : FP := fun env => (f env).bind fun | .sc ns => iI ns.length | _ => .bad
theorem vp_lenS {f : FP} {p : Pos} (hm : X.mg "len" = none) (ha : VP X W e f) (hg : Gl X "len" := by rfl) (he : starEach [e] X.env = (false, eval e X.env) :: starEach [] X.env := by rfl) (hpl : (backTo pos (starEach [] X.env)).any (·.1) = false := by rfl) : VP X W (.Call (.Name "len" p) [e] [] pos) (vLenS f) :=
  pe_imp (pe_callB call_len_seq hg hm boot_len (pa_cons ha pa_nil he) (by decide) (by decide) he hpl) fun σ H Q ⟨G, env, fp, pv, rs, w⟩ => ⟨G, env, fp, pv, rs, PostR.seq w fun x w v G1 H1 e1 q1 => by
    match x, q1, w with
    | .sc ns, .sc q1, w => exact ⟨_, ns.map V.int, rfl, .inl (e1.s.seq q1), by rw [List.length_map]; exact jP.int e1.s (jP.ext e1 w)⟩
    | .d _, _, w => exact w.elim
    | .ob _ _, _, w => exact w.elim⟩
end
end VL

set_option Elab.async false
set_option linter.all false
set_option maxRecDepth 100000
set_option maxHeartbeats 4000000
namespace VL
open PySem PySem.Spec PyProof.Rows L2

structure Stp (G H : Hp) (fp : Nat → List Addr) (G' H' : Hp) (fp' : Nat → List Addr) : Prop where
  g : Same G G'
  fr : ∀ b o, H b = some o → (∀ i, b ∉ fp i) → H' b = some o
  n : ∀ a o, G' a = some o → G a = some o ∨ H a = none ∨ ∃ i, a ∈ fp i
  f : ∀ i a, a ∈ fp' i → H a = none ∨ ∃ j, a ∈ fp j
  trk : ∀ b, H' b = none → H b = none
  fld : ∀ a C dx vs, H a = some (.ins C dx vs) → ∃ vs', H' a = some (.ins C dx vs') ∧ ∀ (f : Str) x, f ≠ "chance" → vs.lookup f = some x → vs'.lookup f = some x
section
variable {K : PySem.W.Frag} {mg : Str → Option Value} {G G' G2 H H' H2 : Hp} {fp fp' fp2 : Nat → List Addr} {σ σ' : L2.St} {env env' : Env} {pv : Nat → V}
theorem Stp.of_ext (e : Ext G H G' H') : Stp G H fp G' H' fp where
  g := e.g
  fr := fun b o h _ => e.h b o h
  n := fun a o h => by
    rcases e.n a o h with q | q
    · exact .inl q
    · exact .inr (.inl q)
  f := fun i a m => .inr ⟨i, m⟩
  trk := fun b h => none_back e.h h
  fld := fun a C dx vs h => ⟨vs, e.h _ _ h, fun _ _ _ q => q⟩
theorem Stp.refl (s : Same G H) : Stp G H fp G H fp := Stp.of_ext (Ext.refl s)
theorem Stp.trans (a : Stp G H fp G' H' fp') (b : Stp G' H' fp' G2 H2 fp2) : Stp G H fp G2 H2 fp2 where
  g := a.g.trans b.g
  fr := fun c o h n => by
    refine b.fr c o (a.fr c o h n) fun i m => ?_
    rcases a.f i c m with q | ⟨j, q⟩
    · rw [h] at q; cases q
    · exact n j q
  n := fun c o h => by
    rcases b.n c o h with q | q | ⟨i, q⟩
    · exact a.n c o q
    · exact .inr (.inl (a.trk c q))
    · rcases a.f i c q with q | q
      · exact .inr (.inl q)
      · exact .inr (.inr q)
  f := fun i c m => by
    rcases b.f i c m with q | ⟨j, q⟩
    · exact .inl (a.trk c q)
    · exact a.f j c q
  trk := fun c h => a.trk c (b.trk c h)
  fld := fun c C dx vs h => by
    obtain ⟨vs1, h1, k1⟩ := a.fld c C dx vs h
    obtain ⟨vs2, h2, k2⟩ := b.fld c C dx vs1 h1
    exact ⟨vs2, h2, fun f x hf q => k2 f x hf (k1 f x hf q)⟩
theorem Stp.sub (a : Stp G H fp G' H' fp') (h : ∀ i b, b ∈ fp2 i → H b = none ∨ ∃ j, b ∈ fp j) : Stp G H fp G' H' fp2 := ⟨a.g, a.fr, a.n, h, a.trk, a.fld⟩

abbrev ST := Env → Flow
def Post (K : PySem.W.Frag) (mg : Str → Option Value) (W : WX) (D : Ends) (G H : Hp) (fp : Nat → List Addr) (pv : Nat → V) : Flow → Prop
  | .nx e => ∀ G' σ' H' fp', Stp G H fp G' H' fp' → RS K mg G' σ' e H' fp' pv → D.nx σ' H'
  | .rt s e => ∀ v G' σ' H' fp' r, Stp G H fp G' H' fp' → RS K mg G' σ' e H' fp' pv → Ow K mg G' H' v s r → r.Nodup → (∀ a ∈ r, G' a = none ∧ (∀ i, a ∉ fp' i) ∧ (H a = none ∨ ∃ j, a ∈ fp j)) → D.rt v H'
  | .err c e => ∀ C G' σ' H' fp', mg c = some (.ref C) → Stp G H fp G' H' fp' → RS K mg G' σ' e H' fp' pv → W (.ref C) none σ' H'
  | .bad => False
theorem Post.step {W : WX} {D : Ends} {f : Flow} (s : Stp G H fp G' H' fp') (h : Post K mg W D G H fp pv f) : Post K mg W D G' H' fp' pv f := by
  cases f with
  | nx e => exact fun G2 σ2 H2 fp2 s2 r => h G2 σ2 H2 fp2 (s.trans s2) r
  | rt x e =>
    refine fun v G2 σ2 H2 fp2 r s2 rs ow nd fr => h v G2 σ2 H2 fp2 r (s.trans s2) rs ow nd fun a m => ?_
    obtain ⟨a1, a2, a3⟩ := fr a m
    refine ⟨a1, a2, ?_⟩
    rcases a3 with q | ⟨j, q⟩
    · exact .inl (s.trk a q)
    · exact s.f j a q
  | err c e => exact fun C G2 σ2 H2 fp2 m s2 r => h C G2 σ2 H2 fp2 m (s.trans s2) r
  | bad => exact h
def tS (K : PySem.W.Frag) (mg : Str → Option Value) (W : WX) (f : ST) : TS := fun D σ H => ∃ G env fp pv, RS K mg G σ env H fp pv ∧ Post K mg W D G H fp pv (f env)
def ofR {α : Type} (r : Res α) (e : Env) (k : α → Flow) : Flow := match r with
  | .ok a => k a
  | .err c => .err c e
  | .bad => .bad
theorem Post.ofR {α : Type} {W : WX} {D : Ends} {r : Res α} {k : α → Flow} {j : α → Prop} (rs : RS K mg G σ env H fp pv) (h : Post K mg W D G H fp pv (ofR r env k)) (q : ∀ a, Post K mg W D G H fp pv (k a) → j a) : PostR mg W σ H j r := by
  cases r with
  | ok a => exact q a h
  | err c => exact fun C H' m s => h C G σ H' fp m (Stp.of_ext ⟨Same.refl _, s, rs.sub.trans s, fun _ _ e => .inl e⟩) (rs.same s)
  | bad => exact h

theorem RS.notin (h : RS K mg G σ env H fp pv) {a : Addr} (n : H a = none) (j : Nat) : a ∉ fp j := fun m => by
  obtain ⟨o, ho⟩ := h.there j a m
  rw [n] at ho
  cases ho

theorem RS.set {i : Nat} {v : V} {s : SV} {r : List Addr} (h : RS K mg G σ env H fp pv) (hi : i < env.length) (ow : Ow K mg G H v s r) (nd : r.Nodup) (hr : ∀ a ∈ r, G a = none ∧ ∀ j, a ∉ fp j) :
    RS K mg G (σ.set i (some v)) (env.set i (.va s)) H (fun j => if j = i then r else fp j) pv where
  len := by rw [List.length_set, List.length_set]; exact h.len
  rel := fun j u e => by
    by_cases q : j = i
    · subst q
      rw [List.getElem?_set_self hi] at e
      cases e
      rw [List.getElem?_set_self (by rw [← h.len]; exact hi)]
      exact ⟨v, rfl, by rw [if_pos rfl]; exact ow⟩
    · rw [List.getElem?_set_ne (Ne.symm q)] at e
      rw [List.getElem?_set_ne (Ne.symm q), if_neg q]
      exact h.rel j u e
  nil := fun j hj => by
    rw [List.length_set] at hj
    show (if j = i then r else fp j) = []
    rw [if_neg (by omega)]
    exact h.nil j hj
  sub := h.sub
  out := fun j a m => by
    by_cases q : j = i
    · rw [if_pos q] at m; exact (hr a m).1
    · rw [if_neg q] at m; exact h.out j a m
  nd := fun j => by
    show (if j = i then r else fp j).Nodup
    by_cases q : j = i
    · rw [if_pos q]; exact nd
    · rw [if_neg q]; exact h.nd j
  dj := fun j k a m1 m2 => by
    by_cases q1 : j = i
    · rw [if_pos q1] at m1
      by_cases q2 : k = i
      · rw [q1, q2]
      · rw [if_neg q2] at m2; exact absurd m2 ((hr a m1).2 k)
    · rw [if_neg q1] at m1
      by_cases q2 : k = i
      · rw [if_pos q2] at m2; exact absurd m1 ((hr a m2).2 j)
      · rw [if_neg q2] at m2; exact h.dj j k a m1 m2
theorem RS.drop (h : RS K mg G σ env H fp pv) (i : Nat) : RS K mg G σ (env.set i .no) H (fun j => if j = i then [] else fp j) pv where
  len := by rw [List.length_set]; exact h.len
  rel := fun j u e => by
    by_cases q : j = i
    · subst q
      by_cases hi : j < env.length
      · rw [List.getElem?_set_self hi] at e
        cases e
        show (if j = j then [] else fp j) = []
        rw [if_pos rfl]
      · rw [List.getElem?_eq_none (by rw [List.length_set]; omega)] at e; cases e
    · rw [List.getElem?_set_ne (Ne.symm q)] at e
      rw [if_neg q]
      exact h.rel j u e
  nil := fun j hj => by
    rw [List.length_set] at hj
    show (if j = i then [] else fp j) = []
    by_cases q : j = i
    · rw [if_pos q]
    · rw [if_neg q]; exact h.nil j hj
  sub := h.sub
  out := fun j a m => by
    by_cases q : j = i
    · rw [if_pos q] at m; cases m
    · rw [if_neg q] at m; exact h.out j a m
  nd := fun j => by
    show (if j = i then [] else fp j).Nodup
    by_cases q : j = i
    · rw [if_pos q]; exact .nil
    · rw [if_neg q]; exact h.nd j
  dj := fun j k a m1 m2 => by
    by_cases q1 : j = i
    · rw [if_pos q1] at m1; cases m1
    · rw [if_neg q1] at m1
      by_cases q2 : k = i
      · rw [if_pos q2] at m2; cases m2
      · rw [if_neg q2] at m2; exact h.dj j k a m1 m2
theorem sub_ite {i : Nat} {r : List Addr} (hr : ∀ a ∈ r, H a = none ∨ ∃ j, a ∈ fp j) : ∀ j a, a ∈ (if j = i then r else fp j) → H a = none ∨ ∃ j, a ∈ fp j := fun j a m => by
  by_cases q : j = i
  · rw [if_pos q] at m; exact hr a m
  · rw [if_neg q] at m; exact .inr ⟨j, m⟩
def canSet (e : Env) (i : Nat) : Bool := match e[i]? with
  | some (.rf _) => false
  | some _ => true
  | none => false
theorem canSet_lt {e : Env} {i : Nat} (h : canSet e i = true) : i < e.length := by
  unfold canSet at h
  cases q : e[i]? with
  | none => rw [q] at h; cases h
  | some s => exact (List.getElem?_eq_some_iff.mp q).1
def setS (e : Env) (i : Nat) (s : Slot) : Flow := if canSet e i = true then .nx (e.set i s) else .bad
theorem post_set {W : WX} {D : Ends} {i : Nat} {v : V} {s : SV} {r : List Addr} (rs : RS K mg G σ env H fp pv) (ow : Ow K mg G H v s r) (nd : r.Nodup) (hr : ∀ a ∈ r, G a = none ∧ ∀ j, a ∉ fp j)
    {G0 H0 : Hp} (st : Stp G0 H0 fp G H fp) (hn : ∀ a ∈ r, H0 a = none ∨ ∃ j, a ∈ fp j)
    (h : Post K mg W D G0 H0 fp pv (setS env i (.va s))) : D.nx (σ.set i (some v)) H := by
  unfold setS at h
  by_cases c : canSet env i = true
  · rw [if_pos c] at h
    exact h G _ H _ (st.sub (sub_ite hn)) (rs.set (canSet_lt c) ow nd hr)
  · rw [if_neg c] at h; exact h.elim
end

section
variable {X : Cx} {W : WX} {a b c e : Expr} {es : List Expr} {pos : Pos} {st : Stmt} {sts : List Stmt}
abbrev VS (X : Cx) (W : WX) (st : Stmt) (f : ST) : Prop := PS X st (tS X.K X.mg W f)
abbrev VSs (X : Cx) (W : WX) (st : List Stmt) (f : ST) : Prop := PSs X st (tS X.K X.mg W f)
def vSkip : ST := fun e => .nx e
def vSeq (f g : ST) : ST := fun e => match f e with
  | .nx e => g e
  | r => r
theorem vss_nil : VSs X W [] vSkip := pss_imp pss_nil fun D σ H ⟨G, env, fp, pv, rs, w⟩ => w G σ H fp (Stp.refl rs.sub) rs
theorem vss_cons {f g : ST} (h1 : VS X W st f) (h2 : VSs X W sts g) : VSs X W (st :: sts) (vSeq f g) := pss_imp (pss_cons h1 h2) fun D σ H ⟨G, env, fp, pv, rs, w⟩ => by
  refine ⟨G, env, fp, pv, rs, ?_⟩
  unfold vSeq at w
  cases z : f env with
  | nx e =>
    rw [z] at w
    exact fun G' σ' H' fp' s r => ⟨G', e, fp', pv, r, w.step s⟩
  | rt v e => rw [z] at w; exact w
  | err c e => rw [z] at w; exact w
  | bad => rw [z] at w; exact w
theorem vss_one {f : ST} (h : VS X W st f) : VSs X W [st] f := pss_one h
def vSet (i : Nat) (f : FP) : ST := fun e => ofR (f e) e fun x => setS e i (.va (.f x))
def vSetO (i : Nat) (f : FO) : ST := fun e => ofR (f e) e fun x => setS e i (.va x)
theorem imp_set {i : Nat} {f : FP} {D : Ends} {σ : L2.St} {H : Hp} (h : tS X.K X.mg W (vSet i f) D σ H) : tAsg (tP X.K X.mg W f) (gName i) D σ H := by
  obtain ⟨G, env, fp, pv, rs, w⟩ := h
  exact ⟨G, env, fp, pv, rs, Post.ofR rs w fun x w v G1 H1 e1 q1 => post_set (rs.ext e1) (.f q1) .nil (fun a m => by cases m) (Stp.of_ext e1) (fun a m => by cases m) w⟩
theorem imp_setO {i : Nat} {f : FO} {D : Ends} {σ : L2.St} {H : Hp} (h : tS X.K X.mg W (vSetO i f) D σ H) : tAsg (tO X.K X.mg W f) (gName i) D σ H := by
  obtain ⟨G, env, fp, pv, rs, w⟩ := h
  exact ⟨G, env, fp, pv, rs, Post.ofR rs w fun x w v G1 H1 r e1 q1 nd fr => post_set (rs.ext e1) q1 nd (fun a m => ⟨(fr a m).2, rs.notin (fr a m).1⟩) (Stp.of_ext e1) (fun a m => .inl (fr a m).1) w⟩
theorem vs_set {i : Nat} {x : Str} {f : FP} {pos' : Pos} (hN : X.N.Nodup) (hi : X.N[i]? = some x) (hx : Loc X.env.scope x) (he : VP X W e f) (hs : swapsWith e (some (.Name x pos')) pos.line X.env = pure false) (hf : X.fn x = true ∨ X.env.scope.names.lookup x = some .local) :
    VS X W (.Assign [.Name x pos'] e pos) (vSet i f) := ps_imp (ps_set hN hi hx he hs hf) fun D σ H h => imp_set h
theorem vs_setO {i : Nat} {x : Str} {f : FO} {pos' : Pos} (hN : X.N.Nodup) (hi : X.N[i]? = some x) (hx : Loc X.env.scope x) (he : VO X W e f) (hs : swapsWith e (some (.Name x pos')) pos.line X.env = pure false) (hf : X.fn x = true ∨ X.env.scope.names.lookup x = some .local) :
    VS X W (.Assign [.Name x pos'] e pos) (vSetO i f) := ps_imp (ps_set hN hi hx he hs hf) fun D σ H h => imp_setO h
def vIfS (t : FT) (f g : ST) : ST := fun e => ofR (t e) e fun b => if b = true then f e else g e
theorem vs_if {t : FT} {f g : ST} {A B : List Stmt} (hc : VT X W c t) (ha : VSs X W A f) (hb : VSs X W B g) : VS X W (.If c A B pos) (vIfS t f g) :=
  ps_imp (ps_if hc ha hb) fun D σ H ⟨G, env, fp, pv, rs, w⟩ => ⟨G, env, fp, pv, rs, Post.ofR rs w fun b w G1 H1 e1 => by
    cases b with
    | true => exact ⟨G1, env, fp, pv, rs.ext e1, w.step (Stp.of_ext e1)⟩
    | false => exact ⟨G1, env, fp, pv, rs.ext e1, w.step (Stp.of_ext e1)⟩⟩
def vRet (f : FO) : ST := fun e => ofR (f e) e fun s => .rt s e
def vRetP (f : FP) : ST := fun e => ofR (f e) e fun x => .rt (.f x) e
theorem vs_ret {f : FO} (he : VO X W e f) : VS X W (.Return (some e) pos) (vRet f) := ps_imp (ps_ret he) fun D σ H ⟨G, env, fp, pv, rs, w⟩ => ⟨G, env, fp, pv, rs, Post.ofR rs w fun s w v G1 H1 r e1 q1 nd fr =>
  w v G1 σ H1 fp r (Stp.of_ext e1) (rs.ext e1) q1 nd fun a m => ⟨(fr a m).2, rs.notin (fr a m).1, .inl (fr a m).1⟩⟩
theorem vs_retP {f : FP} (he : VP X W e f) : VS X W (.Return (some e) pos) (vRetP f) := ps_imp (ps_ret he) fun D σ H ⟨G, env, fp, pv, rs, w⟩ => ⟨G, env, fp, pv, rs, Post.ofR rs w fun s w v G1 H1 e1 q1 =>
  w v G1 σ H1 fp [] (Stp.of_ext e1) (rs.ext e1) (.f q1) .nil fun a m => by cases m⟩
def vRetV (i : Nat) : ST := fun e => match e[i]? with
  | some (.va s) => .rt s (e.set i .no)
  | _ => .bad
theorem vs_retV {i : Nat} (he : PE X e (tVar i)) : VS X W (.Return (some e) pos) (vRetV i) := ps_imp (ps_ret he) fun D σ H ⟨G, env, fp, pv, rs, w⟩ => by
  unfold vRetV at w
  split at w
  · rename_i s z
    obtain ⟨v, e1, ow⟩ := rs.rel i _ z
    refine ⟨v, e1, w v G σ H _ (fp i) (Stp.sub (Stp.refl (fp := fp) rs.sub) (sub_ite (r := []) fun a m => by cases m)) (rs.drop i) ow (rs.nd i) fun a m => ⟨rs.out i a m, fun j m2 => ?_, .inr ⟨i, m⟩⟩⟩
    by_cases hj : j = i
    · rw [if_pos hj] at m2; cases m2
    · rw [if_neg hj] at m2; exact hj (rs.dj j i a m2 m)
  · exact w.elim
def vRetN : ST := fun e => .rt (.f (.d .none)) e
def vRaise (c : Str) : ST := fun e => .err c e
theorem vs_raise {x m : Str} {j : Nat} {p p2 p3 : Pos} {C : Addr} {bmB : List Value} {B newId initId : String} (hc : X.calm = true) (tk : Takes X W) (F : ExcBaseFacts B newId initId bmB) (q : PySem.W.excIn X.K C bmB newId = true) (gC : X.mg x = some (.ref C)) (kC : PySem.W.keepIn X.K (.ref C) = true) (r : Raises X (.ref C)) (hg : Gl X x) (hdb : (x == ("__debug__" : Str)) = false) :
    VS X W (.Raise (some (.Call (.Name x p) [.Constant (.str m) j p2] [] pos)) none p3) (vRaise x) := ps_imp (ps_raise hc tk (pmk_own F q gC kC r hg hdb)) fun D σ H ⟨G, env, fp, pv, rs, w⟩ => w C G σ H fp gC (Stp.refl rs.sub) rs
def vDrop (f : FO) : ST := fun e => ofR (f e) e fun _ => .nx e
abbrev Tgt := PyData → Env → Option Env
def gN (i : Nat) : Tgt := fun x e => if canSet e i = true then some (e.set i (.va (.f (.d x)))) else none
def Outs (ts : List Nat) (σ σ' : L2.St) : Prop := σ'.length = σ.length ∧ ∀ j, j ∉ ts → σ'[j]? = σ[j]?
def tG (K : PySem.W.Frag) (mg : Str → Option Value) (ts : List Nat) (g : Tgt) : TG := fun v σ H Q => ∃ G env fp pv x, RS K mg G σ env H fp pv ∧ Dq K G v x ∧ match g x env with
  | some e => ∀ σ' fp', (∀ i a, a ∈ fp' i → ∃ j, a ∈ fp j) → Outs ts σ σ' → RS K mg G σ' e H fp' pv → Q σ' H
  | none => False
abbrev VG (X : Cx) (ts : List Nat) (e : Expr) (g : Tgt) : Prop := PG X e (tG X.K X.mg ts g)
theorem vg_imp {i : Nat} {v : V} {σ : L2.St} {H : Hp} {Q : L2.St → Hp → Prop} (h : tG X.K X.mg [i] (gN i) v σ H Q) : gName i v σ H Q := by
  obtain ⟨G, env, fp, pv, x, rs, d, w⟩ := h
  unfold gN at w
  by_cases c : canSet env i = true
  · rw [if_pos c] at w
    refine w _ _ (fun j a m => ?_) ⟨List.length_set, fun j hj => List.getElem?_set_ne (fun q => hj (by rw [q]; exact List.mem_cons_self))⟩ (rs.set (canSet_lt c) (.f (.d d)) .nil (fun a m => by cases m))
    by_cases q : j = i
    · rw [if_pos q] at m; cases m
    · rw [if_neg q] at m; exact ⟨j, m⟩
  · rw [if_neg c] at w; exact w.elim
theorem vg_name {i : Nat} {x : Str} (hN : X.N.Nodup) (hi : X.N[i]? = some x) (hx : Loc X.env.scope x) (hf : X.fn x = true ∨ X.env.scope.names.lookup x = some .local) : VG X [i] (.Name x pos) (gN i) :=
  pg_imp (pg_name hN hi hx hf) fun v σ H Q h => vg_imp h
abbrev Tgts := List PyData → Env → Option Env
def gsN : Tgts := fun xs e => match xs with | [] => some e | _ => none
def gsC (g : Tgt) (r : Tgts) : Tgts := fun xs e => match xs with | x :: xs => (g x e).bind (r xs) | [] => none
def tGs (K : PySem.W.Frag) (mg : Str → Option Value) (ts : List Nat) (g : Tgts) : TGs := fun vs σ H Q => ∃ G env fp pv xs, RS K mg G σ env H fp pv ∧ Dqs K G vs xs ∧ match g xs env with
  | some e => ∀ σ' fp', (∀ i a, a ∈ fp' i → ∃ j, a ∈ fp j) → Outs ts σ σ' → RS K mg G σ' e H fp' pv → Q σ' H
  | none => False
theorem pgs_imp {t t' : TGs} (h : PGs X es t) (q : ∀ v σ H Q, t' v σ H Q → t v σ H Q) : PGs X es t' := ⟨fun pins s σ H v u Q I r w => h.run pins s σ H v u Q I r (q v σ H Q w)⟩
abbrev VGs (X : Cx) (ts : List Nat) (es : List Expr) (g : Tgts) : Prop := PGs X es (tGs X.K X.mg ts g)
theorem vgs_nil : VGs X [] [] gsN := pgs_imp pgs_nil fun vs σ H Q ⟨G, env, fp, pv, xs, rs, d, w⟩ => by
  cases d with
  | nil => exact ⟨rfl, w σ fp (fun i a m => ⟨i, m⟩) ⟨rfl, fun _ _ => rfl⟩ rs⟩
  | cons _ _ => exact w.elim
theorem vgs_cons {g : Tgt} {r : Tgts} {ts tr : List Nat} (h1 : VG X ts e g) (h2 : VGs X tr es r) (hs : (assignEach (e :: es) X.env).map (·.2) = assign e X.env :: (assignEach es X.env).map (·.2)) : VGs X (ts ++ tr) (e :: es) (gsC g r) :=
  pgs_imp (pgs_cons h1 h2 hs) fun vs σ H Q ⟨G, env, fp, pv, xs, rs, d, w⟩ => by
    cases d with
    | nil => exact w.elim
    | @cons v vs x xs h t =>
      refine ⟨v, vs, rfl, G, env, fp, pv, x, rs, h, ?_⟩
      have w' : match (g x env).bind (r xs) with | some e => ∀ σ' fp', (∀ i a, a ∈ fp' i → ∃ j, a ∈ fp j) → Outs (ts ++ tr) σ σ' → RS X.K X.mg G σ' e H fp' pv → Q σ' H | none => False := w
      cases z : g x env with
      | none => rw [z] at w'; exact w'.elim
      | some e1 =>
        rw [z] at w'
        intro σ' fp' hs ho rs'
        refine ⟨G, e1, fp', pv, xs, rs', t, ?_⟩
        have w2 : match r xs e1 with | some e => ∀ σ' fp', (∀ i a, a ∈ fp' i → ∃ j, a ∈ fp j) → Outs (ts ++ tr) σ σ' → RS X.K X.mg G σ' e H fp' pv → Q σ' H | none => False := w'
        cases z2 : r xs e1 with
        | none => rw [z2] at w2; exact w2.elim
        | some e2 =>
          rw [z2] at w2
          refine fun σ2 fp2 hs2 ho2 rs2 => w2 σ2 fp2 (fun i a m => ?_) ⟨ho2.1.trans ho.1, fun j hj => ?_⟩ rs2
          · obtain ⟨j, m1⟩ := hs2 i a m
            exact hs j a m1
          · rw [ho2.2 j fun m => hj (List.mem_append_right _ m)]
            exact ho.2 j fun m => hj (List.mem_append_left _ m)
def gT (n : Nat) (g : Tgts) : Tgt := fun x e => match x with
  | .tuple ds => if ds.length = n then g ds e else none
  | _ => none
theorem vg_tup {k n : Nat} {g : Tgts} {ts : List Nat} (hc : X.calm = true) (h : VGs X ts es g) (hn : (assignEach es X.env).length = n) (hst : (assignEach es X.env).findIdx? (·.1) = none) : VG X ts (.Tuple es k pos) (gT n g) :=
  pg_imp (pg_tup hc h hn hst) fun v σ H Q ⟨G, env, fp, pv, x, rs, d, w⟩ => by
    cases d with
    | @tup a vs ds h t =>
      have w' : match (if ds.length = n then g ds env else none) with | some e => ∀ σ' fp', (∀ i a, a ∈ fp' i → ∃ j, a ∈ fp j) → Outs ts σ σ' → RS X.K X.mg G σ' e H fp' pv → Q σ' H | none => False := w
      by_cases hl : ds.length = n
      · rw [if_pos hl] at w'
        exact ⟨_, _, rfl, sqt_mono rs.sub h, by rw [t.length]; exact hl, G, env, fp, pv, ds, rs, t, w'⟩
      · rw [if_neg hl] at w'; exact w'.elim
    | non => exact w.elim
    | bl _ => exact w.elim
    | int _ => exact w.elim
    | str _ => exact w.elim
    | lst _ _ => exact w.elim
end
end VL

set_option Elab.async false
set_option linter.all false
set_option maxRecDepth 100000
set_option maxHeartbeats 4000000
namespace VL
open PySem PySem.Spec PyProof.Rows L2

abbrev IT := Env → Res (List PyData)
def ItOk (K : PySem.W.Frag) (G B : Hp) (items : List PyData) (J : It) : Prop := ∀ G1 H1, Same G G1 → Same B H1 → Same G1 H1 →
  (∀ i, items.length ≤ i → J.stop i H1) ∧ ∀ i x, items[i]? = some x → J.go i H1 ∧ ∀ v H2, J.yld i H1 v H2 → ∃ G2, Ext G1 H1 G2 H2 ∧ Dq K G2 v x
def tItF (K : PySem.W.Frag) (mg : Str → Option Value) (W : WX) (f : IT) : TI := fun σ H R => ∃ G env fp pv, RS K mg G σ env H fp pv ∧
  PostR mg W σ H (fun items => ∀ J G' H', Ext G H G' H' → ItOk K G' G' items J → R J H') (f env)
def tItR (K : PySem.W.Frag) (mg : Str → Option Value) (W : WX) (f : IT) : TI := fun σ H R => ∃ G env fp pv, RS K mg G σ env H fp pv ∧
  PostR mg W σ H (fun items => ∀ J G' H', Ext G H G' H' → ItOk K G' H' items J → R J H') (f env)
abbrev VIF (X : Cx) (W : WX) (tg e : Expr) (f : IT) : Prop := PI X tg e (tItF X.K X.mg W f)
abbrev VIR (X : Cx) (W : WX) (tg e : Expr) (f : IT) : Prop := PI X tg e (tItR X.K X.mg W f)
section
variable {K : PySem.W.Frag} {G B : Hp} {ds es : List PyData} {vs ws : List V} {a b : Addr}
theorem ItOk.ofF {G H : Hp} {items : List PyData} {J : It} (s : Same G H) (h : ItOk K G G items J) : ItOk K G H items J := fun G1 H1 g b s1 => h G1 H1 g (s.trans b) s1
theorem it_list (h : SqL K B a vs) (t : Dqs K G vs ds) : ItOk K G B ds (Itl K a) := fun G1 H1 g b s => by
  have h1 := b.seq h
  refine ⟨fun i hi => ⟨vs, h1, by rw [t.length]; exact hi⟩, fun i x e => ?_⟩
  obtain ⟨v, hv, d⟩ := t.get e
  exact ⟨⟨vs, v, h1, hv⟩, fun u H2 ⟨e2, k⟩ => by
    have q := k vs h1
    rw [hv] at q
    cases q
    subst e2
    exact ⟨G1, Ext.refl s, d.mono g⟩⟩
def rngP (lo : Int) (n : Nat) : List PyData := (List.range n).map fun i => .int (lo + (i : Nat))
theorem it_rng {lo : Int} {n : Nat} : ItOk K G B (rngP lo n) (Itr lo n) := fun G1 H1 g b s => by
  have hl : (rngP lo n).length = n := by unfold rngP; rw [List.length_map, List.length_range]
  refine ⟨fun i hi => by rw [hl] at hi; exact hi, fun i x e => ?_⟩
  have hi : i < n := by rw [← hl]; exact (List.getElem?_eq_some_iff.mp e).1
  unfold rngP at e
  rw [List.getElem?_map, List.getElem?_range hi] at e
  cases e
  exact ⟨hi, fun u H2 ⟨e2, k⟩ => by
    subst e2 k
    exact ⟨G1, Ext.refl s, .int _⟩⟩
def enumP (k : Nat) : List PyData → List PyData
  | [] => []
  | x :: r => .tuple [.int (k : Nat), x] :: enumP (k + 1) r
theorem enumP_length : ∀ (k : Nat) (ds : List PyData), (enumP k ds).length = ds.length
  | _, [] => rfl
  | k, x :: r => by show (enumP (k + 1) r).length + 1 = r.length + 1; rw [enumP_length (k + 1) r]
theorem enumP_get : ∀ (k i : Nat) (ds : List PyData), (enumP k ds)[i]? = ds[i]?.map fun x => .tuple [.int ((k + i : Nat)), x]
  | _, _, [] => by simp [enumP]
  | k, 0, x :: r => rfl
  | k, i + 1, x :: r => by
    show (enumP (k + 1) r)[i]? = r[i]?.map _
    rw [enumP_get (k + 1) i r, show k + 1 + i = k + (i + 1) by omega]
theorem it_enum (h : SqL K B a vs) (t : Dqs K G vs ds) : ItOk K G B (enumP 0 ds) (Ite K a) := fun G1 H1 g b s => by
  have h1 := b.seq h
  refine ⟨fun i hi => ⟨vs, h1, by rw [t.length]; rw [enumP_length] at hi; exact hi⟩, fun i x e => ?_⟩
  rw [enumP_get] at e
  cases z : ds[i]? with
  | none => rw [z] at e; cases e
  | some d0 =>
    rw [z] at e
    cases e
    obtain ⟨v, hv, d⟩ := t.get z
    refine ⟨⟨vs, v, h1, hv⟩, fun u H2 ⟨T, y, e1, hT, e2, k⟩ => ?_⟩
    have q := k vs h1
    rw [hv] at q
    cases q
    subst e1 e2
    have ex := Ext.new (o := .tup [V.int (i : Nat), v]) s hT
    exact ⟨_, ex, .tup (SqT.of upd_same) (.cons (by rw [Nat.zero_add]; exact .int _) (.cons ((d.mono g).mono ex.g) .nil))⟩
def zipP : List PyData → List PyData → List PyData
  | x :: r, y :: s => .tuple [x, y] :: zipP r s
  | _, _ => []
theorem zipP_length : ∀ ds es : List PyData, (zipP ds es).length = min ds.length es.length
  | [], es => by simp [zipP]
  | x :: r, [] => by simp [zipP]
  | x :: r, y :: s => by
    show (zipP r s).length + 1 = min (r.length + 1) (s.length + 1)
    rw [zipP_length r s]
    omega
theorem zipP_get : ∀ (i : Nat) (ds es : List PyData) (x : PyData), (zipP ds es)[i]? = some x → ∃ a b, ds[i]? = some a ∧ es[i]? = some b ∧ x = .tuple [a, b]
  | i, [], es, x, h => by simp [zipP] at h
  | i, _ :: _, [], x, h => by simp [zipP] at h
  | 0, a :: r, b :: s, x, h => ⟨a, b, rfl, rfl, (Option.some.inj h).symm⟩
  | i + 1, a :: r, b :: s, x, h => zipP_get i r s x h
theorem it_zip (h : SqL K B a vs) (t : Dqs K G vs ds) (h' : SqL K B b ws) (t' : Dqs K G ws es) : ItOk K G B (zipP ds es) (Itz K a b) := fun G1 H1 g b s => by
  have h1 := b.seq h
  have h2 := b.seq h'
  refine ⟨fun i hi => ⟨vs, ws, h1, h2, by rw [t.length, t'.length]; rw [zipP_length] at hi; omega⟩, fun i x e => ?_⟩
  obtain ⟨p, q, e1, e2, rfl⟩ := zipP_get i ds es x e
  obtain ⟨v, hv, d⟩ := t.get e1
  obtain ⟨w, hw, d'⟩ := t'.get e2
  refine ⟨⟨vs, ws, v, w, h1, h2, hv, hw⟩, fun u H2 ⟨T, y, z, f1, hT, f2, k1, k2⟩ => ?_⟩
  have q1 := k1 vs h1
  have q2 := k2 ws h2
  rw [hv] at q1
  rw [hw] at q2
  cases q1
  cases q2
  subst f1 f2
  have ex := Ext.new (o := .tup [v, w]) s hT
  exact ⟨_, ex, .tup (SqT.of upd_same) (.cons ((d.mono g).mono ex.g) (.cons ((d'.mono g).mono ex.g) .nil))⟩
end

section
variable {X : Cx} {W : WX} {a b c e tg : Expr} {es : List Expr} {pos : Pos} {st : Stmt} {sts : List Stmt}
def asL : PyData → Res (List PyData)
  | .list ds => .ok ds
  | _ => .bad
def vItL (f : FD) : IT := v1 asL f
def vItRev (f : FD) : IT := v1 (fun x => (asL x).bind fun ds => .ok ds.reverse) f
def vItEnum (f : FD) : IT := v1 (fun x => (asL x).bind fun ds => .ok (enumP 0 ds)) f
def vItZip (f g : FD) : IT := v2 (fun x y => (asL x).bind fun ds => (asL y).bind fun es => .ok (zipP ds es)) f g
noncomputable def rng1 : PyData → Res (List PyData)
  | .int j => cIf (-4611686018427387904 ≤ j ∧ j < 4611686018427387904) (.ok (rngP 0 j.toNat)) .bad
  | _ => .bad
noncomputable def rng2 : PyData → PyData → Res (List PyData)
  | .int i, .int j => cIf (-4611686018427387904 ≤ i ∧ i < 4611686018427387904 ∧ -4611686018427387904 ≤ j ∧ j < 4611686018427387904) (.ok (rngP i (j - i).toNat)) .bad
  | _, _ => .bad
theorem vif_vir {f : IT} (h : VIF X W tg e f) : VIR X W tg e f := pi_imp h fun σ H R ⟨G, env, fp, pv, rs, w⟩ => ⟨G, env, fp, pv, rs, PostR.imp w (Same.refl _) fun items w J G' H' ex it => w J G' H' ex (it.ofF ex.s)⟩
theorem asL_ok {α : Type} {mg : Str → Option Value} {σ : L2.St} {H : Hp} {j : α → Prop} {x : PyData} {k : List PyData → Res α} (w : PostR mg W σ H j ((asL x).bind k)) : ∃ ds, x = .list ds ∧ PostR mg W σ H j (k ds) := by
  cases x with
  | list ds => exact ⟨ds, rfl, w⟩
  | none => exact w.elim
  | bool _ => exact w.elim
  | int _ => exact w.elim
  | str _ => exact w.elim
  | tuple _ => exact w.elim
  | dict _ => exact w.elim
theorem asL_ok1 {mg : Str → Option Value} {σ : L2.St} {H : Hp} {j : List PyData → Prop} {x : PyData} (w : PostR mg W σ H j (asL x)) : ∃ ds, x = .list ds ∧ j ds := by
  cases x with
  | list ds => exact ⟨ds, rfl, w⟩
  | none => exact w.elim
  | bool _ => exact w.elim
  | int _ => exact w.elim
  | str _ => exact w.elim
  | tuple _ => exact w.elim
  | dict _ => exact w.elim
theorem Dq.lst' {K : PySem.W.Frag} {G : Hp} {v : V} {ds : List PyData} (h : Dq K G v (.list ds)) : ∃ a vs, v = .ref a ∧ G a = some (.lst vs) ∧ Dqs K G vs ds := by
  cases h with | lst h t => exact ⟨_, _, rfl, h, t⟩
theorem vir_list {f : FD} (h : VD X W e f) : VIR X W tg e (vItL f) := pi_imp (pi_list h) fun σ H R ⟨G, env, fp, pv, rs, w⟩ => ⟨G, env, fp, pv, rs, PostR.seq w fun x w v G1 H1 e1 q1 => by
  obtain ⟨ds, rfl, w⟩ := asL_ok1 w
  obtain ⟨p, vs, rfl, h1, t1⟩ := q1.lst e1.s
  exact ⟨p, rfl, ⟨vs, SqL.of h1⟩, w _ G1 H1 e1 (it_list (SqL.of h1) t1)⟩⟩
theorem toD_ok {α : Type} {K : PySem.W.Frag} {mg : Str → Option Value} {σ : L2.St} {G H : Hp} {v : V} {x : FV} {j : α → Prop} {k : PyData → Res α} (q : Fq K mg G v x) (w : PostR mg W σ H j ((match x with | .d p => Res.ok p | _ => .bad).bind k)) : ∃ p, Dq K G v p ∧ PostR mg W σ H j (k p) := by
  cases q with
  | d q => exact ⟨_, q, w⟩
  | ob _ _ _ => exact w.elim
  | sc _ => exact w.elim
theorem toD_seq {α : Type} {mg : Str → Option Value} {σ : L2.St} {H : Hp} {j : α → Prop} {f : FP} {k : PyData → Res α} {env : Env} (w : PostR mg W σ H j ((toD f env).bind k)) : PostR mg W σ H j ((f env).bind fun x => (match x with | .d p => Res.ok p | _ => .bad).bind k) := by
  unfold toD at w
  cases z : f env with
  | ok x => rw [z] at w; exact w
  | err c => rw [z] at w; exact w
  | bad => rw [z] at w; exact w
theorem vif_list {f : FP} (h : VP X W e f) : VIF X W tg e (vItL (toD f)) := pi_imp (pi_list h) fun σ H R ⟨G, env, fp, pv, rs, w⟩ => ⟨G, env, fp, pv, rs, PostR.seq (toD_seq w) fun x w v G1 H1 e1 q1 => by
  obtain ⟨p, q1, w⟩ := toD_ok q1 w
  obtain ⟨ds, rfl, w⟩ := asL_ok1 w
  obtain ⟨p, vs, rfl, h1, t1⟩ := q1.lst'
  exact ⟨p, rfl, ⟨vs, SqL.of (e1.s _ _ h1)⟩, w _ G1 H1 e1 (it_list (SqL.of h1) t1)⟩⟩
theorem vif_enum {f : FP} {elts : List Expr} {kk : Nat} {tpos p : Pos} (hm : X.mg "enumerate" = none) (h : VP X W e f) (hg : Gl X "enumerate" := by rfl) (hs : starEach [e] X.env = [(false, eval e X.env)] := by rfl) : VIF X W (.Tuple elts kk tpos) (.Call (.Name "enumerate" p) [e] [] pos) (vItEnum (toD f)) :=
  pi_imp (pi_enum hg hm (pa_cons h pa_nil hs) hs) fun σ H R ⟨G, env, fp, pv, rs, w⟩ => ⟨G, env, fp, pv, rs, PostR.seq (toD_seq w) fun x w v G1 H1 e1 q1 => by
    obtain ⟨p, q1, w⟩ := toD_ok q1 w
    obtain ⟨ds, rfl, w⟩ := asL_ok w
    obtain ⟨p, vs, rfl, h1, t1⟩ := q1.lst'
    exact ⟨p, vs, rfl, SqL.of (e1.s _ _ h1), w _ G1 H1 e1 (it_enum (SqL.of h1) t1)⟩⟩
theorem vir_enum {f : FD} {elts : List Expr} {kk : Nat} {tpos p : Pos} (hm : X.mg "enumerate" = none) (h : VD X W e f) (hg : Gl X "enumerate" := by rfl) (hs : starEach [e] X.env = [(false, eval e X.env)] := by rfl) : VIR X W (.Tuple elts kk tpos) (.Call (.Name "enumerate" p) [e] [] pos) (vItEnum f) :=
  pi_imp (pi_enum hg hm (pa_cons h pa_nil hs) hs) fun σ H R ⟨G, env, fp, pv, rs, w⟩ => ⟨G, env, fp, pv, rs, PostR.seq w fun x w v G1 H1 e1 q1 => by
    obtain ⟨ds, rfl, w⟩ := asL_ok w
    obtain ⟨p, vs, rfl, h1, t1⟩ := q1.lst e1.s
    exact ⟨p, vs, rfl, SqL.of h1, w _ G1 H1 e1 (it_enum (SqL.of h1) t1)⟩⟩
theorem vir_zip {f g : FD} {elts : List Expr} {kk : Nat} {tpos p : Pos} (hm : X.mg "zip" = none) (ha : VD X W a f) (hb : VD X W b g) (hg : Gl X "zip" := by rfl) (hs : starEach [a, b] X.env = (false, eval a X.env) :: starEach [b] X.env := by rfl) (hs2 : starEach [b] X.env = (false, eval b X.env) :: starEach [] X.env := by rfl)
    (hpl : (backTo pos (starEach [b] X.env)).any (·.1) = false := by rfl) : VIR X W (.Tuple elts kk tpos) (.Call (.Name "zip" p) [a, b] [] pos) (vItZip f g) :=
  pi_imp (pi_zip hg hm (pa_cons ha (pa_cons hb pa_nil hs2) hs) hs hpl) fun σ H R ⟨G, env, fp, pv, rs, w⟩ => ⟨G, env, fp, pv, rs, PostR.seq w fun y w v G1 H1 e1 q1 => by
    refine ⟨G1, env, fp, pv, rs.ext e1, PostR.imp (PostR.seq (k := fun z => PostR X.mg W σ H _ _) w fun z w => w) e1.h fun z w u G2 H2 e2 q2 => ?_⟩
    obtain ⟨ds, ed, w1⟩ := asL_ok w
    obtain ⟨es, ee, w⟩ := asL_ok w1
    subst ed ee
    obtain ⟨p, vs, rfl, h1, t1⟩ := (q1.mono e2.g e2.h).lst e2.s
    obtain ⟨p', ws, rfl, h2, t2⟩ := q2.lst e2.s
    exact ⟨p, p', vs, ws, rfl, SqL.of h1, SqL.of h2, w _ G2 H2 (e1.trans e2) (it_zip (SqL.of h1) t1 (SqL.of h2) t2)⟩⟩
theorem vif_rng1 {f : FD} {p : Pos} (hm : X.mg "range" = none) (ha : VD X W a f) (hg : Gl X "range" := by rfl) (hs : starEach [a] X.env = [(false, eval a X.env)] := by rfl) : VIF X W tg (.Call (.Name "range" p) [a] [] pos) (v1 rng1 f) :=
  pi_imp (pi_range1 hg hm (pa_cons ha pa_nil hs) hs) fun σ H R ⟨G, env, fp, pv, rs, w⟩ => ⟨G, env, fp, pv, rs, PostR.seq w fun x w v G1 H1 e1 q1 => by
    unfold rng1 cIf at w
    split at w
    · split at w
      · rename_i hj
        exact ⟨_, by rw [q1.int], by have := hj.1; omega, by have := hj.2; omega, w _ G1 H1 e1 it_rng⟩
      · exact w.elim
    · exact w.elim⟩
theorem vif_rng2 {f g : FD} {p : Pos} (hm : X.mg "range" = none) (ha : VD X W a f) (hb : VD X W b g) (hg : Gl X "range" := by rfl) (hs : starEach [a, b] X.env = [(false, eval a X.env), (false, eval b X.env)] := by rfl) (hs2 : starEach [b] X.env = [(false, eval b X.env)] := by rfl) : VIF X W tg (.Call (.Name "range" p) [a, b] [] pos) (v2 rng2 f g) :=
  pi_imp (pi_range2 hg hm (pa_cons ha (pa_cons hb pa_nil hs2) (by rw [hs, hs2])) hs hs2) fun σ H R ⟨G, env, fp, pv, rs, w⟩ => ⟨G, env, fp, pv, rs, PostR.seq w fun x w v G1 H1 e1 q1 => by
    refine ⟨G1, env, fp, pv, rs.ext e1, PostR.imp (PostR.seq (k := fun z => PostR X.mg W σ H _ _) w fun z w => w) e1.h fun z w u G2 H2 e2 q2 => ?_⟩
    unfold rng2 cIf at w
    split at w
    · split at w
      · rename_i hj
        exact ⟨_, _, by rw [q1.int, q2.int], ⟨by have := hj.1; omega, by have := hj.2.1; omega, by have := hj.2.2.1; omega, by have := hj.2.2.2; omega⟩, w _ G2 H2 (e1.trans e2) it_rng⟩
      · exact w.elim
    · exact w.elim⟩

def forL (g : Tgt) (body : ST) : List PyData → ST
  | [] => fun e => .nx e
  | x :: xs => fun e => match g x e with
    | some e1 => match body e1 with
      | .nx e2 => forL g body xs e2
      | r => r
    | none => .bad
def vFor (it : IT) (g : Tgt) (body : ST) : ST := fun e => ofR (it e) e fun items => forL g body items e
theorem vs_for {it : IT} {g : Tgt} {ts : List Nat} {body : ST} {B : List Stmt} (hp : PassesOwn (model X.prog X.w) X.A X.env X.xe) (hc : X.calm = true) (hi : VIF X W tg e it) (hg : VG X ts tg g) (hb : VSs X W B body) (hs : ∀ x, foldedSetIterable e X.env x = pure x := by intro _; rfl) :
    VS X W (.For tg e B [] pos) (vFor it g body) := ps_imp (ps_for hp hc hi hg hb hs) fun D σ H ⟨G, env, fp, pv, rs, w⟩ => ⟨G, env, fp, pv, rs, Post.ofR rs w fun items w J G1 H1 e1 io => by
  refine ⟨fun i m σ H => m + i = items.length ∧ ∃ G env fp pv, RS X.K X.mg G σ env H fp pv ∧ Same G1 G ∧ Post X.K X.mg W D G H fp pv (forL g body (items.drop i) env),
    ⟨items.length, by omega, G1, env, fp, pv, rs.ext e1, Same.refl _, w.step (Stp.of_ext e1)⟩, ?_⟩
  rintro i m σ2 H2 ⟨em, G2, env2, fp2, pv2, rs2, s2, w2⟩
  obtain ⟨hstop, hgo⟩ := io G2 H2 s2 (s2.trans rs2.sub) rs2.sub
  by_cases hlt : i < items.length
  · right
    have ei : items[i]? = some items[i] := List.getElem?_eq_getElem hlt
    obtain ⟨go, yl⟩ := hgo i _ ei
    refine ⟨go, fun σ' H' => ∃ G env fp pv, RS X.K X.mg G σ' env H' fp pv ∧ Same G1 G ∧ Post X.K X.mg W D G H' fp pv (forL g body (items.drop (i + 1)) env), fun σ' H' hN => ⟨m - 1, by omega, by omega, hN⟩, fun x H3 hy => ?_⟩
    obtain ⟨G3, e3, d3⟩ := yl x H3 hy
    rw [List.drop_eq_getElem_cons hlt] at w2
    have rs3 := rs2.ext e3
    have w3 := w2.step (Stp.of_ext e3)
    refine ⟨G3, env2, fp2, pv2, items[i], rs3, d3, ?_⟩
    unfold forL at w3
    cases z : g items[i] env2 with
    | none => rw [z] at w3; exact w3.elim
    | some e4 =>
      rw [z] at w3
      intro σ4 fp4 h4 _ rs4
      refine ⟨G3, e4, fp4, pv2, rs4, ?_⟩
      have st4 : Stp G3 H3 fp2 G3 H3 fp4 := Stp.sub (Stp.refl (fp := fp2) rs3.sub) fun i a m => .inr (h4 i a m)
      have w4 := Post.step st4 w3
      dsimp only at w4
      cases z5 : body e4 with
      | nx e5 =>
        rw [z5] at w4
        exact fun G5 σ5 H5 fp5 st5 rs5 => ⟨G5, e5, fp5, pv2, rs5, (s2.trans e3.g).trans st5.g, w4.step st5⟩
      | rt v e5 => rw [z5] at w4; exact w4
      | err c e5 => rw [z5] at w4; exact w4
      | bad => rw [z5] at w4; exact w4
  · left
    have ei : items.drop i = [] := List.drop_eq_nil_iff.mpr (by omega)
    rw [ei] at w2
    exact ⟨hstop i (by omega), w2 G2 σ2 H2 fp2 (Stp.refl rs2.sub) rs2⟩⟩
def wipeE (e : Env) : List Nat → Env
  | [] => e
  | v :: vs => (wipeE e vs).set v .no
def noE {α : Type} : Res α → Res α
  | .ok a => .ok a
  | _ => .bad
theorem noE_ok {α : Type} {mg : Str → Option Value} {σ σ' : L2.St} {H H' : Hp} {W' : WX} {j k : α → Prop} {r : Res α} (w : PostR mg W σ H j (noE r)) (q : ∀ a, j a → k a) : PostR mg W' σ' H' k r := by
  cases r with
  | ok a => exact q a w
  | err c => exact w.elim
  | bad => exact w.elim
def compL (g : Tgt) (t : FT) (elt : FO) (env : Env) : List PyData → Res (List SV)
  | [] => .ok []
  | x :: xs => match g x env with
    | none => .bad
    | some e1 => (noE (t e1)).bind fun b => if b = true then (noE (elt e1)).bind fun y => (compL g t elt env xs).bind fun ys => .ok (y :: ys) else compL g t elt env xs
noncomputable def vComp (it : IT) (g : Tgt) (t : FT) (elt : FO) (vs : List Nat) : FO := fun env => (it env).bind fun items => cIf (items.length ≤ 16777216) ((compL g t elt (wipeE env vs) items).bind fun ys => .ok (.own ys)) .bad
abbrev VTs (X : Cx) (W : WX) (es : List Expr) (f : FT) : Prop := PTs X es (tT X.K X.mg W f)
def vYes : FT := fun _ => .ok true
theorem pts_imp {t t' : TT} (h : PTs X es t) (q : ∀ σ H Q, t' σ H Q → t σ H Q) : PTs X es t' := ⟨fun pins s σ H Q I w => h.run pins s σ H Q I (q σ H Q w)⟩
theorem vts_nil : VTs X W [] vYes := pts_imp pts_nil fun σ H Q ⟨G, env, fp, pv, rs, w⟩ => w G H (Ext.refl rs.sub)
theorem RS.wipe {K : PySem.W.Frag} {mg : Str → Option Value} {G H : Hp} {σ : L2.St} {env : Env} {fp : Nat → List Addr} {pv : Nat → V} (h : RS K mg G σ env H fp pv) : ∀ vs : List Nat, ∃ fp', RS K mg G (wipe σ vs) (wipeE env vs) H fp' pv
  | [] => ⟨fp, h⟩
  | v :: vs => by
    obtain ⟨fp', q⟩ := RS.wipe h vs
    have d := q.drop v
    refine ⟨_, ⟨?_, fun j u e => ?_, d.nil, d.sub, d.out, d.nd, d.dj⟩⟩
    · show ((wipeE env vs).set v .no).length = ((L2.wipe σ vs).set v none).length
      rw [List.length_set, List.length_set]; exact q.len
    · have r := d.rel j u e
      show slotOk _ _ _ _ _ ((L2.wipe σ vs).set v none)[j]? _ _
      by_cases hj : j = v
      · subst hj
        have e' : ((wipeE env vs).set j .no)[j]? = some u := e
        by_cases hl : j < (wipeE env vs).length
        · rw [List.getElem?_set_self hl] at e'
          cases e'
          exact r
        · rw [List.getElem?_eq_none (by rw [List.length_set]; omega)] at e'; cases e'
      · rw [List.getElem?_set_ne (Ne.symm hj)]
        exact r
theorem wipe_out {σ σ' : L2.St} {ts : List Nat} (h : Outs ts σ σ') : ∀ vs : List Nat, (∀ j ∈ ts, j ∈ vs) → wipe σ' vs = wipe σ vs := by
  have key : ∀ (vs : List Nat) (σ : L2.St) (j : Nat), (wipe σ vs)[j]? = if j ∈ vs then (if j < σ.length then some none else none) else σ[j]? := by
    intro vs σ
    induction vs with
    | nil => intro j; simp [wipe]
    | cons v vs ih =>
      intro j
      unfold wipe
      by_cases hj : j = v
      · subst hj
        rw [if_pos List.mem_cons_self]
        by_cases hl : j < σ.length
        · rw [if_pos hl, List.getElem?_set_self (by rw [wipe_length]; exact hl)]
        · rw [if_neg hl, List.getElem?_eq_none (by rw [List.length_set, wipe_length]; omega)]
      · rw [List.getElem?_set_ne (Ne.symm hj), ih j]
        by_cases hm : j ∈ vs
        · rw [if_pos hm, if_pos (List.mem_cons_of_mem _ hm)]
        · rw [if_neg hm, if_neg (by simp [hj, hm])]
  intro vs hv
  apply List.ext_getElem?
  intro j
  rw [key, key, h.1]
  by_cases hm : j ∈ vs
  · rw [if_pos hm, if_pos hm]
  · rw [if_neg hm, if_neg hm]
    exact h.2 j fun m => hm (hv j m)
theorem wipe_wipe (σ : L2.St) (vs : List Nat) : wipe (wipe σ vs) vs = wipe σ vs := wipe_out (ts := vs) ⟨wipe_length σ vs, fun j hj => by
  induction vs with
  | nil => rfl
  | cons v vs ih =>
    unfold wipe
    rw [List.getElem?_set_ne (fun q => hj (by rw [q]; exact List.mem_cons_self))]
    exact ih fun m => hj (List.mem_cons_of_mem _ m)⟩ vs fun j m => m
theorem Ows.append {K : PySem.W.Frag} {mg : Str → Option Value} {G H : Hp} : ∀ {vs ws : List V} {xs ys : List SV} {r s : List Addr}, Ows K mg G H vs xs r → Ows K mg G H ws ys s → Ows K mg G H (vs ++ ws) (xs ++ ys) (r ++ s)
  | _, _, _, _, _, _, .nil, q => q
  | _, _, _, _, _, _, @Ows.cons _ _ _ _ v vs x xs r rs h t, q => by
    rw [List.append_assoc]
    exact .cons h (Ows.append t q)
theorem imp_comp {it : IT} {g : Tgt} {ts : List Nat} {t : FT} {elt : FO} {vs : List Nat} (hts : ∀ j ∈ ts, j ∈ vs) {σ : L2.St} {H : Hp} {Q : VK} (h : tO X.K X.mg W (vComp it g t elt vs) σ H Q) :
    tLc (tItR X.K X.mg W it) (tG X.K X.mg ts g) (tT X.K X.mg (fun _ _ _ _ => False) t) (tO X.K X.mg (fun _ _ _ _ => False) elt) vs σ H Q := by
  obtain ⟨G, env, fp, pv, rs, w⟩ := h
  refine ⟨G, env, fp, pv, rs, PostR.seq w fun items w J G1 H1 e1 io D hD => ?_⟩
  by_cases hsz : items.length ≤ 16777216
  · rw [cIf_pos hsz] at w
    have w0 := PostR.seq (k := fun ys => jO X.K X.mg Q G H (.own ys)) w fun ys q => q
    let Cst : Nat → Hp → Hp → Prop := fun i G2 H2 => ∃ accV accS r, Ext G1 H1 G2 H2 ∧ H2 D = some (.lst accV) ∧ G2 D = none ∧ Ows X.K X.mg G2 H2 accV accS r ∧ r.Nodup ∧ D ∉ r ∧ (∀ a ∈ r, H1 a = none ∧ G2 a = none) ∧
      PostR X.mg W σ H (fun ys => jO X.K X.mg Q G H (.own (accS ++ ys))) (compL g t elt (wipeE env vs) (items.drop i)) ∧ accV.length ≤ i
    have hG1 : G1 D = none := none_back e1.s hD
    refine ⟨fun i m H2 => m + i = items.length ∧ ∃ G2, Cst i G2 H2, ⟨items.length, by omega, G1, [], [], [], Ext.newO e1.s hD, upd_same, hG1, .nil, .nil, (by simp), (fun a m => by cases m), w0, Nat.zero_le _⟩, ?_⟩
    rintro i m H2 ⟨em, G2, accV, accS, r, e2, hD2, hG2, ow2, nd2, nD2, fr2, w2, hl2⟩
    obtain ⟨hstop, hgo⟩ := io G2 H2 e2.g e2.h e2.s
    by_cases hlt : i < items.length
    · right
      have ei : items[i]? = some items[i] := List.getElem?_eq_getElem hlt
      obtain ⟨go, yl⟩ := hgo i _ ei
      refine ⟨go, fun H' => ∃ G2, Cst (i + 1) G2 H', fun H' hN => ⟨m - 1, by omega, by omega, hN⟩, fun x H3 hy => ?_⟩
      obtain ⟨G3, e3, d3⟩ := yl x H3 hy
      rw [List.drop_eq_getElem_cons hlt] at w2
      obtain ⟨fpw, rsw⟩ := (rs.ext (e1.trans (e2.trans e3))).wipe vs
      refine ⟨G3, wipeE env vs, fpw, pv, items[i], rsw, d3, ?_⟩
      unfold compL at w2
      cases z : g items[i] (wipeE env vs) with
      | none => rw [z] at w2; exact w2.elim
      | some e4 =>
        rw [z] at w2
        intro σ4 fp4 h4 ho rs4
        refine ⟨(wipe_out ho vs hts).trans (wipe_wipe σ vs), G3, e4, fp4, pv, rs4, ?_⟩
        have w3 := PostR.seq (k := fun b => PostR X.mg W σ H _ (if b = true then _ else _)) w2 fun b q => q
        refine noE_ok w3 fun b w4 G5 H5 e5 => ?_
        cases b with
        | false =>
          rw [if_neg Bool.false_ne_true] at w4 ⊢
          have ex : Ext G2 H2 G5 H5 := e3.trans e5
          refine ⟨G5, accV, accS, r, e2.trans ex, ex.h _ _ hD2, ?_, ow2.mono ex.g (fun a m => ?_), nd2, nD2, fun a m => ⟨(fr2 a m).1, ?_⟩, w4, Nat.le_succ_of_le hl2⟩
          · cases q : G5 D with
            | none => rfl
            | some o =>
              rcases ex.n D o q with q | q
              · rw [hG2] at q; cases q
              · rw [hD2] at q; cases q
          · obtain ⟨o, ho⟩ := ow2.there a m
            rw [ho]; exact ex.h _ _ ho
          · cases q : G5 a with
            | none => rfl
            | some o =>
              obtain ⟨u, hu⟩ := ow2.there a m
              rcases ex.n a o q with q | q
              · rw [(fr2 a m).2] at q; cases q
              · rw [hu] at q; cases q
        | true =>
          rw [if_pos rfl] at w4 ⊢
          refine ⟨G5, e4, fp4, pv, rs4.ext e5, ?_⟩
          have w5 := PostR.seq (k := fun y => PostR X.mg W σ H _ ((compL g t elt (wipeE env vs) (items.drop (i + 1))).bind _)) w4 fun b q => q
          refine noE_ok w5 fun y w6 v G6 H6 r6 e6 ow6 nd6 fr6 => ?_
          have ex : Ext G2 H2 G6 H6 := (e3.trans e5).trans e6
          have ex5 : Ext G2 H2 G5 H5 := e3.trans e5
          have hD6 := ex.h _ _ hD2
          have nG : ∀ a u, H2 a = some u → G2 a = none → G6 a = none := fun a u hu hg => by
            cases q : G6 a with
            | none => rfl
            | some o =>
              rcases ex.n a o q with q | q
              · rw [hg] at q; cases q
              · rw [hu] at q; cases q
          have hG6 : G6 D = none := nG D _ hD2 hG2
          refine ⟨accV, hD6, ?_, G6, accV ++ [v], accS ++ [y], r ++ (r6 ++ []), ?_, upd_same, hG6, ?_, ?_, ?_, ?_, ?_, ?_⟩
          · rw [sl_eq]; omega
          · have E := e2.trans ex
            refine ⟨E.g, fun b o hb => ?_, fun b o hb => ?_, E.n⟩
            · rw [upd_ne (ne_of_none hb hD)]; exact E.h b o hb
            · rw [upd_ne (ne_of_none hb hG6)]; exact E.s b o hb
          · refine (ow2.mono ex.g fun a m => ?_).append (.cons (ow6.mono (Same.refl _) fun a m => ?_) .nil)
            · obtain ⟨o, ho⟩ := ow2.there a m
              rw [upd_ne (fun q => nD2 (by rw [← q]; exact m)), ho]
              exact ex.h _ _ ho
            · rw [upd_ne (fun q => ?_)]
              have z1 := (fr6 a m).1
              rw [q, ex5.h _ _ hD2] at z1
              cases z1
          · rw [List.append_nil]
            refine List.nodup_append.mpr ⟨nd2, nd6, fun a m b m' q => ?_⟩
            subst q
            obtain ⟨o, ho⟩ := ow2.there a m
            have z1 := (fr6 a m').1
            rw [ex5.h _ _ ho] at z1
            cases z1
          · rw [List.append_nil]
            intro m
            rcases List.mem_append.mp m with m | m
            · exact nD2 m
            · have z1 := (fr6 D m).1
              rw [ex5.h _ _ hD2] at z1
              cases z1
          · rw [List.append_nil]
            intro a m
            rcases List.mem_append.mp m with m | m
            · obtain ⟨o, ho⟩ := ow2.there a m
              exact ⟨(fr2 a m).1, nG a o ho (fr2 a m).2⟩
            · exact ⟨none_back ((e2.trans ex5).h) (fr6 a m).1, (fr6 a m).2⟩
          · have w7 := PostR.seq (k := fun ys => jO X.K X.mg Q G H (.own (accS ++ (y :: ys)))) w6 fun ys q => q
            refine PostR.imp w7 (Same.refl _) fun ys q => ?_
            rw [List.append_assoc]
            exact q
          · rw [List.length_append]
            show accV.length + 1 ≤ i + 1
            omega
    · left
      have ei : items.drop i = [] := List.drop_eq_nil_iff.mpr (by omega)
      rw [ei] at w2
      have w3 : jO X.K X.mg Q G H (.own (accS ++ [])) := w2
      rw [List.append_nil] at w3
      refine ⟨hstop i (by omega), w3 (.ref D) G2 H2 (D :: r) (e1.trans e2) (.own hD2 ow2) (List.nodup_cons.mpr ⟨nD2, nd2⟩) fun a m => ?_⟩
      rcases List.mem_cons.mp m with rfl | m
      · exact ⟨none_back e1.h hD, hG2⟩
      · exact ⟨none_back e1.h (fr2 a m).1, (fr2 a m).2⟩
  · rw [cIf_neg hsz] at w; exact w.elim
theorem vo_comp {it : IT} {g : Tgt} {ts : List Nat} {t : FT} {elt : FO} {own : List (Str × Nat)} {el : Expr} {ifs : List Expr} {scope : Scope} (hc : X.calm = true) (hN : X.N.Nodup) (hi : VIR X W tg e it) (ok : BlkOk X.N X.env.scope scope own)
    (hg : ∀ (s : Shared) (H : Hp) (C : Addr) (cl : List (Str × Addr)) (fp : List Addr), VG (X.blk s H scope (compEnvC scope cl C X.env) fp) ts tg g)
    (ht : ∀ (s : Shared) (H : Hp) (C : Addr) (cl : List (Str × Addr)) (fp : List Addr), VTs (X.blk s H scope (compEnvC scope cl C X.env) fp) (fun _ _ _ _ => False) ifs t)
    (he : ∀ (s : Shared) (H : Hp) (C : Addr) (cl : List (Str × Addr)) (fp : List Addr), VO (X.blk s H scope (compEnvC scope cl C X.env) fp) (fun _ _ _ _ => False) el elt)
    (hts : ∀ j ∈ ts, j ∈ own.map (·.2)) (hs : ∀ x, foldedSetIterable e X.env x = pure x := by intro _; rfl) : VO X W (.ListComp el [⟨tg, e, ifs, 0⟩] scope pos) (vComp it g t elt (own.map (·.2))) :=
  pe_imp (pe_lc hc hN hi ok hg ht he hs) fun σ H Q h => imp_comp hts h
theorem imp_fr {f : FO} {σ : L2.St} {H : Hp} {Q : VK} (h : tP X.K X.mg W (frO f) σ H Q) : tO X.K X.mg W f σ H Q := by
  obtain ⟨G, env, fp, pv, rs, w⟩ := h
  refine ⟨G, env, fp, pv, rs, PostR.seq w fun s w v G' H' r ex ow nd fr => ?_⟩
  cases z : s.frz? with
  | none => rw [z] at w; exact w.elim
  | some x =>
    rw [z] at w
    have g : Same G' (gu G' H' r) := gu_same ex.s
    refine w v (gu G' H' r) H' ⟨ex.g.trans g, ex.h, gu_sub ex.s, fun a o e => ?_⟩ (ow.frozenF g (fun a m o e => by rw [gu_in m]; exact e) z)
    by_cases m : a ∈ r
    · exact .inr (fr a m).1
    · rw [gu_out m] at e; exact ex.n a o e
theorem vs_setLcF {i : Nat} {y : Str} {py spos : Pos} {it : IT} {g : Tgt} {ts : List Nat} {t : FT} {elt : FO} {own : List (Str × Nat)} {el : Expr} {ifs : List Expr} {scope : Scope} (hc : X.calm = true) (hN : X.N.Nodup) (hy : X.N[i]? = some y) (hyl : X.env.scope.names.lookup y = some .local)
    (hsw : swapsWith (.ListComp el [⟨tg, e, ifs, 0⟩] scope pos) (some (.Name y py)) spos.line X.env = pure true) (hi : VIR X W tg e it) (ok : BlkOk X.N X.env.scope scope own)
    (hg : ∀ (s : Shared) (H : Hp) (C : Addr) (cl : List (Str × Addr)) (fp : List Addr), VG (X.blk s H scope (compEnvC scope cl C X.env) fp) ts tg g)
    (ht : ∀ (s : Shared) (H : Hp) (C : Addr) (cl : List (Str × Addr)) (fp : List Addr), VTs (X.blk s H scope (compEnvC scope cl C X.env) fp) (fun _ _ _ _ => False) ifs t)
    (he : ∀ (s : Shared) (H : Hp) (C : Addr) (cl : List (Str × Addr)) (fp : List Addr), VO (X.blk s H scope (compEnvC scope cl C X.env) fp) (fun _ _ _ _ => False) el elt)
    (hts : ∀ j ∈ ts, j ∈ own.map (·.2)) (hs : ∀ x, foldedSetIterable e X.env x = pure x := by intro _; rfl) : VS X W (.Assign [.Name y py] (.ListComp el [⟨tg, e, ifs, 0⟩] scope pos) spos) (vSet i (frO (vComp it g t elt (own.map (·.2))))) :=
  ps_imp (ps_setLc hc hN hy hyl hsw hi ok hg ht he hs) fun D σ H h => imp_comp hts (imp_fr (imp_set h))

inductive FOut where
  | ret (s : SV) (a : List Slot)
  | exc (c : Str)
  | bad
abbrev Fn := List Slot → FOut
def PostF (K : PySem.W.Frag) (mg : Str → Option Value) (E : XK) (Q : VK) (G H : Hp) (fp : Nat → List Addr) (vs : List V) (pv : Nat → V) : FOut → Prop
  | .ret s a => ∀ v G' H' fp' r, Stp G H fp G' H' fp' → RS K mg G' (vs.map some) a H' fp' pv → Ow K mg G' H' v s r → r.Nodup → (∀ b ∈ r, G' b = none ∧ (∀ i, b ∉ fp' i) ∧ (H b = none ∨ ∃ j, b ∈ fp j)) → Q v H'
  | .exc c => ∀ C G' H', mg c = some (.ref C) → Stp G H fp G' H' (fun _ => []) → Same G' H' → E (.ref C) none H'
  | .bad => False
def spV (K : PySem.W.Frag) (mg : Str → Option Value) (n : Nat) (S : Fn) : Sp := fun vs H Q E => vs.length = n ∧ ∃ G args fp pv, RS K mg G (vs.map some) args H fp pv ∧ PostF K mg E Q G H fp vs pv (S args)
def backA : List Slot → Env → List Slot
  | [], _ => []
  | .rf _ :: r, e => (match e with | .rf s :: _ => .rf s | _ => .no) :: backA r e.tail
  | .va (.f x) :: r, e => .va (.f x) :: backA r e.tail
  | _ :: r, e => .no :: backA r e.tail
def mkFn (nl : Nat) (body : ST) : Fn := fun args => match body (args ++ List.replicate nl .no) with
  | .rt s e => .ret s (backA args e)
  | .nx e => .ret (.f (.d .none)) (backA args e)
  | .err c _ => .exc c
  | .bad => .bad
theorem backA_length : ∀ (args : List Slot) (e : Env), (backA args e).length = args.length
  | [], _ => rfl
  | .no :: r, e => congrArg (· + 1) (backA_length r e.tail)
  | .vw _ :: r, e => congrArg (· + 1) (backA_length r e.tail)
  | .rf _ :: r, e => congrArg (· + 1) (backA_length r e.tail)
  | .va (.f _) :: r, e => congrArg (· + 1) (backA_length r e.tail)
  | .va (.own _) :: r, e => congrArg (· + 1) (backA_length r e.tail)
  | .va (.otup _) :: r, e => congrArg (· + 1) (backA_length r e.tail)
  | .va (.obj _ _) :: r, e => congrArg (· + 1) (backA_length r e.tail)
theorem backA_get : ∀ (args : List Slot) (e : Env) (i : Nat) (s : Slot), (backA args e)[i]? = some s → s = .no ∨ (∃ x, s = .va (.f x) ∧ args[i]? = some s) ∨ (∃ t t', s = .rf t ∧ args[i]? = some (.rf t') ∧ e[i]? = some s)
  | [], _, i, s, h => by simp [backA] at h
  | .no :: r, e, 0, s, h => .inl (Option.some.inj h).symm
  | .vw _ :: r, e, 0, s, h => .inl (Option.some.inj h).symm
  | .va (.f x) :: r, e, 0, s, h => .inr (.inl ⟨x, (Option.some.inj h).symm, by rw [(Option.some.inj h).symm]; rfl⟩)
  | .va (.own _) :: r, e, 0, s, h => .inl (Option.some.inj h).symm
  | .va (.otup _) :: r, e, 0, s, h => .inl (Option.some.inj h).symm
  | .va (.obj _ _) :: r, e, 0, s, h => .inl (Option.some.inj h).symm
  | .rf t' :: r, [], 0, s, h => .inl (Option.some.inj h).symm
  | .rf t' :: r, .no :: _, 0, s, h => .inl (Option.some.inj h).symm
  | .rf t' :: r, .va _ :: _, 0, s, h => .inl (Option.some.inj h).symm
  | .rf t' :: r, .vw _ :: _, 0, s, h => .inl (Option.some.inj h).symm
  | .rf t' :: r, .rf t :: _, 0, s, h => by
    have e : s = .rf t := (Option.some.inj h).symm
    subst e
    exact .inr (.inr ⟨t, t', rfl, rfl, rfl⟩)
  | a :: r, e, i + 1, s, h => by
    have h' : (backA r e.tail)[i]? = some s := by
      cases a with
      | no => exact h
      | vw _ => exact h
      | rf _ => exact h
      | va t => cases t <;> exact h
    rcases backA_get r e.tail i s h' with q | ⟨x, q1, q2⟩ | ⟨t, t', q1, q2, q3⟩
    · exact .inl q
    · exact .inr (.inl ⟨x, q1, by simpa using q2⟩)
    · refine .inr (.inr ⟨t, t', q1, by simpa using q2, ?_⟩)
      cases e with
      | nil => cases q3
      | cons y e => simpa using q3
theorem RS.back {K : PySem.W.Frag} {mg : Str → Option Value} {G G' H H' : Hp} {vs : List V} {args : List Slot} {fp fp' : Nat → List Addr} {pv : Nat → V} {σ : L2.St} {e : Env} (h : RS K mg G (vs.map some) args H fp pv) (st : Stp G H fp G' H' fp') (h' : RS K mg G' σ e H' fp' pv) :
    ∃ fp2, RS K mg G' (vs.map some) (backA args e) H' fp2 pv ∧ ∀ i a, a ∈ fp2 i → a ∈ fp' i := by
  refine ⟨fun i => match (backA args e)[i]? with | some (.rf _) => fp' i | _ => [], ⟨?_, fun i s q => ?_, fun i hi => ?_, h'.sub, fun i a m => ?_, fun i => ?_, fun i j a m1 m2 => ?_⟩, fun i a m => ?_⟩
  · rw [backA_length]; exact h.len
  · rcases backA_get args e i s q with rfl | ⟨x, rfl, q2⟩ | ⟨t, t', rfl, q2, q3⟩
    · show (match (backA args e)[i]? with | some (.rf _) => fp' i | _ => []) = []
      rw [q]
    · obtain ⟨v, e1, ow⟩ := h.rel i _ q2
      refine ⟨v, e1, ?_⟩
      have z : (match (backA args e)[i]? with | some (.rf _) => fp' i | _ => []) = [] := by rw [q]
      rw [z]
      generalize fp i = r at ow
      cases ow with
      | f ow => exact .f (ow.mono st.g)
    · obtain ⟨e1, _⟩ := h.rel i _ q2
      obtain ⟨_, ow⟩ := h'.rel i _ q3
      refine ⟨e1, ?_⟩
      have z : (match (backA args e)[i]? with | some (.rf _) => fp' i | _ => []) = fp' i := by rw [q]
      rw [z]
      exact ow
  · have q : (backA args e)[i]? = none := List.getElem?_eq_none hi
    show (match (backA args e)[i]? with | some (.rf _) => fp' i | _ => []) = []
    rw [q]
  · have m' : a ∈ (match (backA args e)[i]? with | some (.rf _) => fp' i | _ => []) := m
    split at m'
    · exact h'.out i a m'
    · cases m'
  · show (match (backA args e)[i]? with | some (.rf _) => fp' i | _ => []).Nodup
    split
    · exact h'.nd i
    · exact .nil
  · have m1' : a ∈ (match (backA args e)[i]? with | some (.rf _) => fp' i | _ => []) := m1
    have m2' : a ∈ (match (backA args e)[j]? with | some (.rf _) => fp' j | _ => []) := m2
    split at m1'
    · split at m2'
      · exact h'.dj i j a m1' m2'
      · cases m2'
    · cases m1'
  · have m' : a ∈ (match (backA args e)[i]? with | some (.rf _) => fp' i | _ => []) := m
    split at m'
    · exact m'
    · cases m'
theorem RS.start {K : PySem.W.Frag} {mg : Str → Option Value} {G H : Hp} {vs : List V} {args : List Slot} {fp : Nat → List Addr} {pv : Nat → V} (h : RS K mg G (vs.map some) args H fp pv) (nl : Nat) : RS K mg G (vs.map some ++ List.replicate nl none) (args ++ List.replicate nl .no) H fp pv where
  len := by simp [h.len]
  rel := fun i s q => by
    by_cases hi : i < args.length
    · rw [List.getElem?_append_left hi] at q
      rw [List.getElem?_append_left (by rw [← h.len]; exact hi)]
      exact h.rel i s q
    · rw [List.getElem?_append_right (by omega)] at q
      have e : s = .no := by
        have m := List.mem_of_getElem? q
        exact (List.mem_replicate.mp m).2
      subst e
      exact h.nil i (by omega)
  nil := fun i hi => h.nil i (by simp at hi; omega)
  sub := h.sub
  out := h.out
  nd := h.nd
  dj := h.dj
def WF (E : XK) : WX := fun cls d _ H => E cls d H
theorem body_ok {K : PySem.W.Frag} {mg : Str → Option Value} {N : List Str} {n nl : Nat} {body : ST} {vs : List V} {H : Hp} {Q : VK} {E : XK} (hn : N.length - n = nl) (h : spV K mg n (mkFn nl body) vs H Q E) :
    tS K mg (WF E) body { nx := fun _ H' => Q .non H', rt := Q } (L2.start N vs) H := by
  obtain ⟨hl, G, args, fp, pv, rs, w⟩ := h
  have e : L2.start N vs = vs.map some ++ List.replicate nl none := by unfold L2.start; rw [hl, hn]
  rw [e]
  refine ⟨G, args ++ List.replicate nl .no, fp, pv, rs.start nl, ?_⟩
  unfold mkFn at w
  cases z : body (args ++ List.replicate nl .no) with
  | nx e2 =>
    rw [z] at w
    intro G' σ' H' fp' st rs'
    obtain ⟨fp2, rb, sb⟩ := rs.back st rs'
    exact w .non G' H' fp2 [] (st.sub fun i a m => st.f i a (sb i a m)) rb (.f (.d .non)) .nil fun a m => by cases m
  | rt s e2 =>
    rw [z] at w
    intro v G' σ' H' fp' r st rs' ow nd fr
    obtain ⟨fp2, rb, sb⟩ := rs.back st rs'
    exact w v G' H' fp2 r (st.sub fun i a m => st.f i a (sb i a m)) rb ow nd fun a m => ⟨(fr a m).1, fun i q => (fr a m).2.1 i (sb i a q), (fr a m).2.2⟩
  | err c e2 =>
    rw [z] at w
    exact fun C G' σ' H' fp' m st rs' => w C G' H' m (st.sub fun _ _ m => by cases m) rs'.sub
  | bad => rw [z] at w; exact w.elim
theorem fn_ok {P : Program} {w : World} {K : PySem.W.Frag} {mg : Str → Option Value} {base : Heap} {x qual : Str} {st : Stmt} {f : Addr} {fd : FuncData} {N ps : List Str} {k n nl : Nat} {body : ST} (F : Fun K x qual st f fd) (S : FnScope N ps (defScope st)) (hps : ps.length = n) (hn : N.length - n = nl)
    (hb : ∀ (cdv : Value) (A : Around) (outer : List PySem.Env) (s : Shared) (H : Hp) (E : XK), Room k (A.deeper (envOfC qual (defScope st) s.heap.objs.size f cdv)) →
      VSs (cxOf (L2.CX P w) P w K mg base N qual (defScope st) f cdv A outer s H E) (WF E) (defBody st) body) : FnOk P w K mg base (L2.CX P w) (k + 1) f fd ps (spV K mg n (mkFn nl body)) :=
  F.okX S (fun vs H Q E h => by rw [hps]; exact h.1) fun cdv A outer s H vs Q E hr h => ⟨_, hb cdv A outer s H E hr, body_ok hn h⟩
end
end VL

set_option Elab.async false
set_option linter.all false
set_option maxRecDepth 100000
set_option maxHeartbeats 4000000
namespace VL
open PySem PySem.Spec PyProof.Rows L2

section
variable {X : Cx} {W : WX} {a b c e o tg : Expr} {es : List Expr} {pos : Pos} {st : Stmt} {sts : List Stmt}
def tAN (K : PySem.W.Frag) (mg : Str → Option Value) (W : WX) (n : Nat) (f : Env → Res (List FV)) : TA := fun σ H Q => ∃ G env fp pv, RS K mg G σ env H fp pv ∧
  PostR mg W σ H (fun xs => ∀ vs G' H', Ext G H G' H' → Fqs K mg G' vs xs → xs.length = n → Q vs H') (f env)
abbrev VAN (X : Cx) (W : WX) (n : Nat) (es : List Expr) (f : Env → Res (List FV)) : Prop := PA X es (tAN X.K X.mg W n f)
def aN : Env → Res (List FV) := fun _ => .ok []
def aC (f : FP) (g : Env → Res (List FV)) : Env → Res (List FV) := fun env => (f env).bind fun x => (g env).bind fun xs => .ok (x :: xs)
theorem van_nil : VAN X W 0 [] aN := pa_imp pa_nil fun σ H Q ⟨G, env, fp, pv, rs, w⟩ => w [] G H (Ext.refl rs.sub) .nil rfl
theorem van_cons {n : Nat} {f : FP} {g : Env → Res (List FV)} (ha : VP X W e f) (hr : VAN X W n es g) (hs : starEach (e :: es) X.env = (false, eval e X.env) :: starEach es X.env) : VAN X W (n + 1) (e :: es) (aC f g) :=
  pa_imp (pa_cons ha hr hs) fun σ H Q ⟨G, env, fp, pv, rs, w⟩ => ⟨G, env, fp, pv, rs, by
    have w' := PostR.seq (k := fun x => PostR X.mg W σ H _ ((g env).bind _)) w fun y w => w
    exact PostR.imp w' (Same.refl _) fun x w v G1 H1 e1 q1 => ⟨G1, env, fp, pv, rs.ext e1, PostR.imp (PostR.seq (k := fun y => PostR X.mg W σ H _ (Res.ok (x :: y))) w fun y w => w) e1.h fun xs w vs G2 H2 e2 q2 hl => w (v :: vs) G2 H2 (e1.trans e2) (.cons (q1.mono e2.g) q2) (by simp [hl])⟩⟩
theorem Fqs.length {K : PySem.W.Frag} {mg : Str → Option Value} {G : Hp} {vs : List V} {xs : List FV} (h : Fqs K mg G vs xs) : vs.length = xs.length := by
  induction h with
  | nil => rfl
  | cons _ _ ih => simp [ih]
theorem Fqs.get {K : PySem.W.Frag} {mg : Str → Option Value} {G : Hp} : ∀ {vs : List V} {xs : List FV} {i : Nat} {x : FV}, Fqs K mg G vs xs → xs[i]? = some x → ∃ v, vs[i]? = some v ∧ Fq K mg G v x
  | _, _, _, _, .nil, e => by simp at e
  | _, _, 0, _, .cons h t, e => by simp at e; subst e; exact ⟨_, rfl, h⟩
  | _, _, i + 1, x, .cons h t, e => by simpa using Fqs.get (i := i) t (by simpa using e)
def vaF (x : FV) : Slot := .va (.f x)
theorem RS.args {K : PySem.W.Frag} {mg : Str → Option Value} {G H : Hp} {vs : List V} {xs : List FV} (s : Same G H) (h : Fqs K mg G vs xs) : RS K mg G (vs.map some) (xs.map vaF) H (fun _ => []) (fun _ => .non) where
  len := by rw [List.length_map, List.length_map, h.length]
  rel := fun i u q => by
    rw [List.getElem?_map] at q
    cases z : xs[i]? with
    | none => rw [z] at q; cases q
    | some x =>
      rw [z] at q
      cases q
      obtain ⟨v, hv, fq⟩ := h.get z
      exact ⟨v, by rw [List.getElem?_map, hv]; rfl, .f fq⟩
  nil := fun _ _ => rfl
  sub := s
  out := fun _ _ m => by cases m
  nd := fun _ => .nil
  dj := fun _ _ _ m => by cases m
theorem Stp.ext0 {G H G' H' : Hp} {fp' : Nat → List Addr} (st : Stp G H (fun _ => []) G' H' fp') (s : Same G' H') : Ext G H G' H' where
  g := st.g
  h := fun b o h => st.fr b o h fun _ m => by cases m
  s := s
  n := fun a o q => by
    rcases st.n a o q with z | z | ⟨_, m⟩
    · exact .inl z
    · exact .inr z
    · cases m
def outR : FOut → Res SV
  | .ret s _ => .ok s
  | .exc c => .err c
  | .bad => .bad
def vCall (S : Fn) (fs : Env → Res (List FV)) : FO := fun env => (fs env).bind fun xs => outR (S (xs.map vaF))
theorem vo_call {k n : Nat} {f : Addr} {fd : FuncData} {ps : List Str} {S : Fn} {x : Str} {p : Pos} {fs : Env → Res (List FV)} (F : FnOk X.prog X.w X.K X.mg X.base (L2.CX X.prog X.w) k f fd ps (spV X.K X.mg n S)) (hr : Room k X.A) (hm : X.mg x = some (.ref f)) (hk : PySem.W.keepIn X.K (.ref f) = true) (hb : Binds X.K fd ps [])
    (tk : Takes X W) (ha : VAN X W n (e :: es) fs) (hg : Gl X x) (hdb : (x == ("__debug__" : Str)) = false := by decide) (he : starEach (e :: es) X.env = (false, eval e X.env) :: starEach es X.env := by rfl) (hpl : (backTo pos (starEach es X.env)).any (·.1) = false := by rfl) :
    VO X W (.Call (.Name x p) (e :: es) [] pos) (vCall S fs) :=
  pe_imp (pe_callS F hr hg hm hk hb (fun σ => passAt tk σ) ha hdb he hpl) fun σ H Q ⟨G, env, fp, pv, rs, w⟩ => ⟨G, env, fp, pv, rs, PostR.seq w fun xs w vs G1 H1 e1 q1 hl => by
    refine ⟨by rw [q1.length]; exact hl, G1, xs.map vaF, fun _ => [], fun _ => .non, RS.args e1.s q1, ?_⟩
    cases z : S (xs.map vaF) with
    | ret s as =>
      rw [z] at w
      refine fun v G2 H2 fp2 r st rs2 ow nd fr => w v G2 H2 r (e1.trans (st.ext0 rs2.sub)) ow nd fun a m => ⟨?_, (fr a m).1⟩
      rcases (fr a m).2.2 with q | ⟨_, q⟩
      · exact none_back e1.h q
      · cases q
    | exc c =>
      rw [z] at w
      exact fun C G2 H2 m k _ => w C H2 m (e1.h.trans fun b o h => k.fr b o h fun _ q => by cases q)
    | bad => rw [z] at w; exact w.elim⟩
theorem run_makeS {CX : CXT} {k : Nat} {C f : Addr} {fd : FuncData} {ps : List Str} {sp : Sp} {E : L2.St → XK} {pins : List (Addr × Obj)} {σ : L2.St} {H : Hp} {s : Shared} {Q : VK} {us : List Value} {vs : List V} (M : Mk X.K C f) (F : FnOk X.prog X.w X.K X.mg X.base CX k f fd ps sp) (hr : Room (k + 1) X.A) (hb : Binds X.K fd ps [])
    (hx : PassesAt CX X σ (E σ)) (I : Inv X pins σ H s) (r : Vals vs us)
    (h : ∀ x dx, H x = none → H dx = none → dx ≠ x → sp (.ref x :: vs) (upd (upd H dx (.own x)) x (.ins C dx [])) (fun v H2 => v = .non ∧ Q (.ref x) H2) (E σ)) :
    wpAny (model X.prog X.w) X.A (call (.ref C) us) (EP X pins σ Q) X.xe s := by
  have hq := h (s.heap.objs.size + 1) s.heap.objs.size (I.hok.fresh (Nat.le_succ _)) (I.hok.fresh (Nat.le_refl _)) (Nat.ne_of_lt (Nat.lt_succ_self _))
  have I2 := Inv.made (C := C) I
  have r2 : Vals (V.ref (s.heap.objs.size + 1) :: vs) (Value.ref (s.heap.objs.size + 1) :: us) := .cons rfl r
  have hl : (Value.ref (s.heap.objs.size + 1) :: us).length = ps.length := by
    have e := r2.length
    rw [F.len _ _ _ _ hq] at e
    exact e.symm
  have b := hb _ (Value.ref (s.heap.objs.size + 1) :: us) I2.kIn (by rw [List.append_nil]; exact hl)
  rw [List.append_nil] at b
  refine wpAny_call (make_map (f := f) I.kIn M.makes M.init (beq_iff_eq.mp M.fn) (codeAny_mono (F.run _ X.stack _ _ ⟨Value.ref (s.heap.objs.size + 1) :: us, []⟩ (Value.ref (s.heap.objs.size + 1) :: us) _ _ (E σ) (hr.make C us [])
    (I2.env0.make C us []) b r2 hq) fun r s' hq' => ?_))
  cases r with
  | error e => exact hx pins _ _ e s' I2 hq'
  | ok fl =>
    cases fl with
    | ret u =>
      obtain ⟨v, H', I3, rv, ev, q3⟩ := I2.after hq'
      subst ev
      exact ⟨rv, ⟨V.ref (s.heap.objs.size + 1), H', I3, rfl, q3⟩⟩
    | next => exact False.elim hq'
    | brk => exact False.elim hq'
    | cont => exact False.elim hq'
def tMakeS (C : Addr) (sp : Sp) (E : L2.St → XK) (t : TA) : TE := fun σ H Q => t σ H fun vs H1 => ∀ x dx, H1 x = none → H1 dx = none → dx ≠ x →
  sp (.ref x :: vs) (upd (upd H1 dx (.own x)) x (.ins C dx [])) (fun v H2 => v = .non ∧ Q (.ref x) H2) (E σ)
theorem pe_makeS {CX : CXT} {k : Nat} {C f : Addr} {fd : FuncData} {ps : List Str} {sp : Sp} {E : L2.St → XK} {x : Str} {p : Pos} {t : TA} (M : Mk X.K C f) (F : FnOk X.prog X.w X.K X.mg X.base CX k f fd ps sp) (hr : Room (k + 1) X.A) (hg : Gl X x) (hm : X.mg x = some (.ref C)) (hb : Binds X.K fd ps []) (hx : ∀ σ, PassesAt CX X σ (E σ))
    (ha : PA X (e :: es) t) (hdb : (x == ("__debug__" : Str)) = false := by decide) (he : starEach (e :: es) X.env = (false, eval e X.env) :: starEach es X.env := by rfl) (hpl : (backTo pos (starEach es X.env)).any (·.1) = false := by rfl) :
    PE X (.Call (.Name x p) (e :: es) [] pos) (tMakeS C sp E t) := by
  refine ⟨fun pins s σ H Q I h => ?_⟩
  refine wpAny_Call_Name_kw (ld_glob I hg hm ?_ hdb)
  refine PySem.W.callWith_K (h₀ := X.base) I.ok.mod.kin M.kp (thn (ha.run pos pins s σ H _ I h) fun us s1 ⟨vs, H1, I1, r, q⟩ => ⟨I1.kIn, ?_⟩) he hpl
  exact run_makeS M F hr hb (hx σ) I1 r q
def outM : FOut → Res SV
  | .ret (.f (.d .none)) (.rf s :: _) => .ok s
  | .exc c => .err c
  | _ => .bad
def vMake (c : Str) (S : Fn) (fs : Env → Res (List FV)) : FO := fun env => (fs env).bind fun xs => outM (S (.rf (.obj c []) :: xs.map vaF))
theorem vo_make {k n : Nat} {C f : Addr} {fd : FuncData} {ps : List Str} {S : Fn} {x : Str} {p : Pos} {fs : Env → Res (List FV)} (M : Mk X.K C f) (F : FnOk X.prog X.w X.K X.mg X.base (L2.CX X.prog X.w) k f fd ps (spV X.K X.mg (n + 1) S)) (hr : Room (k + 1) X.A) (hm : X.mg x = some (.ref C)) (hb : Binds X.K fd ps [])
    (tk : Takes X W) (ha : VAN X W n (e :: es) fs) (hg : Gl X x) (hdb : (x == ("__debug__" : Str)) = false := by decide) (he : starEach (e :: es) X.env = (false, eval e X.env) :: starEach es X.env := by rfl) (hpl : (backTo pos (starEach es X.env)).any (·.1) = false := by rfl) :
    VO X W (.Call (.Name x p) (e :: es) [] pos) (vMake x S fs) :=
  pe_imp (pe_makeS M F hr hg hm hb (fun σ => passAt tk σ) ha hdb he hpl) fun σ H Q ⟨G, env, fp, pv, rs, w⟩ => ⟨G, env, fp, pv, rs, PostR.seq w fun xs w vs G1 H1 e1 q1 hl y dx hy hdx hne => by
    have hH : ∀ b o, H1 b = some o → (upd (upd H1 dx (.own y)) y (.ins C dx [])) b = some o := fun b o h => by
      rw [upd_ne (ne_of_none h hy), upd_ne (ne_of_none h hdx)]; exact h
    have hy1 : G1 y = none := none_back e1.s hy
    have ra := RS.args (K := X.K) (mg := X.mg) e1.s q1
    have rs1 : RS X.K X.mg G1 ((V.ref y :: vs).map some) (.rf (.obj x []) :: xs.map vaF) (upd (upd H1 dx (.own y)) y (.ins C dx [])) (fun i => if i = 0 then [y] else []) (fun _ => .ref y) := by
      refine ⟨by simp [q1.length], fun i u q => ?_, fun i hi => ?_, fun b o h => hH b o (e1.s b o h), fun i a m => ?_, fun i => ?_, fun i j a m1 m2 => ?_⟩
      · cases i with
        | zero =>
          cases q
          exact ⟨rfl, .obj hm upd_same .nil⟩
        | succ i =>
          have q' : (xs.map vaF)[i]? = some u := q
          have r := ra.rel i u q'
          have r2 := slotOk.mono (Same.refl _) hH r
          exact (by
            cases u with
            | no => rfl
            | va s => exact r2
            | rf s =>
              rw [List.getElem?_map] at q'
              cases z : xs[i]? with
              | none => rw [z] at q'; cases q'
              | some x => rw [z] at q'; cases q'
            | vw p => exact r2)
      · have : i ≠ 0 := by intro z; subst z; simp at hi
        show (if i = 0 then [y] else []) = []
        rw [if_neg this]
      · by_cases hi : i = 0
        · rw [if_pos hi] at m
          have e : a = y := by simpa using m
          rw [e]; exact hy1
        · rw [if_neg hi] at m; cases m
      · show (if i = 0 then [y] else []).Nodup
        by_cases hi : i = 0
        · rw [if_pos hi]; simp
        · rw [if_neg hi]; exact .nil
      · by_cases hi : i = 0
        · by_cases hj : j = 0
          · rw [hi, hj]
          · rw [if_neg hj] at m2; cases m2
        · rw [if_neg hi] at m1; cases m1
    refine ⟨by simp [q1.length, hl], G1, _, _, _, rs1, ?_⟩
    cases z : S (.rf (.obj x []) :: xs.map vaF) with
    | ret s as =>
      rw [z] at w
      intro v G2 H2 fp2 r st rs2 ow nd fr
      match s, as, w, ow, rs2 with
      | .f (.d .none), .rf s' :: as, w, ow, rs2 =>
        have hv : v = .non := by
          generalize r = r' at ow
          cases ow with
          | f q => cases q with | d q => cases q; rfl
        obtain ⟨_, ow2⟩ := rs2.rel 0 _ rfl
        have hx : ∀ b o, H1 b = some o → H2 b = some o := fun b o h => st.fr b o (hH b o h) fun i m => by
          by_cases hi : i = 0
          · rw [if_pos hi] at m
            have e : b = y := by simpa using m
            rw [e, hy] at h; cases h
          · rw [if_neg hi] at m; cases m
        have back : ∀ a, (upd (upd H1 dx (.own y)) y (.ins C dx [])) a = none → H1 a = none := fun a h => by
          cases q : H1 a with
          | none => rfl
          | some o => rw [hH a o q] at h; cases h
        have inY : ∀ a j, a ∈ (if j = 0 then [y] else []) → H1 a = none := fun a j m => by
          by_cases hj : j = 0
          · rw [if_pos hj] at m
            have e : a = y := by simpa using m
            rw [e]; exact hy
          · rw [if_neg hj] at m; cases m
        refine ⟨hv, w (.ref y) G2 H2 (fp2 0) (e1.trans ⟨st.g, hx, rs2.sub, fun a o q => ?_⟩) ow2 (rs2.nd 0) fun a m => ⟨?_, rs2.out 0 a m⟩⟩
        · rcases st.n a o q with q | q | ⟨j, q⟩
          · exact .inl q
          · exact .inr (back a q)
          · exact .inr (inY a j q)
        · rcases st.f 0 a m with q | ⟨j, q⟩
          · exact none_back e1.h (back a q)
          · exact none_back e1.h (inY a j q)
    | exc c =>
      rw [z] at w
      refine fun C' G2 H2 m k _ => w C' H2 m (e1.h.trans fun b o h => k.fr b o (hH b o h) fun i q => ?_)
      have q : b ∈ (if i = 0 then [y] else []) := q
      by_cases hi : i = 0
      · rw [if_pos hi] at q
        have e : b = y := by simpa using q
        rw [e, hy] at h; cases h
      · rw [if_neg hi] at q; cases q
    | bad => rw [z] at w; exact w.elim⟩
end

def dv : Slot → Slot
  | .vw _ => .no
  | s => s
theorem dv_get {env : Env} {j : Nat} {s : Slot} (h : (env.map dv)[j]? = some s) : ∃ t, env[j]? = some t ∧ s = dv t := by
  rw [List.getElem?_map] at h
  cases z : env[j]? with
  | none => rw [z] at h; cases h
  | some t => rw [z] at h; exact ⟨t, rfl, (Option.some.inj h).symm⟩
inductive Kind where
  | va
  | rf
def Kind.mk : Kind → SV → Slot
  | .va, s => .va s
  | .rf, s => .rf s
section
variable {K : PySem.W.Frag} {mg : Str → Option Value} {G H H' : Hp} {fp : Nat → List Addr} {σ : L2.St} {env : Env} {pv : Nat → V}
theorem RS.put {i : Nat} {kd : Kind} {s s' : SV} {v : V} {r : List Addr} (h : RS K mg G σ env H fp pv) (hs : env[i]? = some (kd.mk s)) (hv : σ[i]? = some (some v)) (hp : kd = .rf → v = pv i) (hH : ∀ b, b ∉ fp i → (∃ o, H b = some o) → H' b = H b) (ow : Ow K mg G H' v s' r) (nd : r.Nodup) (hr : ∀ b ∈ r, G b = none ∧ ∀ j, j ≠ i → b ∉ fp j) :
    RS K mg G σ ((env.map dv).set i (kd.mk s')) H' (fun j => if j = i then r else fp j) pv where
  len := by rw [List.length_set, List.length_map]; exact h.len
  rel := fun j u e => by
    have hi : i < env.length := (List.getElem?_eq_some_iff.mp hs).1
    by_cases q : j = i
    · subst q
      rw [List.getElem?_set_self (by rw [List.length_map]; exact hi)] at e
      cases e
      rw [if_pos rfl]
      cases kd with
      | va => exact ⟨v, hv, ow⟩
      | rf => rw [← hp rfl]; exact ⟨hv, ow⟩
    · rw [List.getElem?_set_ne (Ne.symm q)] at e
      rw [if_neg q]
      obtain ⟨t, et, rfl⟩ := dv_get e
      have r := h.rel j t et
      have same : ∀ a ∈ fp j, H' a = H a := fun a m => hH a (fun m2 => q (h.dj j i a m m2)) (h.there j a m)
      cases t with
      | no => exact r
      | va s => obtain ⟨v, e1, q⟩ := r; exact ⟨v, e1, q.mono (Same.refl _) same⟩
      | rf s => obtain ⟨e1, q⟩ := r; exact ⟨e1, q.mono (Same.refl _) same⟩
      | vw p => exact r.1
  nil := fun j hj => by
    have hi : i < env.length := (List.getElem?_eq_some_iff.mp hs).1
    rw [List.length_set, List.length_map] at hj
    show (if j = i then r else fp j) = []
    rw [if_neg (by omega)]
    exact h.nil j hj
  sub := fun a o e => by
    have z := h.sub a o e
    rw [hH a (fun m => by rw [h.out i a m] at e; cases e) ⟨o, z⟩]
    exact z
  out := fun j a m => by
    by_cases q : j = i
    · rw [if_pos q] at m; exact (hr a m).1
    · rw [if_neg q] at m; exact h.out j a m
  nd := fun j => by
    show (if j = i then r else fp j).Nodup
    by_cases q : j = i
    · rw [if_pos q]; exact nd
    · rw [if_neg q]; exact h.nd j
  dj := fun j k a m1 m2 => by
    by_cases q1 : j = i
    · rw [if_pos q1] at m1
      by_cases q2 : k = i
      · rw [q1, q2]
      · rw [if_neg q2] at m2; exact absurd m2 ((hr a m1).2 k q2)
    · rw [if_neg q1] at m1
      by_cases q2 : k = i
      · rw [if_pos q2] at m2; exact absurd m1 ((hr a m2).2 j q1)
      · rw [if_neg q2] at m2; exact h.dj j k a m1 m2
def tree (e : Env) (i : Nat) : Option (Kind × SV) := match e[i]? with
  | some (.va s) => some (.va, s)
  | some (.rf s) => some (.rf, s)
  | _ => none
theorem RS.tree (h : RS K mg G σ env H fp pv) {i : Nat} {kd : Kind} {s : SV} (t : tree env i = some (kd, s)) : env[i]? = some (kd.mk s) ∧ ∃ v, σ[i]? = some (some v) ∧ (kd = .rf → v = pv i) ∧ Ow K mg G H v s (fp i) := by
  unfold VL.tree at t
  cases z : env[i]? with
  | none => rw [z] at t; cases t
  | some u =>
    rw [z] at t
    cases u with
    | no => cases t
    | vw p => cases t
    | va u =>
      cases t
      obtain ⟨v, e1, q⟩ := h.rel i _ z
      exact ⟨rfl, v, e1, (fun q => by cases q), q⟩
    | rf u =>
      cases t
      obtain ⟨e1, q⟩ := h.rel i _ z
      exact ⟨rfl, _, e1, (fun _ => rfl), q⟩
def putS (f : Str) (v : SV) : List (Str × SV) → List (Str × SV)
  | [] => [(f, v)]
  | (g, x) :: r => if g = f then (g, v) :: r else (g, x) :: putS f v r
theorem Owf.len : ∀ {vs : List (Str × V)} {fs : List (Str × SV)} {r : List Addr}, Owf K mg G H vs fs r → vs.length = fs.length
  | _, _, _, .nil => rfl
  | _, _, _, .cons _ t => congrArg (· + 1) (Owf.len t)
theorem Owf.put {n : Str} {v : V} {s : SV} {r1 : List Addr} (ow : Ow K mg G H v s r1) : ∀ {vs : List (Str × V)} {fs : List (Str × SV)} {r : List Addr}, Owf K mg G H vs fs r → (r ++ r1).Nodup → ∃ r', Owf K mg G H (putF n v vs) (putS n s fs) r' ∧ (∀ b ∈ r', b ∈ r ∨ b ∈ r1) ∧ r'.Nodup
  | _, _, _, .nil, nd => ⟨r1 ++ [], .cons ow .nil, fun b m => .inr (by simpa using m), by simpa using nd⟩
  | _, _, _, @Owf.cons _ _ _ _ m v0 vs x0 xs r rs h t, nd => by
    by_cases e : m = n
    · refine ⟨r1 ++ rs, ?_, fun b hb => ?_, ?_⟩
      · show Owf K mg G H (if m = n then (m, v) :: vs else (m, v0) :: putF n v vs) (if m = n then (m, s) :: xs else (m, x0) :: putS n s xs) _
        rw [if_pos e, if_pos e]
        exact .cons ow t
      · rcases List.mem_append.mp hb with q | q
        · exact .inr q
        · exact .inl (List.mem_append_right _ q)
      · have n1 := (List.nodup_append.mp nd)
        have n2 := (List.nodup_append.mp n1.1)
        exact List.nodup_append.mpr ⟨n1.2.1, n2.2.1, fun a m1 b m2 q => n1.2.2 b (List.mem_append_right _ m2) a m1 q.symm⟩
    · rw [List.append_assoc] at nd
      have n1 := List.nodup_append.mp nd
      obtain ⟨r', o', s', n'⟩ := Owf.put (n := n) ow t n1.2.1
      refine ⟨r ++ r', ?_, fun b hb => ?_, ?_⟩
      · show Owf K mg G H (if m = n then (m, v) :: vs else (m, v0) :: putF n v vs) (if m = n then (m, s) :: xs else (m, x0) :: putS n s xs) _
        rw [if_neg e, if_neg e]
        exact .cons h o'
      · rcases List.mem_append.mp hb with q | q
        · exact .inl (List.mem_append_left _ q)
        · rcases s' b q with q | q
          · exact .inl (List.mem_append_right _ q)
          · exact .inr q
      · refine List.nodup_append.mpr ⟨n1.1, n', fun a m1 b m2 q => ?_⟩
        rcases s' b m2 with z | z
        · exact n1.2.2 a m1 b (List.mem_append_left _ z) q
        · exact n1.2.2 a m1 b (List.mem_append_right _ z) q
theorem Owf.look_none {n : Str} : ∀ {vs : List (Str × V)} {fs : List (Str × SV)} {r : List Addr}, Owf K mg G H vs fs r → fs.lookup n = none → vs.lookup n = none
  | _, _, _, .nil, _ => rfl
  | _, _, _, @Owf.cons _ _ _ _ m v0 vs x0 xs r rs h t, e => by
    by_cases q : (n == m) = true
    · simp only [List.lookup, q] at e; cases e
    · have q' : (n == m) = false := by simpa using q
      simp only [List.lookup, q'] at e ⊢
      exact Owf.look_none t e
end
section
variable {X : Cx} {W : WX} {a b c e o tg : Expr} {es : List Expr} {pos apos : Pos} {st : Stmt} {sts : List Stmt}
def setF (cn n : Str) (s : SV) : SV → Option SV
  | .obj c fs => if c = cn ∧ fs.length < 1000 ∧ (n = "chance" ∨ (fs.lookup n).isNone = true) then some (.obj c (putS n s fs)) else none
  | _ => none
def vSetF (cn : Str) (i : Nat) (n : Str) (f : FO) : ST := fun e => ofR (f e) e fun s => match tree e i with
  | some (kd, t) => match setF cn n s t with
    | some t' => .nx ((e.map dv).set i (kd.mk t'))
    | none => .bad
  | none => .bad
theorem vs_setF {cn : Str} {i : Nat} {n : Str} {f : FO} (hc : FldOk X cn n) (ho : PE X o (tVar i)) (he : VO X W e f) (hsw : swapsWith e (some (.Attribute o n apos)) pos.line X.env = pure false) :
    VS X W (.Assign [.Attribute o n apos] e pos) (vSetF cn i n f) := ps_imp (ps_fld ho he hsw) fun D σ H ⟨G, env, fp, pv, rs, w⟩ => ⟨G, env, fp, pv, rs, Post.ofR rs w fun s w v G1 H1 r e1 ow nd fr => by
  cases z : tree env i with
  | none => rw [z] at w; exact w.elim
  | some kt =>
    obtain ⟨kd, t⟩ := kt
    rw [z] at w
    dsimp only at w
    have rs1 := rs.ext e1
    obtain ⟨hs, u, hu, hp, owt⟩ := rs1.tree z
    refine ⟨u, hu, ?_⟩
    cases z2 : setF cn n s t with
    | none => rw [z2] at w; exact w.elim
    | some t' =>
      rw [z2] at w
      cases t with
      | f _ => cases z2
      | own _ => cases z2
      | otup _ => cases z2
      | obj c fs =>
        have z3 : (if c = cn ∧ fs.length < 1000 ∧ (n = "chance" ∨ (fs.lookup n).isNone = true) then some (SV.obj c (putS n s fs)) else none) = some t' := z2
        by_cases hl : c = cn ∧ fs.length < 1000 ∧ (n = "chance" ∨ (fs.lookup n).isNone = true)
        · rw [if_pos hl] at z3
          cases z3
          generalize hfp : fp i = r0 at owt
          cases owt with
          | @obj x C dx _ vs _ rr m hx of =>
            obtain ⟨k1, k2⟩ := hc _ (by rw [← hl.1]; exact m)
            have hxr : x ∉ r := fun q => by
              have z1 := (fr x q).1
              obtain ⟨o, ho⟩ := rs.there i x (by rw [hfp]; exact List.mem_cons_self)
              rw [ho] at z1; cases z1
            have nd0 := rs1.nd i
            rw [hfp] at nd0
            have nd1 := List.nodup_cons.mp nd0
            have ndr : (rr ++ r).Nodup := List.nodup_append.mpr ⟨nd1.2, nd, fun a m1 b m2 q => by
              subst q
              obtain ⟨o, ho⟩ := rs.there i a (by rw [hfp]; exact List.mem_cons_of_mem _ m1)
              rw [(fr a m2).1] at ho; cases ho⟩
            obtain ⟨r', of', sr', nd'⟩ := Owf.put (n := n) ow of ndr
            have xr' : x ∉ r' := fun q => by
              rcases sr' x q with q | q
              · exact nd1.1 q
              · exact hxr q
            have upx : ∀ a, a ≠ x → (upd H1 x (.ins C dx (putF n v vs))) a = H1 a := fun a h => upd_ne h
            have rs2 := rs1.put (H' := upd H1 x (.ins C dx (putF n v vs))) (s' := .obj c (putS n s fs)) (r := x :: r') hs hu hp (fun b hb _ => upx b fun q => hb (by rw [hfp, q]; exact List.mem_cons_self))
              (.obj m upd_same (of'.mono (Same.refl _) fun a ma => upx a fun q => xr' (by rw [← q]; exact ma))) (List.nodup_cons.mpr ⟨xr', nd'⟩) (fun b hb => by
                rcases List.mem_cons.mp hb with rfl | hb
                · exact ⟨rs1.out i b (by rw [hfp]; exact List.mem_cons_self), fun j hj m2 => hj (rs1.dj j i b m2 (by rw [hfp]; exact List.mem_cons_self))⟩
                · rcases sr' b hb with q | q
                  · exact ⟨rs1.out i b (by rw [hfp]; exact List.mem_cons_of_mem _ q), fun j hj m2 => hj (rs1.dj j i b m2 (by rw [hfp]; exact List.mem_cons_of_mem _ q))⟩
                  · exact ⟨(fr b q).2, fun j _ => rs.notin (fr b q).1 j⟩)
            refine ⟨x, C, dx, vs, rfl, hx, k1, k2, by rw [of.len]; exact hl.2.1, w G1 σ _ _ ⟨e1.g, fun b ob h q => ?_, fun a ob q => ?_, fun j a ma => ?_, fun b hb => ?_, fun a C' dx' vs' h => ?_⟩ rs2⟩
            · rw [upx b fun z => q i (by rw [hfp, z]; exact List.mem_cons_self)]
              exact e1.h b ob h
            · rcases e1.n a ob q with q | q
              · exact .inl q
              · exact .inr (.inl q)
            · by_cases hj : j = i
              · rw [if_pos hj] at ma
                rcases List.mem_cons.mp ma with rfl | ma
                · exact .inr ⟨i, by rw [hfp]; exact List.mem_cons_self⟩
                · rcases sr' a ma with q | q
                  · exact .inr ⟨i, by rw [hfp]; exact List.mem_cons_of_mem _ q⟩
                  · exact .inl (fr a q).1
              · rw [if_neg hj] at ma; exact .inr ⟨j, ma⟩
            · by_cases hbx : b = x
              · rw [hbx, upd_same] at hb; cases hb
              · rw [upx b hbx] at hb; exact none_back e1.h hb
            · by_cases hax : a = x
              · have h1 := e1.h _ _ h
                rw [hax, hx] at h1
                cases h1
                refine ⟨putF n v vs, by rw [hax]; exact upd_same, fun f y hf q => ?_⟩
                rw [lookup_putF]
                by_cases hfn : f = n
                · subst hfn
                  rcases hl.2.2 with z | z
                  · exact absurd z hf
                  · have z' : fs.lookup f = none := by simpa using z
                    rw [of.look_none z'] at q; cases q
                · rw [if_neg hfn]; exact q
              · exact ⟨vs', by rw [upx a hax]; exact e1.h _ _ h, fun _ _ _ q => q⟩
        · rw [if_neg hl] at z3; cases z3⟩
end
end VL

set_option Elab.async false
set_option linter.all false
set_option maxRecDepth 100000
set_option maxHeartbeats 4000000
namespace VL
open PySem PySem.Spec PyProof.Rows L2

def Def (P : Program) (w : World) (K : PySem.W.Frag) (mg : Str → Option Value) (base : Heap) (k n : Nat) (x : Str) (ps : List Str) (S : Fn) : Prop :=
  ∃ (f : Addr) (fd : FuncData), FnOk P w K mg base (L2.CX P w) k f fd ps (spV K mg n S) ∧ mg x = some (.ref f) ∧ PySem.W.keepIn K (.ref f) = true ∧ Binds K fd ps []
def Sits (K : PySem.W.Frag) (mg : Str → Option Value) (x : Str) (st : Stmt) (ps : List Str) : Prop := ∃ (f : Addr) (fd : FuncData), Fun K x x st f fd ∧ mg x = some (.ref f) ∧ Binds K fd ps []
def ClsOk (P : Program) (w : World) (K : PySem.W.Frag) (mg : Str → Option Value) (base : Heap) (k n : Nat) (c : Str) (ps : List Str) (S : Fn) : Prop :=
  ∃ (C f : Addr) (fd : FuncData), Mk K C f ∧ FnOk P w K mg base (L2.CX P w) k f fd ps (spV K mg n S) ∧ mg c = some (.ref C) ∧ Binds K fd ps []
def SitsM (K : PySem.W.Frag) (x qual : Str) (st : Stmt) (ps : List Str) (f : Addr) : Prop := ∃ (fd : FuncData), Fun K x qual st f fd ∧ Binds K fd ps []
def ExF (K : PySem.W.Frag) (mg : Str → Option Value) (c : Str) : Prop := ∃ C : Addr, mg c = some (.ref C) ∧ PySem.W.excIn K C [.type "ValueError", .type "Exception", .type "BaseException", .type "object"] "ValueError.__new__" = true ∧ PySem.W.keepIn K (.ref C) = true ∧
  PySem.W.subIn K (.ref C) (.type "BaseException") = some true ∧ PySem.W.typeIn K (.ref C) = some (.type "type")
def GTup (K : PySem.W.Frag) (mg : Str → Option Value) (x : Str) (ns : List Int) : Prop := ∃ a : Addr, mg x = some (.ref a) ∧ ∀ G, SqT K G a (ns.map V.int)
theorem hu65 {k : Nat} {A : Around} (hr : Room k A) : A.units + 65 < cLine := by have := hr.un; omega
theorem def_ok {P : Program} {w : World} {K : PySem.W.Frag} {mg : Str → Option Value} {base : Heap} {x : Str} {st : Stmt} {N ps : List Str} {k n nl : Nat} {body : ST} (F : Sits K mg x st ps) (S : FnScope N ps (defScope st)) (hps : ps.length = n) (hn : N.length - n = nl)
    (hb : ∀ (f : Addr) (cdv : Value) (A : Around) (outer : List PySem.Env) (s : Shared) (H : Hp) (E : XK), Room k (A.deeper (envOfC x (defScope st) s.heap.objs.size f cdv)) →
      VSs (cxOf (L2.CX P w) P w K mg base N x (defScope st) f cdv A outer s H E) (WF E) (defBody st) body) : Def P w K mg base (k + 1) n x ps (mkFn nl body) := by
  obtain ⟨f, fd, F, m, b⟩ := F
  exact ⟨f, fd, fn_ok F S hps hn fun cdv A outer s H E hr => hb f cdv A outer s H E hr, m, F.kp, b⟩
theorem meth_ok {P : Program} {w : World} {K : PySem.W.Frag} {mg : Str → Option Value} {base : Heap} {x qual : Str} {st : Stmt} {N ps : List Str} {k n nl : Nat} {body : ST} {f : Addr} (F : SitsM K x qual st ps f) (S : FnScope N ps (defScope st)) (hps : ps.length = n) (hn : N.length - n = nl)
    (hb : ∀ (cdv : Value) (A : Around) (outer : List PySem.Env) (s : Shared) (H : Hp) (E : XK), Room k (A.deeper (envOfC qual (defScope st) s.heap.objs.size f cdv)) →
      VSs (cxOf (L2.CX P w) P w K mg base N qual (defScope st) f cdv A outer s H E) (WF E) (defBody st) body) : ∃ fd, FnOk P w K mg base (L2.CX P w) (k + 1) f fd ps (spV K mg n (mkFn nl body)) ∧ Binds K fd ps [] := by
  obtain ⟨fd, F, b⟩ := F
  exact ⟨fd, fn_ok F S hps hn fun cdv A outer s H E hr => hb cdv A outer s H E hr, b⟩
section
variable {X : Cx} {W : WX} {a b c e o tg : Expr} {es : List Expr} {pos : Pos}
theorem vo_callD {k j n : Nat} {ps : List Str} {S : Fn} {x : Str} {p : Pos} {fs : Env → Res (List FV)} (D : Def X.prog X.w X.K X.mg X.base k n x ps S) (hr : Room j X.A) (hkj : k ≤ j) (tk : Takes X W) (ha : VAN X W n (e :: es) fs) (hg : Gl X x := by rfl) (hdb : (x == ("__debug__" : Str)) = false := by decide) (he : starEach (e :: es) X.env = (false, eval e X.env) :: starEach es X.env := by rfl) (hpl : (backTo pos (starEach es X.env)).any (·.1) = false := by rfl) :
    VO X W (.Call (.Name x p) (e :: es) [] pos) (vCall S fs) := by
  obtain ⟨f, fd, F, m, kp, b⟩ := D
  exact vo_call F (hr.mono hkj) m kp b tk ha hg hdb he hpl
theorem vo_makeD {k j n : Nat} {ps : List Str} {S : Fn} {x : Str} {p : Pos} {fs : Env → Res (List FV)} (D : ClsOk X.prog X.w X.K X.mg X.base k (n + 1) x ps S) (hr : Room j X.A) (hkj : k + 1 ≤ j) (tk : Takes X W) (ha : VAN X W n (e :: es) fs) (hg : Gl X x := by rfl) (hdb : (x == ("__debug__" : Str)) = false := by decide) (he : starEach (e :: es) X.env = (false, eval e X.env) :: starEach es X.env := by rfl) (hpl : (backTo pos (starEach es X.env)).any (·.1) = false := by rfl) :
    VO X W (.Call (.Name x p) (e :: es) [] pos) (vMake x S fs) := by
  obtain ⟨C, f, fd, M, F, m, b⟩ := D
  exact vo_make M F (hr.mono hkj) m b tk ha hg hdb he hpl
theorem vs_raiseE {x m : Str} {j : Nat} {p p2 p3 : Pos} (E : ExF X.K X.mg x) (hc : X.calm = true) (tk : Takes X W) (hg : Gl X x := by rfl) (hdb : (x == ("__debug__" : Str)) = false := by decide) : VS X W (.Raise (some (.Call (.Name x p) [.Constant (.str m) j p2] [] pos)) none p3) (vRaise x) := by
  obtain ⟨C, g, q, k, s, t⟩ := E
  exact vs_raise hc tk PySem.F.excBase_ValueError q g k (raises_own s t) hg hdb
theorem dqs_ints {K : PySem.W.Frag} {G : Hp} (ns : List Int) : Dqs K G (ns.map V.int) (ns.map PyData.int) := Dqs.of_ints ns
theorem vp_gtup {x : Str} {ns : List Int} (T : GTup X.K X.mg x ns) (hg : Gl X x := by rfl) (hdb : (x == ("__debug__" : Str)) = false := by decide) : VP X W (.Name x pos) (vC (.tuple (ns.map .int))) := by
  obtain ⟨a, m, q⟩ := T
  exact vp_c (v := .ref a) (pe_glob hg m rfl hdb) fun G => .tup (q G) (dqs_ints ns)

def tyN : PyData → String
  | .none => "NoneType"
  | .bool _ => "bool"
  | .int _ => "int"
  | .str _ => "str"
  | .list _ => "list"
  | .tuple _ => "tuple"
  | .dict _ => "dict"
inductive Ty4 where
  | int | bool | list | tuple
def Ty4.n : Ty4 → String
  | .int => "int" | .bool => "bool" | .list => "list" | .tuple => "tuple"
def isI : Ty4 → PyData → Bool
  | .int, .int _ => true
  | .int, .bool _ => true
  | .bool, .bool _ => true
  | .list, .list _ => true
  | .tuple, .tuple _ => true
  | _, _ => false
theorem kit_isI : ∀ (T : Ty4) (p : PyData), (∀ l, p ≠ .dict l) → kitB (tyN p) T.n = some (isI T p) := by
  intro T p h
  cases T <;> cases p <;> first
    | exact absurd rfl (h _)
    | (show kitB _ _ = some _; simp only [tyN, Ty4.n, isI]; decide +kernel)
theorem Dr.ty {K : PySem.W.Frag} {G H : Hp} {v : V} {p : PyData} (s : Same G H) (h : Dr K G H v p) : TyX K H v (.type (tyN p)) ∧ ∀ l, p ≠ .dict l := by
  cases h with
  | fz h =>
    cases h with
    | non => exact ⟨.base .non, fun l q => by cases q⟩
    | bl b => exact ⟨.base (.bl b), fun l q => by cases q⟩
    | int b => exact ⟨.base (.int b), fun l q => by cases q⟩
    | str b => exact ⟨.base (.str b), fun l q => by cases q⟩
    | lst h t => exact ⟨.base (.lst (s _ _ h)), fun l q => by cases q⟩
    | tup h t =>
      refine ⟨?_, fun l q => by cases q⟩
      rcases h with (h | ⟨o, h⟩) | ⟨o, its, n, hk, hc, _⟩
      · exact .base (.tup (s _ _ h))
      · exact .fTuple (s _ _ h)
      · exact .kTuple hk hc
  | top h t => exact ⟨.base (.lst h), fun l q => by cases q⟩
theorem vp_isi (T : Ty4) {f : FD} {x : Str} {p p2 : Pos} (hx : bootBuiltins x = some (.type T.n)) (hmx : X.mg x = none) (hm : X.mg "isinstance" = none) (ha : VD X W a f) (hgx : Gl X x) (hnx : x ≠ "__name__") (hdx : (x == ("__debug__" : Str)) = false) (hg : Gl X "isinstance" := by rfl)
    (he : starEach [a, .Name x p2] X.env = (false, eval a X.env) :: starEach [.Name x p2] X.env := by rfl) (he2 : starEach [.Name x p2] X.env = (false, eval (.Name x p2) X.env) :: starEach [] X.env := by rfl) (hpl : (backTo pos (starEach [.Name x p2] X.env)).any (·.1) = false := by rfl) : VP X W (.Call (.Name "isinstance" p) [a, .Name x p2] [] pos) (v1 (fun y => iB (isI T y)) f) :=
  pe_imp (pe_callB call_isi hg hm boot_isinstance (pa_cons ha (pa_cons (pe_bltn (v := .ty T.n) hgx hmx hx rfl hnx hdx) pa_nil he2) he) (by decide) (by decide) he hpl) fun σ H Q ⟨G, env, fp, pv, rs, w⟩ => ⟨G, env, fp, pv, rs, PostR.seq w fun y w v G1 H1 e1 q1 => by
    obtain ⟨t, nd⟩ := q1.ty e1.s
    exact ⟨v, .ty T.n, _, _, _, rfl, .ty _, t, kit_ty (kit_isI T y nd), jP.bool e1.s (jP.ext e1 w)⟩⟩
noncomputable def lrg2 : PyData → PyData → Res SV
  | .int i, .int j => cIf (0 ≤ i ∧ i ≤ 16777216 ∧ 0 ≤ j ∧ j ≤ 16777216) (.ok (SV.dl (rngP i (j - i).toNat))) .bad
  | _, _ => .bad
theorem tk_body {P : Program} {w : World} {K : PySem.W.Frag} {mg : Str → Option Value} {base : Heap} {N : List Str} {qual : Str} {scope : Scope} {f : Addr} {cdv : Value} {A : Around} {outer : List PySem.Env} {s : Shared} {H : Hp} {E : XK} :
    Takes (cxOf (L2.CX P w) P w K mg base N qual scope f cdv A outer s H E) (WF E) := takes_of rfl rfl rfl rfl
theorem po_body {P : Program} {w : World} {K : PySem.W.Frag} {mg : Str → Option Value} {base : Heap} {N : List Str} {qual : Str} {scope : Scope} {f : Addr} {cdv : Value} {A : Around} {outer : List PySem.Env} {s : Shared} {H : Hp} {E : XK} :
    PassesOwn (model (cxOf (L2.CX P w) P w K mg base N qual scope f cdv A outer s H E).prog (cxOf (L2.CX P w) P w K mg base N qual scope f cdv A outer s H E).w) (cxOf (L2.CX P w) P w K mg base N qual scope f cdv A outer s H E).A (cxOf (L2.CX P w) P w K mg base N qual scope f cdv A outer s H E).env (cxOf (L2.CX P w) P w K mg base N qual scope f cdv A outer s H E).xe := passes_of rfl
end

def spLaw (K : PySem.W.Frag) : Sp := fun vs H Q _ => ∃ (a : Addr) (ns : List Int), vs = [.ref a] ∧ SqL K H a (ns.map V.int) ∧ ns.length ≤ 63 ∧ ∀ H', Q (.bl true) H'
theorem law_ok {P : Program} {w : World} {K : PySem.W.Frag} {mg : Str → Option Value} {base : Heap} {k : Nat} {f : Addr} {fd : FuncData} {S : Fn} (F : FnOk P w K mg base (L2.CX P w) k f fd ["script"] (spV K mg 1 S))
    (h : ∀ ns : List Int, ns.length ≤ 63 → ∃ a, S [.va (.f (.sc ns))] = .ret (.f (.d (.bool true))) a) : FnOk P w K mg base (L2.CX P w) k f fd ["script"] (spLaw K) :=
  F.imp fun vs H Q E ⟨a, ns, e, hs, hl, q⟩ => by
    subst e
    obtain ⟨as, hS⟩ := h ns hl
    have rs : RS K mg H [some (.ref a)] [.va (.f (.sc ns))] H (fun _ => []) (fun _ => .non) := RS.args (vs := [.ref a]) (xs := [.sc ns]) (Same.refl H) (.cons (.sc hs) .nil)
    refine ⟨rfl, H, [.va (.f (.sc ns))], fun _ => [], fun _ => .non, rs, ?_⟩
    rw [hS]
    intro v G' H' fp' r st rs' ow nd fr
    have e : v = .bl true := by
      cases ow with
      | f q => cases q with | d q => cases q; rfl
    subst e
    exact q H'
end VL

set_option Elab.async false
set_option linter.all false
set_option maxRecDepth 100000
set_option maxHeartbeats 4000000
namespace VL
open PySem PySem.Spec PyProof.Rows L2

inductive Pst where
  | fld (cn n : Str)
  | ix (i : Int)
def stepS : SV → Pst → Option SV
  | .obj c fs, .fld cn n => if c = cn then fs.lookup n else none
  | .own xs, .ix i => atI xs i
  | .otup xs, .ix i => atI xs i
  | _, _ => none
def subS : SV → List Pst → Option SV
  | s, [] => some s
  | s, p :: ps => (stepS s p).bind fun t => subS t ps
def setIx (xs : List SV) (i : Int) (t : SV) : List SV := match ixN xs.length i with
  | some j => xs.set j t
  | none => xs
def setS1 : SV → Pst → SV → SV
  | .obj c fs, .fld _ n, t => .obj c (putS n t fs)
  | .own xs, .ix i, t => .own (setIx xs i t)
  | .otup xs, .ix i, t => .otup (setIx xs i t)
  | s, _, _ => s
def updS : SV → List Pst → SV → SV
  | _, [], t => t
  | s, p :: ps, t => match stepS s p with
    | some u => setS1 s p (updS u ps t)
    | none => s
def stepV (H : Hp) : V → Pst → Option V
  | .ref a, .fld _ n => match H a with
    | some (.ins _ _ vs) => vs.lookup n
    | _ => none
  | .ref a, .ix i => match H a with
    | some (.lst vs) => atI vs i
    | some (.tup vs) => atI vs i
    | _ => none
  | _, _ => none
def reach (H : Hp) : V → List Pst → Option V
  | v, [] => some v
  | v, p :: ps => (stepV H v p).bind fun w => reach H w ps
theorem subS_snoc : ∀ (s : SV) (ps : List Pst) (p : Pst), subS s (ps ++ [p]) = (subS s ps).bind fun t => stepS t p
  | s, [], p => by
    show (stepS s p).bind (fun t => some t) = stepS s p
    cases stepS s p <;> rfl
  | s, q :: ps, p => by
    show (stepS s q).bind (fun t => subS t (ps ++ [p])) = ((stepS s q).bind fun t => subS t ps).bind _
    cases stepS s q with
    | none => rfl
    | some t => exact subS_snoc t ps p
theorem reach_snoc (H : Hp) : ∀ (v : V) (ps : List Pst) (p : Pst), reach H v (ps ++ [p]) = (reach H v ps).bind fun t => stepV H t p
  | v, [], p => by
    show (stepV H v p).bind (fun t => some t) = stepV H v p
    cases stepV H v p <;> rfl
  | v, q :: ps, p => by
    show (stepV H v q).bind (fun t => reach H t (ps ++ [p])) = ((stepV H v q).bind fun t => reach H t ps).bind _
    cases stepV H v q with
    | none => rfl
    | some t => exact reach_snoc H t ps p
theorem stepV_same {H H' : Hp} (e : Same H H') {v w : V} {p : Pst} (h : stepV H v p = some w) : stepV H' v p = some w := by
  cases v with
  | ref a =>
    cases p with
    | fld c n =>
      have h' : (match H a with | some (.ins _ _ vs) => vs.lookup n | _ => none) = some w := h
      show (match H' a with | some (.ins _ _ vs) => vs.lookup n | _ => none) = some w
      cases z : H a with
      | none => rw [z] at h'; cases h'
      | some o => rw [e _ _ z]; rw [z] at h'; exact h'
    | ix i =>
      have h' : (match H a with | some (.lst vs) => atI vs i | some (.tup vs) => atI vs i | _ => none) = some w := h
      show (match H' a with | some (.lst vs) => atI vs i | some (.tup vs) => atI vs i | _ => none) = some w
      cases z : H a with
      | none => rw [z] at h'; cases h'
      | some o => rw [e _ _ z]; rw [z] at h'; exact h'
  | _ => cases p <;> cases h
theorem reach_same {H H' : Hp} (e : Same H H') : ∀ {ps : List Pst} {v u : V}, reach H v ps = some u → reach H' v ps = some u
  | [], _, _, h => h
  | p :: ps, v, u, h => by
    have h' : (stepV H v p).bind (fun w => reach H w ps) = some u := h
    show (stepV H' v p).bind (fun w => reach H' w ps) = some u
    cases z : stepV H v p with
    | none => rw [z] at h'; cases h'
    | some w =>
      rw [z] at h'
      rw [stepV_same e z]
      exact reach_same e h'
theorem setIx_eq {xs : List SV} {i : Int} {j : Nat} {t : SV} (h : ixN xs.length i = some j) : setIx xs i t = xs.set j t := by
  unfold setIx
  rw [h]
section
variable {K : PySem.W.Frag} {mg : Str → Option Value} {G G' H H' : Hp}
theorem Ows.len : ∀ {vs : List V} {xs : List SV} {r : List Addr}, Ows K mg G H vs xs r → vs.length = xs.length
  | _, _, _, .nil => rfl
  | _, _, _, .cons _ t => congrArg (· + 1) (Ows.len t)
theorem Ows.see : ∀ {vs : List V} {xs : List SV} {r : List Addr} {j : Nat} {s : SV}, Ows K mg G H vs xs r → xs[j]? = some s → ∃ w r1, vs[j]? = some w ∧ Ow K mg G H w s r1 ∧ ∀ a ∈ r1, a ∈ r
  | _, _, _, _, _, .nil, h => by simp at h
  | _, _, _, 0, s, @Ows.cons _ _ _ _ v vs x xs r rs h t, e => by
    have e' : x = s := by simpa using e
    subst e'
    exact ⟨v, r, rfl, h, fun a m => List.mem_append_left _ m⟩
  | _, _, _, j + 1, s, @Ows.cons _ _ _ _ v vs x xs r rs h t, e => by
    obtain ⟨w, r1, h1, h2, h3⟩ := Ows.see (j := j) t (by simpa using e)
    exact ⟨w, r1, by simpa using h1, h2, fun a m => List.mem_append_right _ (h3 a m)⟩
theorem Owf.see {n : Str} : ∀ {vs : List (Str × V)} {fs : List (Str × SV)} {r : List Addr} {s : SV}, Owf K mg G H vs fs r → fs.lookup n = some s → ∃ w r1, vs.lookup n = some w ∧ Ow K mg G H w s r1 ∧ ∀ a ∈ r1, a ∈ r
  | _, _, _, _, .nil, h => by cases h
  | _, _, _, s, @Owf.cons _ _ _ _ m v vs x xs r rs h t, e => by
    by_cases q : (n == m) = true
    · simp only [List.lookup, q] at e ⊢
      cases e
      exact ⟨v, r, rfl, h, fun a m => List.mem_append_left _ m⟩
    · have q' : (n == m) = false := by simpa using q
      simp only [List.lookup, q'] at e ⊢
      obtain ⟨w, r1, h1, h2, h3⟩ := Owf.see (n := n) t e
      exact ⟨w, r1, h1, h2, fun a m => List.mem_append_right _ (h3 a m)⟩
theorem atI_ex {α : Type} {xs : List α} {i : Int} {t : α} (h : atI xs i = some t) : ∃ j, ixN xs.length i = some j ∧ xs[j]? = some t := by
  unfold atI at h
  cases z : ixN xs.length i with
  | none => rw [z] at h; cases h
  | some j => rw [z] at h; exact ⟨j, rfl, h⟩
theorem atI_of {α : Type} {xs : List α} {i : Int} {t : α} {j : Nat} (h : ixN xs.length i = some j) (e : xs[j]? = some t) : atI xs i = some t := by
  unfold atI
  rw [h]
  exact e
theorem Ow.see1 {v : V} {s t : SV} {r : List Addr} {p : Pst} (h : Ow K mg G H v s r) (e : stepS s p = some t) : ∃ w r1, stepV H v p = some w ∧ Ow K mg G H w t r1 ∧ ∀ a ∈ r1, a ∈ r := by
  cases h with
  | f h => cases p <;> cases e
  | @own a vs xs r hH o =>
    cases p with
    | fld c n => cases e
    | ix i =>
      obtain ⟨j, h1, h2⟩ := atI_ex (show atI xs i = some t from e)
      obtain ⟨w, r1, k1, k2, k3⟩ := o.see h2
      refine ⟨w, r1, ?_, k2, fun a m => List.mem_cons_of_mem _ (k3 a m)⟩
      show (match H a with | some (.lst vs) => atI vs i | some (.tup vs) => atI vs i | _ => none) = some w
      rw [hH]
      exact atI_of (by rw [o.len]; exact h1) k1
  | @otup a vs xs r hH o =>
    cases p with
    | fld c n => cases e
    | ix i =>
      obtain ⟨j, h1, h2⟩ := atI_ex (show atI xs i = some t from e)
      obtain ⟨w, r1, k1, k2, k3⟩ := o.see h2
      refine ⟨w, r1, ?_, k2, fun a m => List.mem_cons_of_mem _ (k3 a m)⟩
      show (match H a with | some (.lst vs) => atI vs i | some (.tup vs) => atI vs i | _ => none) = some w
      rw [hH]
      exact atI_of (by rw [o.len]; exact h1) k1
  | @obj a C dx c vs fs r m hH o =>
    cases p with
    | ix i => cases e
    | fld cn n =>
      have e' : (if c = cn then fs.lookup n else none) = some t := e
      by_cases ec : c = cn
      · rw [if_pos ec] at e'
        obtain ⟨w, r1, k1, k2, k3⟩ := o.see e'
        refine ⟨w, r1, ?_, k2, fun a m => List.mem_cons_of_mem _ (k3 a m)⟩
        show (match H a with | some (.ins _ _ vs) => vs.lookup n | _ => none) = some w
        rw [hH]
        exact k1
      · rw [if_neg ec] at e'; cases e'
theorem Ow.see : ∀ {ps : List Pst} {v : V} {s t : SV} {r : List Addr}, Ow K mg G H v s r → subS s ps = some t → ∃ u r1, reach H v ps = some u ∧ Ow K mg G H u t r1 ∧ ∀ a ∈ r1, a ∈ r
  | [], v, s, t, r, h, e => by
    have e' : s = t := Option.some.inj e
    subst e'
    exact ⟨v, r, rfl, h, fun a m => m⟩
  | p :: ps, v, s, t, r, h, e => by
    have e' : (stepS s p).bind (fun t => subS t ps) = some t := e
    cases z : stepS s p with
    | none => rw [z] at e'; cases e'
    | some s1 =>
      rw [z] at e'
      obtain ⟨w, r1, h1, h2, h3⟩ := h.see1 z
      obtain ⟨u, r2, k1, k2, k3⟩ := Ow.see (ps := ps) h2 e'
      refine ⟨u, r2, ?_, k2, fun a m => h3 a (k3 a m)⟩
      show (stepV H v p).bind (fun w => reach H w ps) = some u
      rw [h1]
      exact k1

structure Exch (K : PySem.W.Frag) (mg : Str → Option Value) (G H G' H' : Hp) (r r1 : List Addr) (w' : V) (s' : SV) (r1' : List Addr) : Prop where
  g : Same G G'
  h : ∀ a ∈ r, a ∉ r1 → H' a = H a
  ow : Ow K mg G' H' w' s' r1'
  nd : r1'.Nodup
  sub : ∀ a ∈ r1', a ∈ r1 ∨ a ∉ r
theorem Ows.exch : ∀ {vs : List V} {xs : List SV} {r : List Addr} {j : Nat} {s : SV}, Ows K mg G H vs xs r → r.Nodup → xs[j]? = some s → ∃ w r1, vs[j]? = some w ∧ Ow K mg G H w s r1 ∧ r1.Nodup ∧ (∀ a ∈ r1, a ∈ r) ∧
    ∀ {w' G' H' s' r1'}, Exch K mg G H G' H' r r1 w' s' r1' → ∃ r', Ows K mg G' H' (vs.set j w') (xs.set j s') r' ∧ r'.Nodup ∧ ∀ a ∈ r', a ∈ r1' ∨ (a ∈ r ∧ a ∉ r1)
  | _, _, _, _, _, .nil, _, h => by simp at h
  | _, _, _, 0, s, @Ows.cons _ _ _ _ v vs x xs r rs h t, nd, e => by
    have e' : x = s := by simpa using e
    subst e'
    have n1 := List.nodup_append.mp nd
    refine ⟨v, r, rfl, h, n1.1, fun a m => List.mem_append_left _ m, fun {w' G' H' s' r1'} X => ⟨r1' ++ rs, ?_, ?_, fun a m => ?_⟩⟩
    · exact .cons X.ow (t.mono X.g fun a m => X.h a (List.mem_append_right _ m) fun m2 => n1.2.2 a m2 a m rfl)
    · refine List.nodup_append.mpr ⟨X.nd, n1.2.1, fun a m1 b m2 q => ?_⟩
      subst q
      rcases X.sub a m1 with z | z
      · exact n1.2.2 a z a m2 rfl
      · exact z (List.mem_append_right _ m2)
    · rcases List.mem_append.mp m with q | q
      · exact .inl q
      · exact .inr ⟨List.mem_append_right _ q, fun m2 => n1.2.2 a m2 a q rfl⟩
  | _, _, _, j + 1, s, @Ows.cons _ _ _ _ v vs x xs r rs h t, nd, e => by
    have n1 := List.nodup_append.mp nd
    obtain ⟨w, r1, k1, k2, k3, k4, k5⟩ := Ows.exch (j := j) t n1.2.1 (by simpa using e)
    refine ⟨w, r1, by simpa using k1, k2, k3, fun a m => List.mem_append_right _ (k4 a m), fun {w' G' H' s' r1'} X => ?_⟩
    obtain ⟨r', o', nd', s'⟩ := k5 (w' := w') ⟨X.g, fun a m => X.h a (List.mem_append_right _ m), X.ow, X.nd, fun a m => (X.sub a m).imp id fun q m2 => q (List.mem_append_right _ m2)⟩
    refine ⟨r ++ r', ?_, ?_, fun a m => ?_⟩
    · exact .cons (h.mono X.g fun a m => X.h a (List.mem_append_left _ m) fun m2 => n1.2.2 a m a (k4 a m2) rfl) o'
    · refine List.nodup_append.mpr ⟨n1.1, nd', fun a m1 b m2 q => ?_⟩
      subst q
      rcases s' a m2 with z | z
      · rcases X.sub a z with q | q
        · exact n1.2.2 a m1 a (k4 a q) rfl
        · exact q (List.mem_append_left _ m1)
      · exact n1.2.2 a m1 a z.1 rfl
    · rcases List.mem_append.mp m with q | q
      · exact .inr ⟨List.mem_append_left _ q, fun m2 => n1.2.2 a q a (k4 a m2) rfl⟩
      · rcases s' a q with z | z
        · exact .inl z
        · exact .inr ⟨List.mem_append_right _ z.1, z.2⟩
theorem Owf.exch {n : Str} : ∀ {vs : List (Str × V)} {fs : List (Str × SV)} {r : List Addr} {s : SV}, Owf K mg G H vs fs r → r.Nodup → fs.lookup n = some s → ∃ w r1, vs.lookup n = some w ∧ Ow K mg G H w s r1 ∧ r1.Nodup ∧ (∀ a ∈ r1, a ∈ r) ∧
    ∀ {G' H' s' r1'}, Exch K mg G H G' H' r r1 w s' r1' → ∃ r', Owf K mg G' H' vs (putS n s' fs) r' ∧ r'.Nodup ∧ ∀ a ∈ r', a ∈ r1' ∨ (a ∈ r ∧ a ∉ r1)
  | _, _, _, _, .nil, _, h => by cases h
  | _, _, _, s, @Owf.cons _ _ _ _ m v vs x xs r rs h t, nd, e => by
    have n1 := List.nodup_append.mp nd
    by_cases q : (n == m) = true
    · have qe : m = n := (beq_iff_eq.mp q).symm
      simp only [List.lookup, q] at e ⊢
      cases e
      refine ⟨v, r, rfl, h, n1.1, fun a m => List.mem_append_left _ m, fun {G' H' s' r1'} X => ⟨r1' ++ rs, ?_, ?_, fun a m => ?_⟩⟩
      · show Owf K mg G' H' ((m, v) :: vs) (if m = n then (m, s') :: xs else (m, _) :: putS n s' xs) _
        rw [if_pos qe]
        exact .cons X.ow (t.mono X.g fun a m => X.h a (List.mem_append_right _ m) fun m2 => n1.2.2 a m2 a m rfl)
      · refine List.nodup_append.mpr ⟨X.nd, n1.2.1, fun a m1 b m2 q => ?_⟩
        subst q
        rcases X.sub a m1 with z | z
        · exact n1.2.2 a z a m2 rfl
        · exact z (List.mem_append_right _ m2)
      · rcases List.mem_append.mp m with q | q
        · exact .inl q
        · exact .inr ⟨List.mem_append_right _ q, fun m2 => n1.2.2 a m2 a q rfl⟩
    · have q' : (n == m) = false := by simpa using q
      have qn : ¬ m = n := fun z => by rw [z] at q'; simp at q'
      simp only [List.lookup, q'] at e ⊢
      obtain ⟨w, r1, k1, k2, k3, k4, k5⟩ := Owf.exch (n := n) t n1.2.1 e
      refine ⟨w, r1, k1, k2, k3, fun a m => List.mem_append_right _ (k4 a m), fun {G' H' s' r1'} X => ?_⟩
      obtain ⟨r', o', nd', s'⟩ := k5 ⟨X.g, fun a m => X.h a (List.mem_append_right _ m), X.ow, X.nd, fun a m => (X.sub a m).imp id fun q m2 => q (List.mem_append_right _ m2)⟩
      refine ⟨r ++ r', ?_, ?_, fun a m => ?_⟩
      · show Owf K mg G' H' ((m, v) :: vs) (if m = n then _ else (m, x) :: putS n _ xs) _
        rw [if_neg qn]
        exact .cons (h.mono X.g fun a m => X.h a (List.mem_append_left _ m) fun m2 => n1.2.2 a m a (k4 a m2) rfl) o'
      · refine List.nodup_append.mpr ⟨n1.1, nd', fun a m1 b m2 q => ?_⟩
        subst q
        rcases s' a m2 with z | z
        · rcases X.sub a z with q | q
          · exact n1.2.2 a m1 a (k4 a q) rfl
          · exact q (List.mem_append_left _ m1)
        · exact n1.2.2 a m1 a z.1 rfl
      · rcases List.mem_append.mp m with q | q
        · exact .inr ⟨List.mem_append_left _ q, fun m2 => n1.2.2 a q a (k4 a m2) rfl⟩
        · rcases s' a q with z | z
          · exact .inl z
          · exact .inr ⟨List.mem_append_right _ z.1, z.2⟩
theorem set_self {α : Type} : ∀ {l : List α} {j : Nat} {a : α}, l[j]? = some a → l.set j a = l
  | [], _, _, h => by simp at h
  | x :: l, 0, a, h => by simp at h; subst h; rfl
  | x :: l, j + 1, a, h => by
    show x :: l.set j a = x :: l
    rw [set_self (by simpa using h)]
theorem Ow.exch : ∀ {ps : List Pst} {v : V} {s t : SV} {r : List Addr}, Ow K mg G H v s r → r.Nodup → subS s ps = some t → ∃ u r1, reach H v ps = some u ∧ Ow K mg G H u t r1 ∧ r1.Nodup ∧ (∀ a ∈ r1, a ∈ r) ∧
    ∀ {G' H' t' r1'}, Exch K mg G H G' H' r r1 u t' r1' → ∃ r', Ow K mg G' H' v (updS s ps t') r' ∧ r'.Nodup ∧ ∀ a ∈ r', a ∈ r1' ∨ (a ∈ r ∧ a ∉ r1)
  | [], v, s, t, r, h, nd, e => by
    have e' : s = t := Option.some.inj e
    subst e'
    exact ⟨v, r, rfl, h, nd, fun a m => m, fun {G' H' t' r1'} X => ⟨r1', X.ow, X.nd, fun a m => .inl m⟩⟩
  | p :: ps, v, s, t, r, h, nd, e => by
    have e' : (stepS s p).bind (fun t => subS t ps) = some t := e
    cases z : stepS s p with
    | none => rw [z] at e'; cases e'
    | some s1 =>
      rw [z] at e'
      have hu : ∀ t', updS s (p :: ps) t' = setS1 s p (updS s1 ps t') := fun t' => by
        show (match stepS s p with | some u => setS1 s p (updS u ps t') | none => s) = _
        rw [z]
      cases h with
      | f h => cases p <;> cases z
      | @own a vs xs r hH o =>
        cases p with
        | fld c n => cases z
        | ix i =>
          have n1 := List.nodup_cons.mp nd
          obtain ⟨j, h1, h2⟩ := atI_ex (show atI xs i = some s1 from z)
          obtain ⟨w, r1, k1, k2, k3, k4, k5⟩ := o.exch n1.2 h2
          obtain ⟨u, r2, l1, l2, l3, l4, l5⟩ := Ow.exch (ps := ps) k2 k3 e'
          refine ⟨u, r2, ?_, l2, l3, fun b m => List.mem_cons_of_mem _ (k4 b (l4 b m)), fun {G' H' t' r2'} X => ?_⟩
          · show (match H a with | some (.lst vs) => atI vs i | some (.tup vs) => atI vs i | _ => none).bind _ = some u
            rw [hH]
            show (atI vs i).bind _ = some u
            rw [atI_of (by rw [o.len]; exact h1) k1]
            exact l1
          · obtain ⟨r1', q1, q2, q3⟩ := l5 ⟨X.g, fun b m n => X.h b (List.mem_cons_of_mem _ (k4 b m)) n, X.ow, X.nd, fun b m => (X.sub b m).imp id fun q m2 => q (List.mem_cons_of_mem _ (k4 b m2))⟩
            obtain ⟨r', p1, p2, p3⟩ := k5 (w' := w) ⟨X.g, fun b m n => X.h b (List.mem_cons_of_mem _ m) (fun m2 => n (l4 b m2)), q1, q2, fun b m => by
              rcases q3 b m with q | q
              · rcases X.sub b q with y | y
                · exact .inl (l4 b y)
                · exact .inr fun m2 => y (List.mem_cons_of_mem _ m2)
              · exact .inl q.1⟩
            have sub' : ∀ b ∈ r', b ∈ r2' ∨ (b ∈ r ∧ b ∉ r2) := fun b m => by
              rcases p3 b m with q | q
              · rcases q3 b q with y | y
                · exact .inl y
                · exact .inr ⟨k4 b y.1, y.2⟩
              · exact .inr ⟨q.1, fun m2 => q.2 (l4 b m2)⟩
            have ar' : a ∉ r' := fun m => by
              rcases sub' a m with q | q
              · rcases X.sub a q with y | y
                · exact n1.1 (k4 a (l4 a y))
                · exact y List.mem_cons_self
              · exact n1.1 q.1
            refine ⟨a :: r', ?_, List.nodup_cons.mpr ⟨ar', p2⟩, fun b m => ?_⟩
            · rw [hu, show setS1 (.own xs) (.ix i) (updS s1 ps t') = .own (setIx xs i (updS s1 ps t')) from rfl, setIx_eq h1]
              refine .own ?_ p1
              rw [set_self k1, X.h a List.mem_cons_self fun m => n1.1 (k4 a (l4 a m))]
              exact hH
            · rcases List.mem_cons.mp m with rfl | m
              · exact .inr ⟨List.mem_cons_self, fun m => n1.1 (k4 _ (l4 _ m))⟩
              · exact (sub' b m).imp id fun q => ⟨List.mem_cons_of_mem _ q.1, q.2⟩
      | @otup a vs xs r hH o =>
        cases p with
        | fld c n => cases z
        | ix i =>
          have n1 := List.nodup_cons.mp nd
          obtain ⟨j, h1, h2⟩ := atI_ex (show atI xs i = some s1 from z)
          obtain ⟨w, r1, k1, k2, k3, k4, k5⟩ := o.exch n1.2 h2
          obtain ⟨u, r2, l1, l2, l3, l4, l5⟩ := Ow.exch (ps := ps) k2 k3 e'
          refine ⟨u, r2, ?_, l2, l3, fun b m => List.mem_cons_of_mem _ (k4 b (l4 b m)), fun {G' H' t' r2'} X => ?_⟩
          · show (match H a with | some (.lst vs) => atI vs i | some (.tup vs) => atI vs i | _ => none).bind _ = some u
            rw [hH]
            show (atI vs i).bind _ = some u
            rw [atI_of (by rw [o.len]; exact h1) k1]
            exact l1
          · obtain ⟨r1', q1, q2, q3⟩ := l5 ⟨X.g, fun b m n => X.h b (List.mem_cons_of_mem _ (k4 b m)) n, X.ow, X.nd, fun b m => (X.sub b m).imp id fun q m2 => q (List.mem_cons_of_mem _ (k4 b m2))⟩
            obtain ⟨r', p1, p2, p3⟩ := k5 (w' := w) ⟨X.g, fun b m n => X.h b (List.mem_cons_of_mem _ m) (fun m2 => n (l4 b m2)), q1, q2, fun b m => by
              rcases q3 b m with q | q
              · rcases X.sub b q with y | y
                · exact .inl (l4 b y)
                · exact .inr fun m2 => y (List.mem_cons_of_mem _ m2)
              · exact .inl q.1⟩
            have sub' : ∀ b ∈ r', b ∈ r2' ∨ (b ∈ r ∧ b ∉ r2) := fun b m => by
              rcases p3 b m with q | q
              · rcases q3 b q with y | y
                · exact .inl y
                · exact .inr ⟨k4 b y.1, y.2⟩
              · exact .inr ⟨q.1, fun m2 => q.2 (l4 b m2)⟩
            have ar' : a ∉ r' := fun m => by
              rcases sub' a m with q | q
              · rcases X.sub a q with y | y
                · exact n1.1 (k4 a (l4 a y))
                · exact y List.mem_cons_self
              · exact n1.1 q.1
            refine ⟨a :: r', ?_, List.nodup_cons.mpr ⟨ar', p2⟩, fun b m => ?_⟩
            · rw [hu, show setS1 (.otup xs) (.ix i) (updS s1 ps t') = .otup (setIx xs i (updS s1 ps t')) from rfl, setIx_eq h1]
              refine .otup ?_ p1
              rw [set_self k1, X.h a List.mem_cons_self fun m => n1.1 (k4 a (l4 a m))]
              exact hH
            · rcases List.mem_cons.mp m with rfl | m
              · exact .inr ⟨List.mem_cons_self, fun m => n1.1 (k4 _ (l4 _ m))⟩
              · exact (sub' b m).imp id fun q => ⟨List.mem_cons_of_mem _ q.1, q.2⟩
      | @obj a C dx c vs fs r m hH o =>
        cases p with
        | ix i => cases z
        | fld cn n =>
          have n1 := List.nodup_cons.mp nd
          have z' : (if c = cn then fs.lookup n else none) = some s1 := z
          by_cases ec : c = cn
          · rw [if_pos ec] at z'
            obtain ⟨w, r1, k1, k2, k3, k4, k5⟩ := o.exch n1.2 z'
            obtain ⟨u, r2, l1, l2, l3, l4, l5⟩ := Ow.exch (ps := ps) k2 k3 e'
            refine ⟨u, r2, ?_, l2, l3, fun b m => List.mem_cons_of_mem _ (k4 b (l4 b m)), fun {G' H' t' r2'} X => ?_⟩
            · show (match H a with | some (.ins _ _ vs) => vs.lookup n | _ => none).bind _ = some u
              rw [hH]
              show (vs.lookup n).bind _ = some u
              rw [k1]
              exact l1
            · obtain ⟨r1', q1, q2, q3⟩ := l5 ⟨X.g, fun b m n => X.h b (List.mem_cons_of_mem _ (k4 b m)) n, X.ow, X.nd, fun b m => (X.sub b m).imp id fun q m2 => q (List.mem_cons_of_mem _ (k4 b m2))⟩
              obtain ⟨r', p1, p2, p3⟩ := k5 ⟨X.g, fun b m n => X.h b (List.mem_cons_of_mem _ m) (fun m2 => n (l4 b m2)), q1, q2, fun b m => by
                rcases q3 b m with q | q
                · rcases X.sub b q with y | y
                  · exact .inl (l4 b y)
                  · exact .inr fun m2 => y (List.mem_cons_of_mem _ m2)
                · exact .inl q.1⟩
              have sub' : ∀ b ∈ r', b ∈ r2' ∨ (b ∈ r ∧ b ∉ r2) := fun b m => by
                rcases p3 b m with q | q
                · rcases q3 b q with y | y
                  · exact .inl y
                  · exact .inr ⟨k4 b y.1, y.2⟩
                · exact .inr ⟨q.1, fun m2 => q.2 (l4 b m2)⟩
              have ar' : a ∉ r' := fun m => by
                rcases sub' a m with q | q
                · rcases X.sub a q with y | y
                  · exact n1.1 (k4 a (l4 a y))
                  · exact y List.mem_cons_self
                · exact n1.1 q.1
              refine ⟨a :: r', ?_, List.nodup_cons.mpr ⟨ar', p2⟩, fun b m => ?_⟩
              · rw [hu]
                exact .obj m ((X.h a List.mem_cons_self fun m => n1.1 (k4 a (l4 a m))).trans hH) p1
              · rcases List.mem_cons.mp m with rfl | m
                · exact .inr ⟨List.mem_cons_self, fun m => n1.1 (k4 _ (l4 _ m))⟩
                · exact (sub' b m).imp id fun q => ⟨List.mem_cons_of_mem _ q.1, q.2⟩
          · rw [if_neg ec] at z'; cases z'
theorem Ows.take1 : ∀ {vs : List V} {xs : List SV} {r : List Addr} {j : Nat} {s : SV}, Ows K mg G H vs xs r → r.Nodup → xs[j]? = some s → ∃ w r1 r2, vs[j]? = some w ∧ Ow K mg G H w s r1 ∧ Ows K mg G H (vs.eraseIdx j) (xs.eraseIdx j) r2 ∧ (r1 ++ r2).Nodup ∧ ∀ a ∈ r1 ++ r2, a ∈ r
  | _, _, _, _, _, .nil, _, h => by simp at h
  | _, _, _, 0, s, @Ows.cons _ _ _ _ v vs x xs r rs h t, nd, e => by
    have e' : x = s := by simpa using e
    subst e'
    exact ⟨v, r, rs, rfl, h, t, nd, fun a m => m⟩
  | _, _, _, j + 1, s, @Ows.cons _ _ _ _ v vs x xs r rs h t, nd, e => by
    have n1 := List.nodup_append.mp nd
    obtain ⟨w, r1, r2, h1, h2, h3, h4, h5⟩ := Ows.take1 (j := j) t n1.2.1 (by simpa using e)
    have n2 := List.nodup_append.mp h4
    refine ⟨w, r1, r ++ r2, by simpa using h1, h2, .cons h h3, ?_, fun a m => ?_⟩
    · refine List.nodup_append.mpr ⟨n2.1, List.nodup_append.mpr ⟨n1.1, n2.2.1, fun a m1 b m2 q => n1.2.2 a m1 b (h5 b (List.mem_append_right _ m2)) q⟩, fun a m1 b m2 q => ?_⟩
      subst q
      rcases List.mem_append.mp m2 with m | m
      · exact n1.2.2 a m a (h5 a (List.mem_append_left _ m1)) rfl
      · exact n2.2.2 a m1 a m rfl
    · rcases List.mem_append.mp m with m | m
      · exact List.mem_append_right _ (h5 a (List.mem_append_left _ m))
      · rcases List.mem_append.mp m with m | m
        · exact List.mem_append_left _ m
        · exact List.mem_append_right _ (h5 a (List.mem_append_right _ m))
end
end VL

set_option Elab.async false
set_option linter.all false
set_option maxRecDepth 100000
set_option maxHeartbeats 4000000
namespace VL
open PySem PySem.Spec PyProof.Rows L2

def rd (e : Env) (i : Nat) : Option SV := match e[i]? with
  | some (.va s) => some s
  | some (.rf s) => some s
  | some (.vw s) => some s
  | _ => none
abbrev Plc := Nat × List Pst × SV
def AtP (σ : L2.St) (env : Env) (H : Hp) (x : Plc) (u : V) : Prop := ∃ s v, rd env x.1 = some s ∧ subS s x.2.1 = some x.2.2 ∧ σ[x.1]? = some (some v) ∧ reach H v x.2.1 = some u
def tPl (K : PySem.W.Frag) (mg : Str → Option Value) (W : WX) (f : Env → Res Plc) : TE := fun σ H Q => ∃ G env fp pv, RS K mg G σ env H fp pv ∧
  PostR mg W σ H (fun x => ∀ u G' H', Ext G H G' H' → AtP σ env H' x u → Q u H') (f env)
section
variable {K : PySem.W.Frag} {mg : Str → Option Value} {G G' H H' : Hp} {fp : Nat → List Addr} {σ : L2.St} {env : Env} {pv : Nat → V}
theorem RS.rd (h : RS K mg G σ env H fp pv) {i : Nat} {s : SV} (z : rd env i = some s) : ∃ v r, σ[i]? = some (some v) ∧ Ow K mg G H v s r := by
  unfold VL.rd at z
  cases q : env[i]? with
  | none => rw [q] at z; cases z
  | some u =>
    rw [q] at z
    cases u with
    | no => cases z
    | va u =>
      cases z
      obtain ⟨v, e1, o⟩ := h.rel i _ q
      exact ⟨v, _, e1, o⟩
    | rf u =>
      cases z
      obtain ⟨e1, o⟩ := h.rel i _ q
      exact ⟨_, _, e1, o⟩
    | vw u =>
      cases z
      obtain ⟨_, v, r, e1, o⟩ := h.rel i _ q
      exact ⟨v, r, e1, o⟩
theorem rd_tree {e : Env} {i : Nat} {kd : Kind} {s : SV} (h : tree e i = some (kd, s)) : rd e i = some s := by
  unfold tree at h
  unfold rd
  cases q : e[i]? with
  | none => rw [q] at h; cases h
  | some u =>
    rw [q] at h
    cases u <;> first | (cases h; rfl) | cases h
theorem AtP.ow {x : Plc} {u : V} (rs : RS K mg G σ env H fp pv) (a : AtP σ env H x u) : ∃ r, Ow K mg G H u x.2.2 r := by
  obtain ⟨s, v, h1, h2, h3, h4⟩ := a
  obtain ⟨v', r, e1, o⟩ := rs.rd h1
  rw [h3] at e1
  cases e1
  obtain ⟨u', r1, e2, o2, _⟩ := o.see h2
  rw [h4] at e2
  cases e2
  exact ⟨r1, o2⟩
theorem AtP.same {x : Plc} {u : V} (e : Same H H') (a : AtP σ env H x u) : AtP σ env H' x u := by
  obtain ⟨s, v, h1, h2, h3, h4⟩ := a
  exact ⟨s, v, h1, h2, h3, reach_same e h4⟩
def plS (p : Pst) (x : Plc) : Res Plc := match stepS x.2.2 p with
  | some t => .ok (x.1, x.2.1 ++ [p], t)
  | none => .bad
theorem AtP.step {x : Plc} {u w : V} {p : Pst} {t : SV} (a : AtP σ env H x u) (h : stepS x.2.2 p = some t) (hv : stepV H u p = some w) : AtP σ env H (x.1, x.2.1 ++ [p], t) w := by
  obtain ⟨s, v, h1, h2, h3, h4⟩ := a
  refine ⟨s, v, h1, ?_, h3, ?_⟩
  · show subS s (x.2.1 ++ [p]) = some t
    rw [subS_snoc, h2]
    exact h
  · show reach H v (x.2.1 ++ [p]) = some w
    rw [reach_snoc, h4]
    exact hv
end
def ldS : SV → Res PyData
  | .f (.d p) => .ok p
  | .own xs => match SV.leafs xs with | some ds => .ok (.list ds) | none => .bad
  | _ => .bad
def plN (i : Nat) : Env → Res Plc := fun env => match rd env i with
  | some s => .ok (i, [], s)
  | none => .bad
def plF (cn n : Str) (f : Env → Res Plc) : Env → Res Plc := fun env => (f env).bind (plS (.fld cn n))
def plX1 (x : Plc) : PyData → Res Plc
  | .int k => plS (.ix k) x
  | _ => .bad
def plX (f : Env → Res Plc) (g : FD) : Env → Res Plc := fun env => (f env).bind fun x => (g env).bind (plX1 x)
def plP1 (x : Plc) : Res FV := match x.2.2 with
  | .f y => .ok y
  | _ => .bad
def plP (f : Env → Res Plc) : FP := fun env => (f env).bind plP1
def plD (f : Env → Res Plc) : FD := fun env => (f env).bind fun x => ldS x.2.2
def plL1 (x : Plc) : Res FV := match x.2.2 with
  | .own xs => iI xs.length
  | _ => .bad
def plL (f : Env → Res Plc) : FP := fun env => (f env).bind plL1
section
variable {X : Cx} {W : WX} {a b c e o : Expr} {es : List Expr} {pos apos cpos : Pos} {st : Stmt} {sts : List Stmt}
abbrev VPl (X : Cx) (W : WX) (e : Expr) (f : Env → Res Plc) : Prop := PE X e (tPl X.K X.mg W f)
theorem vpl_name {i : Nat} (h : PE X e (tVar i)) : VPl X W e (plN i) := pe_imp h fun σ H Q ⟨G, env, fp, pv, rs, w⟩ => by
  unfold plN at w
  cases z : rd env i with
  | none => rw [z] at w; exact w.elim
  | some s =>
    rw [z] at w
    obtain ⟨v, r, e1, o⟩ := rs.rd z
    exact ⟨v, e1, w v G H (Ext.refl rs.sub) ⟨s, v, z, rfl, e1, rfl⟩⟩
theorem vpl_ix {f : Env → Res Plc} {g : FD} (ha : VPl X W a f) (hb : VD X W b g) (hs : PlainIx b) : VPl X W (.Subscript a b pos) (plX f g) :=
  pe_imp (pe_ix (IxR.or ix_list ix_tup) ha hb hs) fun σ H Q ⟨G, env, fp, pv, rs, w⟩ => ⟨G, env, fp, pv, rs, PostR.seq w fun x w u G1 H1 e1 at1 => by
    refine ⟨G1, env, fp, pv, rs.ext e1, PostR.imp (PostR.seq (k := fun y => PostR X.mg W σ H _ (plX1 x y)) w fun y w => w) e1.h fun y w v G2 H2 e2 q2 => ?_⟩
    have at2 := at1.same e2.h
    have ex := e1.trans e2
    cases y with
    | int k =>
      have w0 : PostR X.mg W σ H _ (plS (.ix k) x) := w
      unfold plS at w0
      cases z : stepS x.2.2 (.ix k) with
      | none => rw [z] at w0; exact w0.elim
      | some t =>
        rw [z] at w0
        obtain ⟨r, ow⟩ := at2.ow (rs.ext ex)
        obtain ⟨wv, r1, k1, k2, _⟩ := ow.see1 z
        have w' := w0 wv G2 H2 ex (at2.step z k1)
        have hv := q2.int
        subst hv
        generalize hx : x.2.2 = s at *
        cases s with
        | f _ => cases z
        | obj _ _ => cases z
        | own xs =>
          cases ow with
          | @own p vs _ _ hH of =>
            have k1' : (match H2 p with | some (.lst vs) => atI vs k | some (.tup vs) => atI vs k | _ => none) = some wv := k1
            rw [hH] at k1'
            exact .inl ⟨p, vs, k, wv, rfl, rfl, SqL.of hH, k1', w'⟩
        | otup xs =>
          cases ow with
          | @otup p vs _ _ hH of =>
            have k1' : (match H2 p with | some (.lst vs) => atI vs k | some (.tup vs) => atI vs k | _ => none) = some wv := k1
            rw [hH] at k1'
            exact .inr ⟨p, vs, k, wv, rfl, rfl, SqT.of hH, k1', w'⟩
    | none => exact w.elim
    | bool _ => exact w.elim
    | str _ => exact w.elim
    | list _ => exact w.elim
    | tuple _ => exact w.elim
    | dict _ => exact w.elim⟩
theorem vp_pl {f : Env → Res Plc} (h : VPl X W e f) : VP X W e (plP f) := pe_imp h fun σ H Q ⟨G, env, fp, pv, rs, w⟩ => ⟨G, env, fp, pv, rs, PostR.seq w fun x w u G1 H1 e1 at1 => by
  obtain ⟨r, ow⟩ := at1.ow (rs.ext e1)
  unfold plP1 at w
  generalize hx : x.2.2 = s at *
  cases s with
  | f y => cases ow with | f q => exact w u G1 H1 e1 q
  | own _ => exact w.elim
  | otup _ => exact w.elim
  | obj _ _ => exact w.elim⟩
theorem vp_plen {f : Env → Res Plc} {p : Pos} (hm : X.mg "len" = none) (ha : VPl X W e f) (hg : Gl X "len" := by rfl) (he : starEach [e] X.env = (false, eval e X.env) :: starEach [] X.env := by rfl) (hpl : (backTo pos (starEach [] X.env)).any (·.1) = false := by rfl) : VP X W (.Call (.Name "len" p) [e] [] pos) (plL f) :=
  pe_imp (pe_callB call_len_seq hg hm boot_len (pa_cons ha pa_nil he) (by decide) (by decide) he hpl) fun σ H Q ⟨G, env, fp, pv, rs, w⟩ => ⟨G, env, fp, pv, rs, PostR.seq w fun x w u G1 H1 e1 at1 => by
    obtain ⟨r, ow⟩ := at1.ow (rs.ext e1)
    unfold plL1 at w
    generalize hx : x.2.2 = s at *
    cases s with
    | own xs =>
      cases ow with
      | @own p vs _ _ hH of => exact ⟨_, vs, rfl, .inl (SqL.of hH), by rw [of.len]; exact jP.int e1.s (jP.ext e1 w)⟩
    | f _ => exact w.elim
    | otup _ => exact w.elim
    | obj _ _ => exact w.elim⟩
end

section
variable {K : PySem.W.Frag} {mg : Str → Option Value} {G H G0 H0 : Hp} {fp fp0 : Nat → List Addr} {σ : L2.St} {env : Env} {pv : Nat → V}
theorem RS.mut {i : Nat} {kd : Kind} {s : SV} {ps : List Pst} {xs : List SV} {v u : V} (rs : RS K mg G σ env H fp pv) (tr : VL.tree env i = some (kd, s)) (hs : subS s ps = some (.own xs)) (hv : σ[i]? = some (some v)) (hu : reach H v ps = some u) :
    ∃ a vs rr, u = .ref a ∧ H a = some (.lst vs) ∧ Ows K mg G H vs xs rr ∧ (a :: rr).Nodup ∧ (∀ b ∈ a :: rr, b ∈ fp i) ∧
      ∀ {vs' xs' rr'}, Ows K mg G (upd H a (.lst vs')) vs' xs' rr' → (a :: rr').Nodup → (∀ b ∈ rr', b ∈ rr ∨ ((∀ j, b ∉ fp j) ∧ G b = none ∧ (H0 b = none ∨ ∃ j, b ∈ fp0 j))) → Stp G0 H0 fp0 G H fp →
        ∃ fp', RS K mg G σ ((env.map dv).set i (kd.mk (updS s ps (.own xs')))) (upd H a (.lst vs')) fp' pv ∧ Stp G0 H0 fp0 G (upd H a (.lst vs')) fp' ∧ (∀ j, j ≠ i → fp' j = fp j) ∧ (∀ b ∈ fp' i, b = a ∨ b ∈ rr' ∨ (b ∈ fp i ∧ b ∉ a :: rr)) := by
  obtain ⟨hs1, v', hv', hp, ow⟩ := rs.tree tr
  rw [hv] at hv'
  cases hv'
  obtain ⟨u', r1, e1, o1, n1, s1, ex⟩ := ow.exch (rs.nd i) hs
  rw [hu] at e1
  cases e1
  cases o1 with
  | @own a vs _ rr hH of =>
    refine ⟨a, vs, rr, rfl, hH, of, n1, s1, fun {vs' xs' rr'} of' nd' nw st => ?_⟩
    have hai : a ∈ fp i := s1 a List.mem_cons_self
    have ne : ∀ b, b ≠ a → (upd H a (.lst vs')) b = H b := fun b hb => upd_ne hb
    obtain ⟨r', o', n', q'⟩ := ex (G' := G) (H' := upd H a (.lst vs')) (t' := .own xs') (r1' := a :: rr') ⟨Same.refl _, fun b _ nb => ne b fun q => nb (by rw [q]; exact List.mem_cons_self), .own upd_same of', nd', fun b m => by
      rcases List.mem_cons.mp m with rfl | m
      · exact .inl List.mem_cons_self
      · rcases nw b m with q | q
        · exact .inl (List.mem_cons_of_mem _ q)
        · exact .inr (q.1 i)⟩
    have hr' : ∀ b ∈ r', b = a ∨ b ∈ rr' ∨ (b ∈ fp i ∧ b ∉ a :: rr) := fun b m => by
      rcases q' b m with q | q
      · rcases List.mem_cons.mp q with q | q
        · exact .inl q
        · exact .inr (.inl q)
      · exact .inr (.inr q)
    have rs2 := rs.put (H' := upd H a (.lst vs')) (s' := updS s ps (.own xs')) (r := r') hs1 hv hp (fun b hb _ => ne b fun q => hb (by rw [q]; exact hai)) o' n' fun b hb => by
      have inI : b ∈ fp i → G b = none ∧ ∀ j, j ≠ i → b ∉ fp j := fun m => ⟨rs.out i b m, fun j hj m2 => hj (rs.dj j i b m2 m)⟩
      rcases hr' b hb with rfl | q | q
      · exact inI hai
      · rcases nw b q with q | q
        · exact inI (s1 b (List.mem_cons_of_mem _ q))
        · exact ⟨q.2.1, fun j _ => q.1 j⟩
      · exact inI q.1
    refine ⟨_, rs2, ⟨st.g, fun b o h q => ?_, st.n, fun j b m => ?_, fun b h => ?_, fun b C dx ws h => ?_⟩, fun j hj => if_neg hj, fun b m => hr' b (by have m' : b ∈ (if i = i then r' else fp i) := m; rw [if_pos rfl] at m'; exact m')⟩
    · have h1 := st.fr b o h q
      by_cases hb : b = a
      · subst hb
        rcases st.f i b hai with z | ⟨j, z⟩
        · rw [h] at z; cases z
        · exact absurd z (q j)
      · rw [ne b hb]; exact h1
    · have m' : b ∈ (if j = i then r' else fp j) := m
      by_cases hj : j = i
      · rw [if_pos hj] at m'
        rcases hr' b m' with rfl | q | q
        · exact st.f i _ hai
        · rcases nw b q with q | q
          · exact st.f i b (s1 b (List.mem_cons_of_mem _ q))
          · exact q.2.2
        · exact st.f i b q.1
      · rw [if_neg hj] at m'; exact st.f j b m'
    · by_cases hb : b = a
      · rw [hb, upd_same] at h; cases h
      · rw [ne b hb] at h; exact st.trk b h
    · obtain ⟨ws', h1, h2⟩ := st.fld b C dx ws h
      by_cases hb : b = a
      · rw [hb, hH] at h1; cases h1
      · exact ⟨ws', by rw [ne b hb]; exact h1, h2⟩
end

abbrev FE := Env → Out SV
def Out.bind {α β : Type} : Out α → (α → Env → Out β) → Out β
  | .ok a e, k => k a e
  | .err c, _ => .err c
  | .bad, _ => .bad
def oR {α β : Type} (r : Res α) (k : α → Out β) : Out β := match r with
  | .ok a => k a
  | .err c => .err c
  | .bad => .bad
def PostO {α : Type} (K : PySem.W.Frag) (mg : Str → Option Value) (W : WX) (σ : L2.St) (G H : Hp) (fp : Nat → List Addr) (pv : Nat → V) (k : α → Env → Hp → Hp → (Nat → List Addr) → Prop) : Out α → Prop
  | .ok a e => ∀ G' H' fp', Stp G H fp G' H' fp' → RS K mg G' σ e H' fp' pv → k a e G' H' fp'
  | .err c => ∀ C G' H', mg c = some (.ref C) → Stp G H fp G' H' (fun _ => []) → Same G' H' → W (.ref C) none σ H'
  | .bad => False
def Fresh (G' H : Hp) (fp fp' : Nat → List Addr) (r : List Addr) : Prop := ∀ a ∈ r, G' a = none ∧ (∀ i, a ∉ fp' i) ∧ (H a = none ∨ ∃ j, a ∈ fp j)
def kE (K : PySem.W.Frag) (mg : Str → Option Value) (Q : VK) (H : Hp) (fp : Nat → List Addr) : SV → Env → Hp → Hp → (Nat → List Addr) → Prop :=
  fun s _ G' H' fp' => ∀ v r, Ow K mg G' H' v s r → r.Nodup → Fresh G' H fp fp' r → Q v H'
def tE (K : PySem.W.Frag) (mg : Str → Option Value) (W : WX) (f : FE) : TE := fun σ H Q => ∃ G env fp pv, RS K mg G σ env H fp pv ∧ PostO K mg W σ G H fp pv (kE K mg Q H fp) (f env)
section
variable {K : PySem.W.Frag} {mg : Str → Option Value} {G H G' H' : Hp} {fp fp' : Nat → List Addr} {σ : L2.St} {env : Env} {pv : Nat → V} {W : WX}
theorem Stp.none (s : Stp G H fp G' H' fp') : Stp G H fp G' H' (fun _ => []) := s.sub fun _ _ m => by cases m
theorem PostO.step {α : Type} {k : α → Env → Hp → Hp → (Nat → List Addr) → Prop} {o : Out α} (s : Stp G H fp G' H' fp') (h : PostO K mg W σ G H fp pv k o) : PostO K mg W σ G' H' fp' pv k o := by
  cases o with
  | ok a e => exact fun G2 H2 fp2 s2 r => h G2 H2 fp2 (s.trans s2) r
  | err c => exact fun C G2 H2 m s2 q => h C G2 H2 m (s.trans s2) q
  | bad => exact h
theorem PostO.imp {α : Type} {k k' : α → Env → Hp → Hp → (Nat → List Addr) → Prop} {o : Out α} (h : PostO K mg W σ G H fp pv k o) (q : ∀ a e G' H' fp', k a e G' H' fp' → k' a e G' H' fp') : PostO K mg W σ G H fp pv k' o := by
  cases o with
  | ok a e => exact fun G2 H2 fp2 s2 r => q _ _ _ _ _ (h G2 H2 fp2 s2 r)
  | err c => exact h
  | bad => exact h
theorem PostO.seq {α β : Type} {k : β → Env → Hp → Hp → (Nat → List Addr) → Prop} {o : Out α} {g : α → Env → Out β} (h : PostO K mg W σ G H fp pv k (o.bind g)) :
    PostO K mg W σ G H fp pv (fun a e G' H' fp' => RS K mg G' σ e H' fp' pv ∧ Stp G H fp G' H' fp' ∧ PostO K mg W σ G' H' fp' pv k (g a e)) o := by
  cases o with
  | ok a e =>
    have h' : PostO K mg W σ G H fp pv k (g a e) := h
    exact fun G2 H2 fp2 s2 r => ⟨r, s2, h'.step s2⟩
  | err c => exact h
  | bad => exact h
theorem PostO.ofR {α β : Type} {k : β → Env → Hp → Hp → (Nat → List Addr) → Prop} {r : Res α} {g : α → Out β} {j : α → Prop} (rs : RS K mg G σ env H fp pv) (h : PostO K mg W σ G H fp pv k (oR r g)) (q : ∀ a, PostO K mg W σ G H fp pv k (g a) → j a) : PostR mg W σ H j r := by
  cases r with
  | ok a => exact q a h
  | err c => exact fun C H2 m s => h C G H2 m (Stp.of_ext (fp := fp) ⟨Same.refl _, s, rs.sub.trans s, fun _ _ e => .inl e⟩).none (rs.sub.trans s)
  | bad => exact h
theorem Fresh.step {G2 H2 G3 : Hp} {fp2 fp3 : Nat → List Addr} {r : List Addr} (s : Stp G H fp G2 H2 fp2) (h : Fresh G3 H2 fp2 fp3 r) : Fresh G3 H fp fp3 r := fun a m => by
  obtain ⟨a1, a2, a3⟩ := h a m
  refine ⟨a1, a2, ?_⟩
  rcases a3 with q | ⟨j, q⟩
  · exact .inl (s.trk a q)
  · exact s.f j a q
end
section
variable {X : Cx} {W : WX} {a b c e o : Expr} {es : List Expr} {pos apos cpos : Pos} {st : Stmt} {sts : List Stmt}
abbrev VE (X : Cx) (W : WX) (e : Expr) (f : FE) : Prop := PE X e (tE X.K X.mg W f)
def eO (f : FO) : FE := fun env => oR (f env) fun s => .ok s env
def keepF : Slot → Slot
  | .va (.f x) => .va (.f x)
  | _ => .no
theorem RS.keepF {K : PySem.W.Frag} {mg : Str → Option Value} {G H G' H' : Hp} {fp fp' : Nat → List Addr} {σ : L2.St} {env : Env} {pv : Nat → V} (h : RS K mg G σ env H fp pv) (st : Stp G H fp G' H' fp') (s : Same G' H') : RS K mg G' σ (env.map VL.keepF) H' (fun _ => []) pv where
  len := by rw [List.length_map]; exact h.len
  rel := fun i s e => by
    rw [List.getElem?_map] at e
    cases z : env[i]? with
    | none => rw [z] at e; cases e
    | some t =>
      rw [z] at e
      cases e
      have r := h.rel i t z
      cases t with
      | no => rfl
      | rf _ => rfl
      | vw _ => rfl
      | va t =>
        cases t with
        | f x =>
          obtain ⟨v, e1, o⟩ := r
          refine ⟨v, e1, ?_⟩
          generalize fp i = r at o
          cases o with | f q => exact .f (q.mono st.g)
        | own _ => rfl
        | otup _ => rfl
        | obj _ _ => rfl
  nil := fun _ _ => rfl
  sub := s
  out := fun _ _ m => by cases m
  nd := fun _ => .nil
  dj := fun _ _ _ m => by cases m
def ofO {α : Type} (o : Out α) (env : Env) (k : α → Env → Flow) : Flow := match o with
  | .ok a e => k a e
  | .err c => .err c (env.map keepF)
  | .bad => .bad
theorem Post.ofO {α : Type} {K : PySem.W.Frag} {mg : Str → Option Value} {G H : Hp} {fp : Nat → List Addr} {σ : L2.St} {env : Env} {pv : Nat → V} {W : WX} {D : Ends} {o : Out α} {g : α → Env → Flow} {k : α → Env → Hp → Hp → (Nat → List Addr) → Prop} (rs : RS K mg G σ env H fp pv) (h : Post K mg W D G H fp pv (VL.ofO o env g))
    (q : ∀ a e G' H' fp', RS K mg G' σ e H' fp' pv → Stp G H fp G' H' fp' → Post K mg W D G H fp pv (g a e) → k a e G' H' fp') : PostO K mg W σ G H fp pv k o := by
  cases o with
  | ok a e => exact fun G' H' fp' st r => q a e G' H' fp' r st h
  | err c => exact fun C G' H' m st s => h C G' σ H' (fun _ => []) m st (rs.keepF st s)
  | bad => exact h
def vEx (f : FE) : ST := fun env => ofO (f env) env fun _ e => .nx e
def vSetE (i : Nat) (f : FE) : ST := fun env => ofO (f env) env fun s e => setS e i (.va s)
def vRetE (f : FE) : ST := fun env => ofO (f env) env fun s e => .rt s e
theorem vs_ex {f : FE} (he : VE X W e f) (hs : swapsWith e none pos.line X.env = pure false := by rfl) : VS X W (.Expr e pos) (vEx f) := ps_imp (ps_expr he hs) fun D σ H ⟨G, env, fp, pv, rs, w⟩ => ⟨G, env, fp, pv, rs, Post.ofO rs w fun s e G1 H1 fp1 rs1 st w v r ow nd fr => w G1 σ H1 fp1 st rs1⟩
def putP (env : Env) (x : Plc) (ys : List SV) : Option Env := match tree env x.1 with
  | some (kd, t) => some ((env.map dv).set x.1 (kd.mk (updS t x.2.1 (.own ys))))
  | none => none
def oE (s : SV) : Option Env → Out SV
  | some e => .ok s e
  | none => .bad
noncomputable def vApp1 (env : Env) (x : Plc) (s : SV) : Out SV := match x.2.2 with
  | .own xs => cIf (xs.length < 16777216) (oE (.f (.d .none)) (putP env x (xs ++ [s]))) .bad
  | _ => .bad
def lstP (x : Plc) : Res Plc := match x.2.2 with
  | .own _ => .ok x
  | _ => .bad
noncomputable def vApp (f : Env → Res Plc) (g : FO) : FE := fun env => oR ((f env).bind lstP) fun x => oR (g env) fun s => vApp1 env x s
theorem oR_bind {α β γ : Type} (r : Res α) (k : α → Res β) (j : β → Out γ) : oR (r.bind k) j = oR r fun a => oR (k a) j := by cases r <;> rfl
theorem PostO.lst {β : Type} {K : PySem.W.Frag} {mg : Str → Option Value} {G H : Hp} {fp : Nat → List Addr} {σ : L2.St} {env : Env} {pv : Nat → V} {W : WX} {k : β → Env → Hp → Hp → (Nat → List Addr) → Prop} {r : Res Plc} {g : Plc → Out β} {j : Plc → Prop} (rs : RS K mg G σ env H fp pv) (h : PostO K mg W σ G H fp pv k (oR (r.bind lstP) g))
    (q : ∀ x xs, x.2.2 = .own xs → PostO K mg W σ G H fp pv k (g x) → j x) : PostR mg W σ H j r := by
  rw [oR_bind] at h
  refine PostO.ofR rs h fun x w => ?_
  unfold lstP at w
  cases z : x.2.2 with
  | own xs => rw [z] at w; exact q x xs z w
  | f _ => rw [z] at w; exact w.elim
  | otup _ => rw [z] at w; exact w.elim
  | obj _ _ => rw [z] at w; exact w.elim
theorem app_ok {G H G0 H0 : Hp} {fp fp0 : Nat → List Addr} {σ : L2.St} {env : Env} {pv : Nat → V} {x : Plc} {u v : V} {s : SV} {r : List Addr} {Q : VK} (rs : RS X.K X.mg G σ env H fp pv) (at1 : AtP σ env H x u) (st : Stp G0 H0 fp0 G H fp)
    (ow : Ow X.K X.mg G H v s r) (nd : r.Nodup) (fr : ∀ a ∈ r, G a = none ∧ (∀ i, a ∉ fp i) ∧ (H0 a = none ∨ ∃ j, a ∈ fp0 j))
    (w : PostO X.K X.mg W σ G0 H0 fp0 pv (kE X.K X.mg Q H0 fp0) (vApp1 env x s)) : rAppend u [v] H Q := by
  obtain ⟨t, v0, h1, h2, h3, h4⟩ := at1
  obtain ⟨i, ps, tx⟩ := x
  dsimp only at h1 h2 h3 h4
  unfold vApp1 at w
  cases tx with
  | own xs =>
    dsimp only at w
    by_cases hl : xs.length < 16777216
    · rw [cIf_pos hl] at w
      unfold putP at w
      cases z : tree env i with
      | none => rw [z] at w; exact w.elim
      | some kt =>
        obtain ⟨kd, t'⟩ := kt
        have e := rd_tree z
        rw [h1] at e
        cases e
        rw [z] at w
        obtain ⟨a, vs, rr, eu, hH, of, n1, s1, mk⟩ := rs.mut (H0 := H0) (fp0 := fp0) (G0 := G0) z h2 h3 h4
        have ndr := List.nodup_cons.mp n1
        have ar : a ∉ r := fun m => (fr a m).2.1 i (s1 a List.mem_cons_self)
        have of2 : Ows X.K X.mg G (upd H a (.lst (vs ++ [v]))) (vs ++ [v]) (xs ++ [s]) (rr ++ (r ++ [])) :=
          (of.mono (Same.refl _) fun b m => upd_ne fun q => ndr.1 (by rw [← q]; exact m)).append (.cons (ow.mono (Same.refl _) fun b m => upd_ne fun q => ar (by rw [← q]; exact m)) .nil)
        rw [List.append_nil] at of2
        obtain ⟨fp', rs', st', _, _⟩ := mk of2 (List.nodup_cons.mpr ⟨fun m => by
          rcases List.mem_append.mp m with m | m
          · exact ndr.1 m
          · exact ar m, List.nodup_append.mpr ⟨ndr.2, nd, fun b m1 b' m2 q => by
          subst q
          exact (fr b m2).2.1 i (s1 b (List.mem_cons_of_mem _ m1))⟩⟩) (fun b m => by
          rcases List.mem_append.mp m with m | m
          · exact .inl m
          · exact .inr ⟨(fr b m).2.1, (fr b m).1, (fr b m).2.2⟩) st
        refine ⟨a, vs, v, eu, rfl, hH, by rw [of.len, sl_eq]; exact hl, ?_⟩
        exact w G _ fp' st' rs' .non [] (.f (.d .non)) .nil fun b m => by cases m
    · rw [cIf_neg hl] at w; exact w.elim
  | f _ => exact w.elim
  | otup _ => exact w.elim
  | obj _ _ => exact w.elim
theorem at_list {G H : Hp} {fp : Nat → List Addr} {σ : L2.St} {env : Env} {pv : Nat → V} {x : Plc} {u : V} {xs : List SV} (rs : RS X.K X.mg G σ env H fp pv) (at1 : AtP σ env H x u) (e : x.2.2 = .own xs) : tyV X.K "list" u H := by
  obtain ⟨r, ow⟩ := at1.ow rs
  rw [e] at ow
  cases ow with
  | @own p vs _ _ hH of => exact .inl ⟨rfl, vs, SqL.of hH⟩
theorem ve_app {f : Env → Res Plc} {g : FO} (ho : VPl X W o f) (he : VO X W e g) (hbase : attributeBase o "append" X.env (eval o X.env) = eval o X.env := by rfl)
    (hfew : ((backTo cpos (starEach [e] X.env)).all (fun x => !x.1) && (backToKw cpos (keywordEach [] X.env)).all (fun x => x.1.isSome) && decide (([e] : List Expr).length + ([] : List Keyword).length + (if ([] : List Keyword).isEmpty then 0 else 1) < 30)) = true := by rfl)
    (hline : (apos.endLine == cpos.line) = true := by rfl) (hs : starEach [e] X.env = (false, eval e X.env) :: starEach [] X.env := by rfl) (hpl : (backTo cpos (starEach [] X.env)).any (·.1) = false := by rfl) :
    VE X W (.Call (.Attribute o "append" apos) [e] [] cpos) (vApp f g) :=
  pe_imp (pe_bm PySem.F.plainAttrs_list PySem.F.slot_list_append PySem.F.type_list_append mt_append ho (pa_cons he pa_nil hs) hbase hfew hline hs hpl) fun σ H Q ⟨G, env, fp, pv, rs, w⟩ => ⟨G, env, fp, pv, rs, PostO.lst rs w fun x xs hx w u G1 H1 e1 at1 => by
    have rs1 := rs.ext e1
    have w1 := w.step (Stp.of_ext (fp := fp) e1)
    refine ⟨at_list rs1 at1 hx, G1, env, fp, pv, rs1, PostO.ofR rs1 w1 fun s w2 v G2 H2 r e2 ow nd fr => ?_⟩
    exact app_ok (rs1.ext e2) (at1.same e2.h) (Stp.of_ext (fp := fp) e2) ow nd (fun a m => ⟨(fr a m).2, rs1.notin (fr a m).1, .inl (fr a m).1⟩) (PostO.imp w2 fun s e G' H' fp' k v r ow nd fr => k v r ow nd (Fresh.step (Stp.of_ext (fp := fp) e1) fr))⟩
end
end VL

set_option Elab.async false
set_option linter.all false
set_option maxRecDepth 100000
set_option maxHeartbeats 4000000
namespace VL
open PySem PySem.Spec PyProof.Rows L2

section
variable {X : Cx} {W : WX} {a b c e o : Expr} {es : List Expr} {pos apos cpos : Pos} {st : Stmt} {sts : List Stmt}
def fldsOnly (ps : List Pst) : Bool := ps.all fun p => match p with
  | .fld _ n => decide (n ≠ "chance")
  | .ix _ => false
def reP (e : Env) (x : Plc) : Option Plc := match rd e x.1 with
  | some t => match subS t x.2.1 with
    | some (.own xs) => some (x.1, x.2.1, .own xs)
    | _ => none
  | none => none
noncomputable def vAppE1 (x : Plc) (s : SV) (e : Env) : Out SV := match reP e x with
  | some x' => vApp1 e x' s
  | none => .bad
noncomputable def vAppE (f : Env → Res Plc) (g : FE) : FE := fun env => oR ((f env).bind lstP) fun x => if fldsOnly x.2.1 = true then (g env).bind (vAppE1 x) else .bad
def pop1 (env : Env) (x : Plc) : Out SV := match x.2.2 with
  | .own (y :: ys) => oE y (putP env x ys)
  | _ => .bad
def vPop0 (f : Env → Res Plc) : FE := fun env => oR ((f env).bind lstP) (pop1 env)
theorem pop_core {G H : Hp} {fp : Nat → List Addr} {σ : L2.St} {env : Env} {pv : Nat → V} {x : Plc} {u : V} {xs : List SV} {y : SV} {j : Nat} {Q : VK} (rs : RS X.K X.mg G σ env H fp pv) (at1 : AtP σ env H x u) (hx : x.2.2 = .own xs) (hj : xs[j]? = some y)
    (w : PostO X.K X.mg W σ G H fp pv (kE X.K X.mg Q H fp) (oE y (putP env x (xs.eraseIdx j)))) : ∃ a vs v, u = .ref a ∧ H a = some (.lst vs) ∧ vs.length = xs.length ∧ vs[j]? = some v ∧ Q v (upd H a (.lst (vs.eraseIdx j))) := by
  obtain ⟨t, v0, h1, h2, h3, h4⟩ := at1
  obtain ⟨i, ps, tx⟩ := x
  dsimp only at h1 h2 h3 h4 hx
  subst hx
  unfold putP at w
  cases z : VL.tree env i with
  | none => rw [z] at w; exact w.elim
  | some kt =>
    obtain ⟨kd, t'⟩ := kt
    have e := rd_tree z
    rw [h1] at e
    cases e
    rw [z] at w
    obtain ⟨a, vs, rr, eu, hH, of, n1, s1, mk⟩ := rs.mut (H0 := H) (fp0 := fp) (G0 := G) z h2 h3 h4
    have ndr := List.nodup_cons.mp n1
    obtain ⟨v, r1, r2, k1, k2, k3, k4, k5⟩ := of.take1 ndr.2 hj
    have n4 := List.nodup_append.mp k4
    have up : ∀ b ∈ r1 ++ r2, (upd H a (.lst (vs.eraseIdx j))) b = H b := fun b m => upd_ne fun q => ndr.1 (by rw [← q]; exact k5 b m)
    obtain ⟨fp', rs', st', q1, q2⟩ := mk (vs' := vs.eraseIdx j) (xs' := xs.eraseIdx j) (k3.mono (Same.refl _) fun b m => up b (List.mem_append_right _ m)) (List.nodup_cons.mpr ⟨fun m => ndr.1 (k5 a (List.mem_append_right _ m)), n4.2.1⟩) (fun b m => .inl (k5 b (List.mem_append_right _ m))) (Stp.refl rs.sub)
    refine ⟨a, vs, v, eu, hH, of.len, k1, ?_⟩
    refine w G _ fp' st' rs' v r1 (k2.mono (Same.refl _) fun b m => up b (List.mem_append_left _ m)) n4.1 fun b m => ?_
    have bi : b ∈ fp i := s1 b (List.mem_cons_of_mem _ (k5 b (List.mem_append_left _ m)))
    refine ⟨rs.out i b bi, fun l ml => ?_, .inr ⟨i, bi⟩⟩
    by_cases hl : l = i
    · subst hl
      rcases q2 b ml with q | q | q
      · exact ndr.1 (by rw [← q]; exact k5 b (List.mem_append_left _ m))
      · exact n4.2.2 b m b q rfl
      · exact q.2 (List.mem_cons_of_mem _ (k5 b (List.mem_append_left _ m)))
    · rw [q1 l hl] at ml
      exact hl (rs.dj l i b ml bi)
def popL (env : Env) (x : Plc) : Out SV := match x.2.2 with
  | .own xs => match xs[xs.length - 1]? with
    | some y => oE y (putP env x (xs.eraseIdx (xs.length - 1)))
    | none => .bad
  | _ => .bad
def vPopL (f : Env → Res Plc) : FE := fun env => oR ((f env).bind lstP) (popL env)
theorem ve_popL {f : Env → Res Plc} (ho : VPl X W o f) (hbase : attributeBase o "pop" X.env (eval o X.env) = eval o X.env := by rfl)
    (hline : (apos.endLine == cpos.line) = true := by rfl) : VE X W (.Call (.Attribute o "pop" apos) [] [] cpos) (vPopL f) :=
  pe_imp (pe_bm0 PySem.F.plainAttrs_list PySem.F.slot_list_pop PySem.F.type_list_pop mt_pop ho hbase hline) fun σ H Q ⟨G, env, fp, pv, rs, w⟩ => ⟨G, env, fp, pv, rs, PostO.lst rs w fun x xs hx w u G1 H1 e1 at1 => by
    have rs1 := rs.ext e1
    have w1 := w.step (Stp.of_ext (fp := fp) e1)
    refine ⟨at_list rs1 at1 hx, ?_⟩
    unfold popL at w1
    rw [hx] at w1
    dsimp only at w1
    cases hy : xs[xs.length - 1]? with
    | none => rw [hy] at w1; exact w1.elim
    | some y =>
      rw [hy] at w1
      have w2 : PostO X.K X.mg W σ G1 H1 fp pv (kE X.K X.mg Q H1 fp) (oE y (putP env x (xs.eraseIdx (xs.length - 1)))) := PostO.imp w1 fun s e G' H' fp' k v r ow nd fr => k v r ow nd (Fresh.step (Stp.of_ext (fp := fp) e1) fr)
      obtain ⟨a, vs, v, eu, hH, hl, hv, q⟩ := pop_core (j := xs.length - 1) rs1 at1 hx hy w2
      refine ⟨a, vs, v, eu, rfl, hH, by rw [hl]; exact hv, ?_⟩
      rw [← hl, List.eraseIdx_length_sub_one] at q
      exact q⟩

noncomputable def ins1 (env : Env) (x : Plc) (y : FV) : PyData → Out SV
  | .int k => match x.2.2 with
    | .own xs => cIf (0 ≤ k ∧ k < 9223372036854775808 ∧ xs.length < 16777216) (oE (.f (.d .none)) (putP env x (xs.take k.toNat ++ [.f y] ++ xs.drop k.toNat))) .bad
    | _ => .bad
  | _ => .bad
noncomputable def vIns (f : Env → Res Plc) (g : FD) (h : FP) : FE := fun env => oR ((f env).bind lstP) fun x => oR (g env) fun k => oR (h env) fun y => ins1 env x y k
def setI1 (env : Env) (x : Plc) (s : SV) : PyData → Flow
  | .int k => match x.2.2 with
    | .own xs => match ixN xs.length k with
      | some j => match putP env x (xs.set j s) with
        | some e => .nx e
        | none => .bad
      | none => .bad
    | _ => .bad
  | _ => .bad
def vSetI (f : Env → Res Plc) (g : FD) (h : FO) : ST := fun env => ofR (h env) env fun s => ofR ((f env).bind lstP) env fun x => ofR (g env) env fun k => setI1 env x s k
theorem Post.ofLst {K : PySem.W.Frag} {mg : Str → Option Value} {G H : Hp} {fp : Nat → List Addr} {σ : L2.St} {env : Env} {pv : Nat → V} {W : WX} {D : Ends} {r : Res Plc} {g : Plc → Flow} {j : Plc → Prop} (rs : RS K mg G σ env H fp pv) (h : Post K mg W D G H fp pv (VL.ofR (r.bind lstP) env g))
    (q : ∀ x xs, x.2.2 = .own xs → Post K mg W D G H fp pv (g x) → j x) : PostR mg W σ H j r := by
  cases r with
  | ok x =>
    have h' : Post K mg W D G H fp pv (VL.ofR (lstP x) env g) := h
    unfold lstP at h'
    cases z : x.2.2 with
    | own xs => rw [z] at h'; exact q x xs z h'
    | f _ => rw [z] at h'; exact h'.elim
    | otup _ => rw [z] at h'; exact h'.elim
    | obj _ _ => rw [z] at h'; exact h'.elim
  | err c => exact fun C H2 m s => h C G σ H2 fp m (Stp.of_ext ⟨Same.refl _, s, rs.sub.trans s, fun _ _ e => .inl e⟩) (rs.same s)
  | bad => exact h
theorem vs_setI {f : Env → Res Plc} {g : FD} {h : FO} {i : Expr} {p : Pos} (ho : VPl X W o f) (hi : VD X W i g) (he : VO X W e h)
    (ha : ∀ v, assign (.Subscript o i p) X.env v = (do
      let ov ← holding [v] (eval o X.env)
      let iv ← holding [v, ov] (eval i X.env)
      standAt p
      holding [v, ov, iv] (setItem ov iv v)
      release [v, ov, iv] []) := by intro _; rfl)
    (hs : swapsWithSole [.Subscript o i p] e pos.line X.env = pure false) (hw : swappedStores [.Subscript o i p] e X.env = pure none) (h1 : (assignEach [.Subscript o i p] X.env).map (·.2) = [assign (.Subscript o i p) X.env]) : VS X W (.Assign [.Subscript o i p] e pos) (vSetI f g h) :=
  ps_imp (ps_asg he (pg_sub ho hi set_list ha) hs hw h1) fun D σ H ⟨G, env, fp, pv, rs, w⟩ => ⟨G, env, fp, pv, rs, Post.ofR rs w fun s w v G1 H1 r e1 ow nd fr => by
    have rs1 := rs.ext e1
    refine ⟨G1, env, fp, pv, rs1, PostR.imp (Post.ofLst (j := fun x => ∃ xs, x.2.2 = .own xs ∧ Post X.K X.mg W D G H fp pv (VL.ofR (g env) env fun k => setI1 env x s k)) rs w fun x xs hx w => ⟨xs, hx, w⟩) e1.h fun x ⟨xs, hx, w⟩ u G2 H2 e2 at2 => ?_⟩
    have rs2 := rs1.ext e2
    refine ⟨G2, env, fp, pv, rs2, PostR.imp (Post.ofR (j := fun k => Post X.K X.mg W D G H fp pv (setI1 env x s k)) rs w fun k w => w) (e1.trans e2).h fun k w5 kv G3 H3 e3 q3 => ?_⟩
    have rs3 := rs2.ext e3
    have at3 := at2.same e3.h
    have e23 := e2.trans e3
    have ow3 : Ow X.K X.mg G3 H3 v s r := ow.same e23.g e23.h
    have fr3 : ∀ a ∈ r, G3 a = none ∧ ∀ j, a ∉ fp j := fun a m => by
      refine ⟨?_, rs.notin (fr a m).1⟩
      cases q : G3 a with
      | none => rfl
      | some ob =>
        rcases e23.n a ob q with z | z
        · rw [(fr a m).2] at z; cases z
        · obtain ⟨ob2, z2⟩ := ow.there a m
          rw [z2] at z; cases z
    unfold setI1 at w5
    cases k with
    | int k =>
      dsimp only at w5
      rw [hx] at w5
      dsimp only at w5
      have ek := q3.int
      subst ek
      cases hj : ixN xs.length k with
      | none => rw [hj] at w5; exact w5.elim
      | some j =>
        rw [hj] at w5
        dsimp only at w5
        obtain ⟨t, v0, h1, h2, h3, h4⟩ := at3
        obtain ⟨i, ps, tx⟩ := x
        dsimp only at h1 h2 h3 h4 hx
        subst hx
        unfold putP at w5
        cases z : VL.tree env i with
        | none => rw [z] at w5; exact w5.elim
        | some kt =>
          obtain ⟨kd, t'⟩ := kt
          have e := rd_tree z
          rw [h1] at e
          cases e
          rw [z] at w5
          obtain ⟨a, vs, rr, eu, hH, of, n1, s1, mk⟩ := rs3.mut (H0 := H) (fp0 := fp) (G0 := G) z h2 h3 h4
          have ndr := List.nodup_cons.mp n1
          have jl : j < xs.length := (ixN_seq hj).2.1
          obtain ⟨w0, r1, k1, k2, k3, k4, k5⟩ := of.exch ndr.2 (List.getElem?_eq_getElem jl)
          have ar : a ∉ r := fun m => (fr3 a m).2 i (s1 a List.mem_cons_self)
          obtain ⟨r', o', n', q'⟩ := k5 (w' := v) (G' := G3) (H' := upd H3 a (.lst (vs.set j v))) (s' := s) (r1' := r) ⟨Same.refl _, fun b m _ => upd_ne fun q => ndr.1 (by rw [← q]; exact m), ow3.mono (Same.refl _) fun b m => upd_ne fun q => ar (by rw [← q]; exact m), nd, fun b m => .inr fun m2 => (fr3 b m).2 i (s1 b (List.mem_cons_of_mem _ m2))⟩
          have sub' : ∀ b ∈ r', b ∈ rr ∨ b ∈ r := fun b m => by
            rcases q' b m with q | q
            · exact .inr q
            · exact .inl q.1
          obtain ⟨fp', rs', st', _, _⟩ := mk o' (List.nodup_cons.mpr ⟨fun m => by
            rcases sub' a m with q | q
            · exact ndr.1 q
            · exact ar q, n'⟩) (fun b m => by
            rcases sub' b m with q | q
            · exact .inl q
            · exact .inr ⟨(fr3 b q).2, (fr3 b q).1, .inl (fr b q).1⟩) (Stp.of_ext (fp := fp) (e1.trans e23))
          refine ⟨a, vs, k, j, eu, rfl, hH, by rw [of.len]; exact hj, ?_⟩
          exact w5 G3 σ _ fp' st' rs'
    | none => exact w5.elim
    | bool _ => exact w5.elim
    | str _ => exact w5.elim
    | list _ => exact w5.elim
    | tuple _ => exact w5.elim
    | dict _ => exact w5.elim⟩
end
end VL

set_option Elab.async false
set_option linter.all false
set_option maxRecDepth 100000
set_option maxHeartbeats 4000000
namespace VL
open PySem PySem.Spec PyProof.Rows L2

inductive AV where
  | fz (x : FV)
  | ref (i : Nat)
  | see (i : Nat)
def avOk (K : PySem.W.Frag) (mg : Str → Option Value) (G : Hp) (σ : L2.St) (v : V) : AV → Prop
  | .fz x => Fq K mg G v x
  | .ref i => σ[i]? = some (some v)
  | .see i => σ[i]? = some (some v)
inductive AVs (K : PySem.W.Frag) (mg : Str → Option Value) (G : Hp) (σ : L2.St) : List V → List AV → Prop
  | nil : AVs K mg G σ [] []
  | cons {v : V} {vs : List V} {x : AV} {xs : List AV} : avOk K mg G σ v x → AVs K mg G σ vs xs → AVs K mg G σ (v :: vs) (x :: xs)
def slot1 (e : Env) : AV → Option Slot
  | .fz x => some (.va (.f x))
  | .ref i => (tree e i).map fun k => .rf k.2
  | .see i => (rd e i).map .vw
def slotsOf (e : Env) : List AV → Option (List Slot)
  | [] => some []
  | x :: xs => match slot1 e x, slotsOf e xs with
    | some s, some r => some (s :: r)
    | _, _ => none
def refsOf : List AV → List Nat
  | [] => []
  | .ref i :: r => i :: refsOf r
  | _ :: r => refsOf r
section
variable {K : PySem.W.Frag} {mg : Str → Option Value} {G H G' H' : Hp} {fp fp' : Nat → List Addr} {σ : L2.St} {env : Env} {pv : Nat → V}
theorem AVs.mono {vs : List V} {xs : List AV} (g : Same G G') (h : AVs K mg G σ vs xs) : AVs K mg G' σ vs xs := by
  induction h with
  | nil => exact .nil
  | @cons v vs x xs h t ih =>
    refine .cons ?_ ih
    cases x with
    | fz x => exact Fq.mono g h
    | ref i => exact h
    | see i => exact h
theorem AVs.length {vs : List V} {xs : List AV} (h : AVs K mg G σ vs xs) : vs.length = xs.length := by
  induction h with
  | nil => rfl
  | cons _ _ ih => simp [ih]
theorem AVs.get : ∀ {vs : List V} {xs : List AV} {i : Nat} {x : AV}, AVs K mg G σ vs xs → xs[i]? = some x → ∃ v, vs[i]? = some v ∧ avOk K mg G σ v x
  | _, _, _, _, .nil, e => by simp at e
  | _, _, 0, _, .cons h t, e => by simp at e; subst e; exact ⟨_, rfl, h⟩
  | _, _, i + 1, x, .cons h t, e => by simpa using AVs.get (i := i) t (by simpa using e)
theorem slotsOf_get {e : Env} : ∀ {xs : List AV} {sl : List Slot}, slotsOf e xs = some sl → sl.length = xs.length ∧ ∀ (j : Nat) (s : Slot), sl[j]? = some s → ∃ x, xs[j]? = some x ∧ slot1 e x = some s
  | [], sl, h => by
    cases (show some [] = some sl from h)
    exact ⟨rfl, fun j s e => by simp at e⟩
  | x :: xs, sl, h => by
    unfold slotsOf at h
    split at h
    · rename_i s r h1 h2
      cases h
      obtain ⟨l, k⟩ := slotsOf_get h2
      refine ⟨by simp [l], fun j t e => ?_⟩
      cases j with
      | zero =>
        simp at e
        subst e
        exact ⟨x, rfl, h1⟩
      | succ j => simpa using k j t (by simpa using e)
    · cases h
theorem refs_at : ∀ {xs : List AV} {i j k : Nat}, (refsOf xs).Nodup → xs[j]? = some (.ref i) → xs[k]? = some (.ref i) → j = k
  | [], _, _, _, _, h, _ => by simp at h
  | .ref m :: r, i, j, k, nd, h1, h2 => by
    have nd' := List.nodup_cons.mp (show (m :: refsOf r).Nodup from nd)
    have inR : ∀ {r : List AV} {l : Nat}, r[l]? = some (.ref i) → i ∈ refsOf r := by
      intro r
      induction r with
      | nil => intro l h; simp at h
      | cons x r ih =>
        intro l h
        cases l with
        | zero =>
          have e : x = .ref i := by simpa using h
          subst e
          exact List.mem_cons_self
        | succ l =>
          have q := ih (l := l) (by simpa using h)
          cases x with
          | ref _ => exact List.mem_cons_of_mem _ q
          | fz _ => exact q
          | see _ => exact q
    cases j with
    | zero =>
      have e : m = i := by simpa using h1
      cases k with
      | zero => rfl
      | succ k => exact absurd (inR (l := k) (by simpa using h2)) (by rw [← e]; exact nd'.1)
    | succ j =>
      cases k with
      | zero =>
        have e : m = i := by simpa using h2
        exact absurd (inR (l := j) (by simpa using h1)) (by rw [← e]; exact nd'.1)
      | succ k => exact congrArg (· + 1) (refs_at nd'.2 (by simpa using h1) (by simpa using h2))
  | .fz _ :: r, i, j, k, nd, h1, h2 => by
    cases j with
    | zero => simp at h1
    | succ j =>
      cases k with
      | zero => simp at h2
      | succ k => exact congrArg (· + 1) (refs_at (xs := r) nd (by simpa using h1) (by simpa using h2))
  | .see _ :: r, i, j, k, nd, h1, h2 => by
    cases j with
    | zero => simp at h1
    | succ j =>
      cases k with
      | zero => simp at h2
      | succ k => exact congrArg (· + 1) (refs_at (xs := r) nd (by simpa using h1) (by simpa using h2))
def fpC (xs : List AV) (fp : Nat → List Addr) : Nat → List Addr := fun j => match xs[j]? with
  | some (.ref i) => fp i
  | _ => []
theorem fpC_mem {xs : List AV} {j : Nat} {a : Addr} (m : a ∈ fpC xs fp j) : ∃ i, xs[j]? = some (.ref i) ∧ a ∈ fp i := by
  unfold fpC at m
  cases z : xs[j]? with
  | none => rw [z] at m; cases m
  | some x =>
    rw [z] at m
    cases x with
    | ref i => exact ⟨i, rfl, m⟩
    | fz _ => cases m
    | see _ => cases m
theorem fpC_ref {xs : List AV} {i j : Nat} (h : xs[j]? = some (.ref i)) : fpC xs fp j = fp i := by
  unfold fpC; rw [h]
theorem RS.call {vs : List V} {xs : List AV} {sl : List Slot} (rs : RS K mg G σ env H fp pv) (av : AVs K mg G σ vs xs) (hs : slotsOf env xs = some sl) (nd : (refsOf xs).Nodup) : RS K mg G (vs.map some) sl H (fpC xs fp) (fun j => vs.getD j .non) where
  len := by rw [List.length_map, av.length]; exact (slotsOf_get hs).1
  rel := fun j s e => by
    obtain ⟨x, hx, h1⟩ := (slotsOf_get hs).2 j s e
    obtain ⟨v, hv, ok⟩ := av.get hx
    have hσ : (vs.map some)[j]? = some (some v) := by rw [List.getElem?_map, hv]; rfl
    cases x with
    | fz x =>
      cases h1
      have z : fpC xs fp j = [] := by unfold fpC; rw [hx]
      exact ⟨v, hσ, by rw [z]; exact .f ok⟩
    | ref i =>
      rw [fpC_ref hx]
      have h1' : (VL.tree env i).map (fun k => Slot.rf k.2) = some s := h1
      cases zt : VL.tree env i with
      | none => rw [zt] at h1'; cases h1'
      | some kt =>
        rw [zt] at h1'
        cases h1'
        obtain ⟨_, u, hu, _, ow⟩ := rs.tree zt
        have hok : σ[i]? = some (some v) := ok
        rw [hu] at hok
        cases hok
        have e1 : vs.getD j .non = v := by rw [List.getD_eq_getElem?_getD, hv]; rfl
        exact ⟨by rw [e1]; exact hσ, by rw [e1]; exact ow⟩
    | see i =>
      have z : fpC xs fp j = [] := by unfold fpC; rw [hx]
      have h1' : (VL.rd env i).map Slot.vw = some s := h1
      cases zt : VL.rd env i with
      | none => rw [zt] at h1'; cases h1'
      | some t =>
        rw [zt] at h1'
        cases h1'
        obtain ⟨u, r, hu, ow⟩ := rs.rd zt
        have hok : σ[i]? = some (some v) := ok
        rw [hu] at hok
        cases hok
        exact ⟨z, _, r, hσ, ow⟩
  nil := fun j hj => by
    unfold fpC
    rw [List.getElem?_eq_none (by rw [← (slotsOf_get hs).1]; exact hj)]
  sub := rs.sub
  out := fun j a m => by
    obtain ⟨i, _, m⟩ := fpC_mem m
    exact rs.out i a m
  nd := fun j => by
    unfold fpC
    cases xs[j]? with
    | none => exact .nil
    | some x =>
      cases x with
      | ref i => exact rs.nd i
      | fz _ => exact .nil
      | see _ => exact .nil
  dj := fun j k a m1 m2 => by
    obtain ⟨i1, h1, m1⟩ := fpC_mem m1
    obtain ⟨i2, h2, m2⟩ := fpC_mem m2
    have e := rs.dj i1 i2 a m1 m2
    subst e
    exact refs_at nd h1 h2
end
end VL

set_option Elab.async false
set_option linter.all false
set_option maxRecDepth 100000
set_option maxHeartbeats 4000000
namespace VL
open PySem PySem.Spec PyProof.Rows L2

section
variable {X : Cx} {W : WX} {a b c e o : Expr} {es : List Expr} {pos apos cpos : Pos} {st : Stmt} {sts : List Stmt}
def pN : Env → Res (List AV) := fun _ => .ok []
def pF (f : FP) (g : Env → Res (List AV)) : Env → Res (List AV) := fun env => (f env).bind fun x => (g env).bind fun xs => .ok (.fz x :: xs)
def xP (f : Env → Res (List AV)) : Env → Out (List AV) := fun env => oR (f env) fun xs => .ok xs env
def xF (f : FP) (g : Env → Out (List AV)) : Env → Out (List AV) := fun env => oR (f env) fun x => (g env).bind fun xs e => .ok (.fz x :: xs) e
def xE1 (g : Env → Out (List AV)) (s : SV) (e : Env) : Out (List AV) := match s with
  | .f x => (g e).bind fun xs e => .ok (.fz x :: xs) e
  | _ => .bad
def xE (f : FE) (g : Env → Out (List AV)) : Env → Out (List AV) := fun env => (f env).bind (xE1 g)
end
end VL

set_option Elab.async false
set_option linter.all false
set_option maxRecDepth 100000
set_option maxHeartbeats 4000000
namespace VL
open PySem PySem.Spec PyProof.Rows L2

def subE (c d : Str) : Bool := decide (c = d) || decide (d = "VeilError")
section
variable {X : Cx} {W : WX} {a b c e o : Expr} {es : List Expr} {pos apos cpos : Pos} {st : Stmt} {sts : List Stmt}
variable {x : Addr} {i : Nat}
noncomputable def catL : PyData → PyData → Res SV
  | .list xs, .list ys => cIf (xs.length + ys.length ≤ 16777216) (.ok (SV.dl (xs ++ ys))) .bad
  | _, _ => .bad
end
end VL

set_option Elab.async false
set_option linter.all false
set_option maxRecDepth 100000
set_option maxHeartbeats 4000000
namespace VL
open PySem PySem.Spec PyProof.Rows L2

def frzE (env : Env) (i : Nat) (ps : List Pst) : Option Env := match tree env i with
  | some (kd, s) => match subS s ps with
    | some t => match t.frz? with
      | some x => some (env.set i (kd.mk (updS s ps (.f x))))
      | none => none
    | none => none
  | none => none
section
variable {K : PySem.W.Frag} {mg : Str → Option Value} {G G' H H' : Hp} {fp fp' : Nat → List Addr} {σ : L2.St} {env e : Env} {pv : Nat → V}
theorem RS.grow {r : List Addr} (h : RS K mg G σ env H fp pv) (hr : ∀ a ∈ r, ∀ i, a ∉ fp i) : RS K mg (gu G H r) σ env H fp pv where
  len := h.len
  rel := fun i s e => (h.rel i s e).mono (gu_same h.sub) (Same.refl _)
  nil := h.nil
  sub := gu_sub h.sub
  out := fun i a m => by
    rw [gu_out fun q => hr a q i m]
    exact h.out i a m
  nd := h.nd
  dj := h.dj
theorem RS.frz (rs : RS K mg G σ env H fp pv) {i : Nat} {ps : List Pst} (h : frzE env i ps = some e) : ∃ r fp', RS K mg (gu G H r) σ e H fp' pv ∧ (∀ a ∈ r, a ∈ fp i) ∧ ∀ j a, a ∈ fp' j → a ∈ fp j := by
  unfold frzE at h
  cases z : VL.tree env i with
  | none => rw [z] at h; cases h
  | some kt =>
    obtain ⟨kd, s⟩ := kt
    rw [z] at h
    dsimp only at h
    cases zs : subS s ps with
    | none => rw [zs] at h; cases h
    | some t =>
      rw [zs] at h
      dsimp only at h
      cases zf : t.frz? with
      | none => rw [zf] at h; cases h
      | some x =>
        rw [zf] at h
        cases h
        obtain ⟨hs, v, hv, hp, ow⟩ := rs.tree z
        have hi : i < env.length := (List.getElem?_eq_some_iff.mp hs).1
        obtain ⟨u, r1, e1, o1, n1, s1, ex⟩ := ow.exch (rs.nd i) zs
        have g : Same G (gu G H r1) := gu_same rs.sub
        obtain ⟨r', o', n', q'⟩ := ex (G' := gu G H r1) (H' := H) (t' := .f x) (r1' := []) ⟨g, fun _ _ _ => rfl, .f (o1.frozenF g (fun a m o e => by rw [gu_in m]; exact e) zf), .nil, fun _ m => by cases m⟩
        have sub' : ∀ a ∈ r', a ∈ fp i ∧ a ∉ r1 := fun a m => by
          rcases q' a m with q | q
          · cases q
          · exact q
        refine ⟨r1, fun j => if j = i then r' else fp j, ⟨?_, fun j u e => ?_, fun j hj => ?_, gu_sub rs.sub, fun j a m => ?_, fun j => ?_, fun j k a m1 m2 => ?_⟩, s1, fun j a m => ?_⟩
        · rw [List.length_set]; exact rs.len
        · by_cases q : j = i
          · subst q
            rw [List.getElem?_set_self hi] at e
            cases e
            rw [if_pos rfl]
            cases kd with
            | va => exact ⟨v, hv, o'⟩
            | rf => rw [← hp rfl]; exact ⟨hv, o'⟩
          · rw [List.getElem?_set_ne (Ne.symm q)] at e
            rw [if_neg q]
            exact (rs.rel j u e).mono g (Same.refl _)
        · rw [List.length_set] at hj
          show (if j = i then r' else fp j) = []
          rw [if_neg (by omega)]
          exact rs.nil j hj
        · by_cases q : j = i
          · rw [if_pos q] at m
            obtain ⟨m1, m2⟩ := sub' a m
            rw [gu_out m2]
            exact rs.out i a m1
          · rw [if_neg q] at m
            rw [gu_out fun m2 => q (rs.dj j i a m (s1 a m2))]
            exact rs.out j a m
        · show (if j = i then r' else fp j).Nodup
          by_cases q : j = i
          · rw [if_pos q]; exact n'
          · rw [if_neg q]; exact rs.nd j
        · by_cases q1 : j = i
          · rw [if_pos q1] at m1
            by_cases q2 : k = i
            · rw [q1, q2]
            · rw [if_neg q2] at m2
              exact absurd (rs.dj k i a m2 (sub' a m1).1) q2
          · rw [if_neg q1] at m1
            by_cases q2 : k = i
            · rw [if_pos q2] at m2
              exact absurd (rs.dj j i a m1 (sub' a m2).1) q1
            · rw [if_neg q2] at m2; exact rs.dj j k a m1 m2
        · have m' : a ∈ (if j = i then r' else fp j) := m
          by_cases q : j = i
          · rw [if_pos q] at m'; rw [q]; exact (sub' a m').1
          · rw [if_neg q] at m'; exact m'
end
section
variable {X : Cx} {W : WX} {a b c e o : Expr} {es : List Expr} {pos apos cpos : Pos} {st : Stmt} {sts : List Stmt}
def vFrz (i : Nat) (ps : List Pst) : ST := fun env => match frzE env i ps with
  | some e => .nx e
  | none => .bad
end
end VL

set_option Elab.async false
set_option linter.all false
set_option maxRecDepth 100000
set_option maxHeartbeats 4000000
namespace VL
open PySem PySem.Spec PyProof.Rows L2

section
variable {X : Cx} {W : WX} {a b c e tg : Expr} {es : List Expr} {pos apos cpos : Pos} {st : Stmt} {sts : List Stmt}
end
end VL

set_option Elab.async false
set_option linter.all false
set_option maxRecDepth 100000
set_option maxHeartbeats 4000000
namespace VL
open PySem PySem.Spec PyProof.Rows L2
section
variable {X : Cx} {W : WX} {a b c e o : Expr} {es : List Expr} {pos apos cpos : Pos} {st : Stmt} {sts : List Stmt}

def datasA : List AV → Option (List PyData)
  | [] => some []
  | .fz (.d p) :: r => (datasA r).map (p :: ·)
  | _ => none
noncomputable def tupX (xs : List AV) (e : Env) : Out SV := match datasA xs with
  | some ds => cIf (ds.length ≤ 16777216) (.ok (.f (.d (.tuple ds))) e) .bad
  | none => .bad
noncomputable def vTupX (fs : Env → Out (List AV)) : FE := fun env => (fs env).bind tupX
def ixE1 (k : Int) (s : SV) (e : Env) : Out SV := match s with
  | .f (.d d) => oR (ixP d (.int k)) fun x => .ok (.f x) e
  | _ => .bad
def vIxE (f : FE) (k : Int) : FE := fun env => (f env).bind (ixE1 k)
end
end VL

set_option Elab.async false
set_option linter.all false
set_option maxRecDepth 100000
set_option maxHeartbeats 4000000
namespace VL
open PySem PySem.Spec PyProof.Rows L2

section
variable {X : Cx} {x y n : Str} {cx cy : Value} {i : Nat} {body sx sy : List Stmt} {bx bY : Stmt} {px py pos qx qy : Pos} {tb : WX → TS} {tx ty : Addr → Value → Option Addr → TS} {Wout : WX}
end
section
variable {X : Cx} {W : WX} {a b c e o : Expr} {es : List Expr} {pos apos cpos : Pos} {st : Stmt} {sts : List Stmt}
end
end VL

set_option Elab.async false
set_option linter.all false
set_option maxRecDepth 100000
set_option maxHeartbeats 4000000
namespace VL
open PySem PySem.Spec PyProof.Rows L2

def intsX : List SV → Option (List Int)
  | [] => some []
  | .f (.d (.int n)) :: xs => (intsX xs).map (n :: ·)
  | _ => none
def intsS : SV → Option (List Int)
  | .own xs => intsX xs
  | _ => none
theorem intsX_eq : ∀ {xs : List SV} {ns : List Int}, intsX xs = some ns → xs = (ns.map PyData.int).map fun p => SV.f (.d p)
  | [], ns, h => by cases h; rfl
  | x :: xs, ns, h => by
    unfold intsX at h
    split at h
    · rename_i h0; cases h0
    · rename_i n ys h0
      cases h0
      cases z : intsX xs with
      | none => rw [z] at h; cases h
      | some ms =>
        rw [z] at h
        cases h
        rw [intsX_eq z]
        rfl
    · cases h
theorem intsX_dl : ∀ ns : List Int, intsX ((ns.map PyData.int).map fun p => SV.f (.d p)) = some ns
  | [] => rfl
  | n :: ns => by
    show (intsX ((ns.map PyData.int).map fun p => SV.f (.d p))).map (n :: ·) = _
    rw [intsX_dl ns]
    rfl
theorem intsS_eq {s : SV} {ns : List Int} (h : intsS s = some ns) : s = SV.dl (ns.map .int) := by
  cases s with
  | own xs => exact congrArg SV.own (intsX_eq h)
  | _ => cases h
open Classical in
noncomputable def forR (i : Nat) (s : SV) (g : Tgt) (b : ST) : List PyData → ST
  | [] => fun e => if e[i]? = some (.rf s) then .nx e else .bad
  | x :: xs => fun e => if e[i]? = some (.rf s) then (match g x e with
    | some e1 => (match b e1 with
      | .nx e2 => forR i s g b xs e2
      | _ => .bad)
    | none => .bad) else .bad
open Classical in
noncomputable def offR (i : Nat) (s : SV) : Flow → Flow
  | .nx e => if e[i]? = some (.rf s) then .nx (e.set i (.va s)) else .bad
  | _ => .bad
noncomputable def vForE (i : Nat) (g : Tgt) (b : ST) : ST := fun env => match env[i]? with
  | some (.va s) => (match intsS s with
    | some ns => offR i s (forR i s g b (enumP 0 (ns.map .int)) (env.set i (.rf s)))
    | none => .bad)
  | _ => .bad
section
variable {X : Cx} {W : WX}
theorem leaf_vs {K : PySem.W.Frag} {mg : Str → Option Value} {G H : Hp} : ∀ {ns : List Int} {vs : List V} {r : List Addr}, Ows K mg G H vs ((ns.map PyData.int).map fun p => SV.f (.d p)) r → Dqs K G vs (ns.map .int) ∧ ∀ {G2 H2 : Hp} {vs2 : List V} {r2 : List Addr}, Ows K mg G2 H2 vs2 ((ns.map PyData.int).map fun p => SV.f (.d p)) r2 → vs2 = vs
  | [], _, _, .nil => ⟨.nil, fun h => by cases h; rfl⟩
  | n :: ns, _, _, .cons h t => by
    obtain ⟨a, b⟩ := leaf_vs t
    cases h with
    | f q =>
      cases q with
      | d q =>
        refine ⟨.cons q a, fun h2 => ?_⟩
        cases h2 with
        | cons h3 t3 =>
          cases h3 with
          | f q3 =>
            cases q3 with
            | d q3 =>
              rw [b t3]
              cases q
              cases q3
              rfl
theorem RS.pin {K : PySem.W.Frag} {mg : Str → Option Value} {G H : Hp} {σ : L2.St} {env : Env} {fp : Nat → List Addr} {pv : Nat → V} {i : Nat} {s : SV} {v : V} (h : RS K mg G σ env H fp pv) (he : env[i]? = some (.va s)) (hv : σ[i]? = some (some v)) (ow : Ow K mg G H v s (fp i)) :
    RS K mg G σ (env.set i (.rf s)) H fp (fun j => if j = i then v else pv j) := by
  have hi : i < env.length := (List.getElem?_eq_some_iff.mp he).1
  refine ⟨by rw [List.length_set]; exact h.len, fun j u e => ?_, fun j hj => h.nil j (by rw [List.length_set] at hj; exact hj), h.sub, h.out, h.nd, h.dj⟩
  by_cases q : j = i
  · subst q
    rw [List.getElem?_set_self hi] at e
    cases e
    show σ[j]? = some (some (if j = j then v else pv j)) ∧ Ow K mg G H (if j = j then v else pv j) s (fp j)
    rw [if_pos rfl]
    exact ⟨hv, ow⟩
  · rw [List.getElem?_set_ne (fun z => q z.symm)] at e
    show slotOk K mg G H (if j = i then v else pv j) σ[j]? (fp j) u
    rw [if_neg q]
    exact h.rel j u e
theorem RS.unpin {K : PySem.W.Frag} {mg : Str → Option Value} {G H : Hp} {σ : L2.St} {env : Env} {fp : Nat → List Addr} {pv : Nat → V} {i : Nat} {s : SV} {v : V} (h : RS K mg G σ env H fp (fun j => if j = i then v else pv j)) (he : env[i]? = some (.rf s)) :
    RS K mg G σ (env.set i (.va s)) H fp pv := by
  have hi : i < env.length := (List.getElem?_eq_some_iff.mp he).1
  refine ⟨by rw [List.length_set]; exact h.len, fun j u e => ?_, fun j hj => h.nil j (by rw [List.length_set] at hj; exact hj), h.sub, h.out, h.nd, h.dj⟩
  by_cases q : j = i
  · subst q
    rw [List.getElem?_set_self hi] at e
    cases e
    have r := h.rel j _ he
    obtain ⟨r1, r2⟩ : σ[j]? = some (some (if j = j then v else pv j)) ∧ Ow K mg G H (if j = j then v else pv j) s (fp j) := r
    rw [if_pos rfl] at r1 r2
    exact ⟨v, r1, r2⟩
  · rw [List.getElem?_set_ne (fun z => q z.symm)] at e
    have r := h.rel j u e
    have r' : slotOk K mg G H (if j = i then v else pv j) σ[j]? (fp j) u := r
    rw [if_neg q] at r'
    exact r'
theorem RS.slotR {K : PySem.W.Frag} {mg : Str → Option Value} {G H : Hp} {σ : L2.St} {env : Env} {fp : Nat → List Addr} {pv : Nat → V} {i : Nat} {s : SV} {v : V} (h : RS K mg G σ env H fp (fun j => if j = i then v else pv j)) (he : env[i]? = some (.rf s)) : Ow K mg G H v s (fp i) := by
  obtain ⟨r1, r2⟩ : σ[i]? = some (some (if i = i then v else pv i)) ∧ Ow K mg G H (if i = i then v else pv i) s (fp i) := h.rel i _ he
  rw [if_pos rfl] at r2
  exact r2
theorem vs_forE {e : Expr} {pos pos2 p tpos : Pos} {elts : List Expr} {kk : Nat} {i : Nat} {g : Tgt} {ts : List Nat} {body : ST} {B : List Stmt} (hp : PassesOwn (model X.prog X.w) X.A X.env X.xe) (hc : X.calm = true) (hm : X.mg "enumerate" = none) (hv : PE X e (tVar i)) (hg : VG X ts (.Tuple elts kk tpos) g) (hb : VSs X W B body)
    (hgl : Gl X "enumerate" := by rfl) (hs1 : starEach [e] X.env = [(false, eval e X.env)] := by rfl) (hs : ∀ x, foldedSetIterable (.Call (.Name "enumerate" p) [e] [] pos) X.env x = pure x := by intro _; rfl) :
    VS X W (.For (.Tuple elts kk tpos) (.Call (.Name "enumerate" p) [e] [] pos) B [] pos2) (vForE i g body) := ps_imp (ps_for hp hc (pi_enum hgl hm (pa_cons hv pa_nil hs1) hs1) hg hb hs) fun D σ H ⟨G, env, fp, pv, rs, w⟩ => by
  unfold vForE at w
  cases z : env[i]? with
  | none => rw [z] at w; exact w.elim
  | some u =>
  rw [z] at w
  cases u with
  | no => exact w.elim
  | rf _ => exact w.elim
  | vw _ => exact w.elim
  | va s =>
  dsimp only at w
  cases zi : intsS s with
  | none => rw [zi] at w; exact w.elim
  | some ns =>
  rw [zi] at w
  dsimp only at w
  obtain ⟨v, hv1, ow⟩ := rs.rel i _ z
  have rs1 := rs.pin z hv1 ow
  have es := intsS_eq zi
  subst es
  have ow' := ow
  revert w rs1 ow'
  generalize fp i = r0 at ow
  cases ow with
  | @own a vs _ r hl tl =>
  intro w rs1 ow'
  have hd : Dqs X.K G vs (ns.map .int) := (leaf_vs tl).1
  have hsame : ∀ {G2 H2 : Hp} {vs2 : List V} {r2 : List Addr}, Ows X.K X.mg G2 H2 vs2 ((ns.map PyData.int).map fun p => SV.f (.d p)) r2 → vs2 = vs := (leaf_vs tl).2
  refine ⟨.ref a, hv1, a, vs, rfl, SqL.of hl, ?_⟩
  refine ⟨fun k m σ H => m + k = (enumP 0 (ns.map PyData.int)).length ∧ ∃ G2 env fp, RS X.K X.mg G2 σ env H fp (fun j => if j = i then .ref a else pv j) ∧ Same G G2 ∧ Post X.K X.mg W D G2 H fp pv (offR i (SV.dl (ns.map .int)) (forR i (SV.dl (ns.map .int)) g body ((enumP 0 (ns.map PyData.int)).drop k) env)),
    ⟨(enumP 0 (ns.map PyData.int)).length, by omega, G, _, fp, rs1, Same.refl _, w⟩, ?_⟩
  rintro k m σ2 H2 ⟨em, G2, env2, fp2, rs2, s2, w2⟩
  have hin : env2[i]? = some (.rf (SV.dl (ns.map .int))) := by
    refine Classical.byContradiction fun hin => ?_
    cases zz : (enumP 0 (ns.map PyData.int)).drop k with
    | nil => rw [zz] at w2; unfold forR at w2; rw [if_neg hin] at w2; exact w2
    | cons x xs => rw [zz] at w2; unfold forR at w2; rw [if_neg hin] at w2; exact w2
  have ow2 := rs2.slotR hin
  have hl2 : H2 a = some (.lst vs) := by
    revert ow2
    generalize fp2 i = r2
    intro ow2
    cases ow2 with
    | @own _ vs2 _ _ h2 t2 =>
      have := hsame t2
      subst this
      exact h2
  obtain ⟨hstop, hgo⟩ := (it_enum (B := H2) (SqL.of hl2) hd) G2 H2 s2 (Same.refl _) rs2.sub
  by_cases hlt : k < (enumP 0 (ns.map PyData.int)).length
  · right
    have ei : (enumP 0 (ns.map PyData.int))[k]? = some (enumP 0 (ns.map PyData.int))[k] := List.getElem?_eq_getElem hlt
    obtain ⟨go, yl⟩ := hgo k _ ei
    refine ⟨go, fun σ' H' => ∃ G2 env fp, RS X.K X.mg G2 σ' env H' fp (fun j => if j = i then .ref a else pv j) ∧ Same G G2 ∧ Post X.K X.mg W D G2 H' fp pv (offR i (SV.dl (ns.map .int)) (forR i (SV.dl (ns.map .int)) g body ((enumP 0 (ns.map PyData.int)).drop (k + 1)) env)), fun σ' H' hN => ⟨m - 1, by omega, by omega, hN⟩, fun x H3 hy => ?_⟩
    obtain ⟨G3, e3, d3⟩ := yl x H3 hy
    rw [List.drop_eq_getElem_cons hlt] at w2
    have rs3 := rs2.ext e3
    have w3 := w2.step (Stp.of_ext e3)
    refine ⟨G3, env2, fp2, _, (enumP 0 (ns.map PyData.int))[k], rs3, d3, ?_⟩
    unfold forR at w3
    rw [if_pos hin] at w3
    cases z : g (enumP 0 (ns.map PyData.int))[k] env2 with
    | none => rw [z] at w3; exact w3.elim
    | some e4 =>
      rw [z] at w3
      intro σ4 fp4 h4 _ rs4
      refine ⟨G3, e4, fp4, _, rs4, ?_⟩
      have st4 : Stp G3 H3 fp2 G3 H3 fp4 := Stp.sub (Stp.refl (fp := fp2) rs3.sub) fun i a m => .inr (h4 i a m)
      have w4 := Post.step st4 w3
      dsimp only at w4
      cases z5 : body e4 with
      | nx e5 =>
        rw [z5] at w4
        exact fun G5 σ5 H5 fp5 st5 rs5 => ⟨G5, e5, fp5, rs5, (s2.trans e3.g).trans st5.g, w4.step st5⟩
      | rt v e5 => rw [z5] at w4; exact w4.elim
      | err c e5 => rw [z5] at w4; exact w4.elim
      | bad => rw [z5] at w4; exact w4.elim
  · left
    have ei : (enumP 0 (ns.map PyData.int)).drop k = [] := List.drop_eq_nil_iff.mpr (by omega)
    rw [ei] at w2
    unfold forR at w2
    rw [if_pos hin] at w2
    unfold offR at w2
    dsimp only at w2
    rw [if_pos hin] at w2
    exact ⟨hstop k (by omega), w2 G2 σ2 H2 fp2 (Stp.refl rs2.sub) (rs2.unpin hin)⟩
end
end VL

set_option Elab.async false
set_option linter.all false
set_option maxRecDepth 100000
set_option maxHeartbeats 4000000
namespace VL
open PySem PySem.Spec PyProof.Rows L2

noncomputable def B_Table___init__ : ST := (vSeq (vIfS (vOrT (toT (vCmp .notin (vVarD 1) (toD (vC (.tuple (([5, 7, 11, 13, 17, 19, 23, 29, 31] : List Int).map .int)))))) (vOrT (vNotT (toT (vChain .le .le (toD (vC (.int 3))) (vVarD 2) (toD (vC (.int 7)))))) (toT (vCmp .ge (vVarD 2) (vVarD 1))))) (vRaise "BadTable") vSkip)
  (vSeq (vIfS (vOrT (vNotT (toT (vChain .le .le (toD (vC (.int 1))) (vVarD 3) (toD (vC (.int 2)))))) (toT (vCmp .ge (frD (v2 mulV (toD (vC (.int 2))) (vVarD 3))) (vVarD 2)))) (vRaise "BadTable") vSkip)
  (vSeq (vSetF "Table" 0 "prime" (unO (vVar 1)))
  (vSeq (vSetF "Table" 0 "hands" (unO (vVar 2)))
  (vSetF "Table" 0 "few" (unO (vVar 3)))))))
noncomputable def S_Table___init__ : Fn := mkFn 0 B_Table___init__

noncomputable def B__law_cell_at : ST := (vSeq (vIfS (toT (vCmp .lt (vVarD 1) (toD (vLenS (vVar 0))))) (vRetP (ixS (vVar 0) (vVarD 1))) vSkip)
  (vRetP (vC (.int 0))))
noncomputable def S__law_cell_at : Fn := mkFn 0 B__law_cell_at

noncomputable def B__law_whole : ST := (vRetP (vAnd (v1 (fun y => iB (isI .int y)) (vVarD 0)) (vNot (v1 (fun y => iB (isI .bool y)) (vVarD 0)))))
noncomputable def S__law_whole : Fn := mkFn 0 B__law_whole

noncomputable def B_back : ST := (vSeq (vIfS (toT (vCmp .eq (vVarD 1) (toD (vC (.int 0))))) (vRaise "Nought") vSkip)
  (vSeq (vSet 2 (vC (.int 1)))
  (vSeq (vFor (v1 rng1 (toD (v2 subI (toD (vFld "Table" "prime" (vVar 0))) (toD (vC (.int 2)))))) (gN 3)
  (vSet 2 (v2 modI (frD (v2 mulV (vVarD 2) (vVarD 1))) (toD (vFld "Table" "prime" (vVar 0))))))
  (vRetP (vVar 2)))))
noncomputable def S_back : Fn := mkFn 2 B_back

noncomputable def B__law_table_by : ST := (vSeq (vSet 1 (v2 ixP (frD (vLst (vCons (toD (vC (.int 5))) (vCons (toD (vC (.int 7))) (vCons (toD (vC (.int 11))) (vCons (toD (vC (.int 13))) (vCons (toD (vC (.int 17))) (vCons (toD (vC (.int 19))) (vCons (toD (vC (.int 23))) (vCons (toD (vC (.int 29))) (vCons (toD (vC (.int 31))) vNil))))))))))) (toD (v2 modI (vVarD 0) (toD (vC (.int 9)))))))
  (vSeq (vSet 2 (frO (v2 addV (toD (vC (.int 3))) (toD (v2 modI (toD (v2 divI (vVarD 0) (toD (vC (.int 9))))) (toD (v2 subI (toD (v2 minI (toD (vC (.int 7))) (toD (v2 subI (vVarD 1) (toD (vC (.int 1))))))) (toD (vC (.int 2))))))))))
  (vSeq (vSet 3 (vC (.int 1)))
  (vSeq (vIfS (vAndT (toT (vCmp .gt (vVarD 2) (toD (vC (.int 4))))) (toT (vCmp .eq (toD (v2 modI (toD (v2 divI (vVarD 0) (toD (vC (.int 45))))) (toD (vC (.int 2))))) (toD (vC (.int 1)))))) (vSet 3 (vC (.int 2))) vSkip)
  (vRet (vMake "Table" S_Table___init__ (aC (vVar 1) (aC (vVar 2) (aC (vVar 3) aN)))))))))
noncomputable def S__law_table_by : Fn := mkFn 3 B__law_table_by

noncomputable def B_worth : ST := (vSeq (vSet 3 (vC (.int 0)))
  (vSeq (vFor (vItRev (toD (vVar 1))) (gN 4)
  (vSet 3 (v2 modI (frD (v2 addV (frD (v2 mulV (vVarD 3) (vVarD 2))) (vVarD 4))) (toD (vFld "Table" "prime" (vVar 0))))))
  (vRetP (vVar 3))))
noncomputable def S_worth : Fn := mkFn 2 B_worth

noncomputable def B__law_mix : ST := (vRetP (v2 modI (toD (v2 divI (toD (v2 modI (frD (v2 mulV (frD (v2 addV (toD (v2 modI (vVarD 0) (toD (vC (.int 2147483647))))) (toD (vC (.int 12345))))) (frD (v2 addV (toD (vC (.int 48271))) (frD (v2 mulV (toD (vC (.int 6))) (vVarD 1))))))) (toD (vC (.int 1000000007))))) (toD (vC (.int 7))))) (vVarD 2)))
noncomputable def S__law_mix : Fn := mkFn 0 B__law_mix

noncomputable def B__law_numbers : ST := (vRet (vComp (v1 rng1 (vVarD 1)) (gN 3) vYes (vCall S__law_mix (aC (vVar 0) (aC (frO (v2 mulV (toD (vC (.int 3))) (vVarD 3))) (aC (vVar 2) aN)))) [3]))
noncomputable def S__law_numbers : Fn := mkFn 1 B__law_numbers

noncomputable def B__law_worth : ST := (vSeq (vSet 3 (vC (.int 0)))
  (vSeq (vSet 4 (vC (.int 1)))
  (vSeq (vFor (vItL (toD (vVar 1))) (gN 5)
  (vSeq (vSet 3 (v2 modI (frD (v2 addV (vVarD 3) (frD (v2 mulV (vVarD 5) (vVarD 4))))) (vVarD 0)))
  (vSet 4 (v2 modI (frD (v2 mulV (vVarD 4) (vVarD 2))) (vVarD 0)))))
  (vRetP (vVar 3)))))
noncomputable def S__law_worth : Fn := mkFn 3 B__law_worth

noncomputable def B_product : ST := (vSeq (vSetO 3 (v2 mulV (frD (vLst (vCons (toD (vC (.int 0))) vNil))) (toD (v2 maxI (toD (vC (.int 0))) (toD (v2 subI (frD (v2 addV (toD (v1 lenP (vVarD 1))) (toD (v1 lenP (vVarD 2))))) (toD (vC (.int 1)))))))))
  (vSeq (vFor (vItEnum (toD (vVar 1))) (gT 2 (gsC (gN 4) (gsC (gN 5) gsN)))
  (vFor (vItEnum (toD (vVar 2))) (gT 2 (gsC (gN 6) (gsC (gN 7) gsN)))
  (vSetI (plN 3) (frD (v2 addV (vVarD 4) (vVarD 6))) (unO (v2 modI (frD (v2 addV (toD (plP (plX (plN 3) (frD (v2 addV (vVarD 4) (vVarD 6)))))) (frD (v2 mulV (vVarD 5) (vVarD 7))))) (toD (vFld "Table" "prime" (vVar 0))))))))
  (vRetV 3)))
noncomputable def S_product : Fn := mkFn 5 B_product

noncomputable def B_through : ST := (vSeq (vSet 2 (frO (v2 mulV (frD (vLst (vCons (toD (vC (.int 0))) vNil))) (toD (v1 lenP (vVarD 1))))))
  (vSeq (vFor (vItEnum (toD (vVar 1))) (gT 2 (gsC (gN 3) (gsC (gN 4) gsN)))
  (vSeq (vSet 5 (frO (vLst (vCons (toD (v2 ixP (vVarD 4) (toD (vC (.int 1))))) vNil))))
  (vSeq (vFor (vItEnum (toD (vVar 1))) (gT 2 (gsC (gN 6) (gsC (gN 7) gsN)))
  (vIfS (toT (vCmp .ne (vVarD 6) (vVarD 3))) (vSeq (vIfS (toT (vCmp .eq (toD (v2 ixP (vVarD 7) (toD (vC (.int 0))))) (toD (v2 ixP (vVarD 4) (toD (vC (.int 0))))))) (vRaise "AlikePoints") vSkip)
  (vSeq (vSet 8 (frO (vCall S_back (aC (vVar 0) (aC (v2 modI (toD (v2 subI (toD (v2 ixP (vVarD 4) (toD (vC (.int 0))))) (toD (v2 ixP (vVarD 7) (toD (vC (.int 0))))))) (toD (vFld "Table" "prime" (vVar 0)))) aN)))))
  (vSet 5 (frO (vCall S_product (aC (vVar 0) (aC (vVar 5) (aC (frO (vLst (vCons (toD (v2 modI (frD (v2 mulV (toD (v1 negI (toD (v2 ixP (vVarD 7) (toD (vC (.int 0))))))) (vVarD 8))) (toD (vFld "Table" "prime" (vVar 0))))) (vCons (toD (vVar 8)) vNil)))) aN)))))))) vSkip))
  (vSet 2 (frO (vComp (vItZip (vVarD 2) (vVarD 5)) (gT 2 (gsC (gN 9) (gsC (gN 10) gsN))) vYes (unO (v2 modI (frD (v2 addV (vVarD 9) (vVarD 10))) (toD (vFld "Table" "prime" (vVar 0))))) [9, 10]))))))
  (vRetP (vVar 2))))
noncomputable def S_through : Fn := mkFn 9 B_through

noncomputable def B_weights : ST := (vSeq (vSetO 1 (vLst vNil))
  (vSeq (vFor (v2 rng2 (toD (vC (.int 1))) (frD (v2 addV (toD (vFld "Table" "hands" (vVar 0))) (toD (vC (.int 1)))))) (gN 2)
  (vSeq (vSet 3 (frO (vComp (v2 rng2 (toD (vC (.int 1))) (frD (v2 addV (toD (vFld "Table" "hands" (vVar 0))) (toD (vC (.int 1)))))) (gN 4) vYes (unO (vTup (vCons (toD (vVar 4)) (vCons (toD (frO (v1 intP (toD (vCmp .eq (vVarD 4) (vVarD 2)))))) vNil)))) [4])))
  (vEx (vApp (plN 1) (unO (v2 ixP (frD (vCall S_through (aC (vVar 0) (aC (vVar 3) aN)))) (toD (vC (.int 0)))))))))
  (vRetV 1)))
noncomputable def S_weights : Fn := mkFn 4 B_weights

noncomputable def B_law_v4 : ST := (vSeq (vSet 1 (frO (vCall S__law_table_by (aC (frO (vCall S__law_cell_at (aC (vVar 0) (aC (vC (.int 0)) aN)))) aN))))
  (vSeq (vSet 2 (vFld "Table" "prime" (vVar 1)))
  (vSeq (vSetO 3 (vCall S_weights (aC (vVar 1) aN)))
  (vSeq (vIfS (vOrT (vNotT (toT (v1 (fun y => iB (isI .list y)) (vVarD 3)))) (toT (vCmp .ne (toD (plL (plN 3))) (toD (vFld "Table" "hands" (vVar 1)))))) (vRetP (vC (.bool false))) vSkip)
  (vSeq (vIfS (vNotT (toT (v1 allP (frD (vComp (vItL (vVarD 3)) (gN 10) vYes (unO (vAnd (frO (vCall S__law_whole (aC (vVar 10) aN))) (vChain .le .lt (toD (vC (.int 0))) (vVarD 10) (vVarD 2)))) [10]))))) (vRetP (vC (.bool false))) vSkip)
  (vSeq (vFor (v1 rng1 (toD (vFld "Table" "hands" (vVar 1)))) (gN 4)
  (vSeq (vSet 5 (vC (.int 0)))
  (vSeq (vForE 3 (gT 2 (gsC (gN 6) (gsC (gN 7) gsN)))
  (vSet 5 (frO (v2 addV (vVarD 5) (frD (v2 mulV (vVarD 7) (frD (vCall S__law_worth (aC (vVar 2) (aC (frO (v2 addV (frD (v2 mulV (frD (vLst (vCons (toD (vC (.int 0))) vNil))) (vVarD 4))) (frD (vLst (vCons (toD (vC (.int 1))) vNil))))) (aC (frO (v2 addV (vVarD 6) (toD (vC (.int 1))))) aN)))))))))))
  (vIfS (toT (vCmp .ne (toD (v2 modI (vVarD 5) (vVarD 2))) (frD (v1 intP (toD (vCmp .eq (vVarD 4) (toD (vC (.int 0))))))))) (vRetP (vC (.bool false))) vSkip))))
  (vSeq (vSet 8 (frO (vCall S__law_numbers (aC (frO (vCall S__law_cell_at (aC (vVar 0) (aC (vC (.int 1)) aN)))) (aC (frO (v2 addV (toD (vC (.int 1))) (toD (v2 modI (frD (vCall S__law_cell_at (aC (vVar 0) (aC (vC (.int 2)) aN)))) (toD (vFld "Table" "hands" (vVar 1))))))) (aC (vVar 2) aN))))))
  (vSeq (vSet 5 (v1 sumP (frD (vComp (vItEnum (vVarD 3)) (gT 2 (gsC (gN 6) (gsC (gN 7) gsN))) vYes (v2 mulV (vVarD 7) (frD (vCall S__law_worth (aC (vVar 2) (aC (vVar 8) (aC (frO (v2 addV (vVarD 6) (toD (vC (.int 1))))) aN)))))) [6, 7]))))
  (vSeq (vIfS (toT (vCmp .ne (toD (v2 modI (vVarD 5) (vVarD 2))) (toD (v2 ixP (vVarD 8) (toD (vC (.int 0))))))) (vRetP (vC (.bool false))) vSkip)
  (vSeq (vSet 9 (frO (v1 listP (vVarD 3))))
  (vSeq (vEx (vPopL (plN 3)))
  (vRetP (vCmp .eq (frD (vCall S_weights (aC (vVar 1) aN))) (vVarD 9))))))))))))))
noncomputable def S_law_v4 : Fn := mkFn 10 B_law_v4

noncomputable def B_dealt : ST := (vRet (vComp (v2 rng2 (toD (vC (.int 1))) (frD (v2 addV (toD (vFld "Table" "hands" (vVar 0))) (toD (vC (.int 1)))))) (gN 3) vYes (vCall S_worth (aC (vVar 0) (aC (frO (v2 addV (frD (vLst (vCons (toD (vVar 1)) vNil))) (frD (v1 listP (vVarD 2))))) (aC (vVar 3) aN)))) [3]))
noncomputable def S_dealt : Fn := mkFn 1 B_dealt

noncomputable def B__law_row : ST := (vSeq (vIfS (vOrT (vNotT (toT (v1 (fun y => iB (isI .list y)) (vVarD 0)))) (toT (vCmp .ne (toD (v1 lenP (vVarD 0))) (toD (v1 lenP (vVarD 1)))))) (vRetP (vC (.bool false))) vSkip)
  (vSeq (vFor (vItZip (toD (vVar 0)) (toD (vVar 1))) (gT 2 (gsC (gN 2) (gsC (gN 3) gsN)))
  (vIfS (vOrT (vNotT (toT (frO (vCall S__law_whole (aC (vVar 2) aN))))) (toT (vCmp .ne (vVarD 2) (vVarD 3)))) (vRetP (vC (.bool false))) vSkip))
  (vRetP (vC (.bool true)))))
noncomputable def S__law_row : Fn := mkFn 2 B__law_row

noncomputable def B__law_told : ST := (vRetP (vAnd (v1 (fun y => iB (isI .bool y)) (vVarD 0)) (vCmp .eq (vVarD 0) (vVarD 1))))
noncomputable def S__law_told : Fn := mkFn 0 B__law_told

noncomputable def B_is_number : ST := (vRetP (vChain .le .lt (toD (vC (.int 0))) (vVarD 1) (toD (vFld "Table" "prime" (vVar 0)))))
noncomputable def S_is_number : Fn := mkFn 0 B_is_number

end VL

set_option Elab.async false
set_option linter.all false
set_option maxRecDepth 100000
set_option maxHeartbeats 4000000
namespace VL
open PySem PySem.Spec PyProof.Rows L2

@[simp] theorem bind_ok {α β : Type} (a : α) (k : α → Res β) : (Res.ok a).bind k = k a := rfl
@[simp] theorem bind_err {α β : Type} (c : Str) (k : α → Res β) : (Res.err c : Res α).bind k = .err c := rfl
@[simp] theorem bind_bad {α β : Type} (k : α → Res β) : (Res.bad : Res α).bind k = .bad := rfl
theorem bind_congr {α β : Type} (r : Res α) {k k' : α → Res β} (h : ∀ x, k x = k' x) : r.bind k = r.bind k' := by cases r <;> simp [Res.bind, h]
theorem bind_assoc {α β γ : Type} (r : Res α) (k : α → Res β) (j : β → Res γ) : (r.bind k).bind j = r.bind fun a => (k a).bind j := by cases r <;> rfl
def dOf : FV → Res PyData
  | .d p => .ok p
  | _ => .bad
@[simp] theorem dOf_d (p : PyData) : dOf (.d p) = .ok p := rfl
def frF (s : SV) : Res FV := match s.frz? with
  | some x => .ok x
  | none => .bad
@[simp] theorem frF_f (x : FV) : frF (.f x) = .ok x := rfl
@[simp] theorem frF_dl (ds : List PyData) : frF (SV.dl ds) = .ok (.d (.list ds)) := by unfold frF; rw [frz?_dl]
@[simp] theorem toD_ap (f : FP) (e : Env) : toD f e = (f e).bind dOf := by
  exact bind_congr _ fun x => by cases x <;> rfl
@[simp] theorem frO_ap (f : FO) (e : Env) : frO f e = (f e).bind frF := rfl
theorem frz_frF (s : SV) : (match s.frz with | some x => Res.ok x | none => .bad) = (frF s).bind dOf := by
  cases s with
  | f x => cases x <;> rfl
  | own xs =>
    show (match (SV.frzs xs).map PyData.list with | some x => Res.ok x | none => .bad) = (match (SV.frzs xs).map (fun ps => FV.d (.list ps)) with | some x => Res.ok x | none => .bad).bind dOf
    cases SV.frzs xs <;> rfl
  | otup xs =>
    show (match (SV.frzs xs).map PyData.tuple with | some x => Res.ok x | none => .bad) = (match (SV.frzs xs).map (fun ps => FV.d (.tuple ps)) with | some x => Res.ok x | none => .bad).bind dOf
    cases SV.frzs xs <;> rfl
  | obj c fs =>
    show Res.bad = (match (SV.frzf fs).map (fun ps => FV.ob c ps) with | some x => Res.ok x | none => .bad).bind dOf
    cases SV.frzf fs <;> rfl
@[simp] theorem frD_ap (f : FO) (e : Env) : frD f e = ((f e).bind frF).bind dOf := by
  rw [bind_assoc]
  exact bind_congr _ fun s => frz_frF s
@[simp] theorem unO_ap (f : FP) (e : Env) : unO f e = (f e).bind fun x => .ok (.f x) := rfl
def ldP : Option Slot → Res FV
  | some (.va (.f x)) => .ok x
  | some (.rf (.f x)) => .ok x
  | some (.vw (.f x)) => .ok x
  | _ => .bad
@[simp] theorem ldP_va (x : FV) : ldP (some (.va (.f x))) = .ok x := rfl
@[simp] theorem ldP_rf (x : FV) : ldP (some (.rf (.f x))) = .ok x := rfl
@[simp] theorem ldP_vw (x : FV) : ldP (some (.vw (.f x))) = .ok x := rfl
@[simp] theorem vVar_ap (i : Nat) (e : Env) : vVar i e = ldP e[i]? := by
  unfold vVar ldP
  rfl
@[simp] theorem ldS_f (p : PyData) : ldS (.f (.d p)) = .ok p := rfl
@[simp] theorem ldS_dl (ds : List PyData) : ldS (SV.dl ds) = .ok (.list ds) := by
  show (match SV.leafs (ds.map fun p => .f (.d p)) with | some ds => Res.ok (PyData.list ds) | none => .bad) = _
  rw [leafs_map]
def ldD : Option Slot → Res PyData
  | some (.va s) => ldS s
  | some (.rf s) => ldS s
  | some (.vw s) => ldS s
  | _ => .bad
@[simp] theorem ldD_va (s : SV) : ldD (some (.va s)) = ldS s := rfl
@[simp] theorem ldD_rf (s : SV) : ldD (some (.rf s)) = ldS s := rfl
@[simp] theorem ldD_vw (s : SV) : ldD (some (.vw s)) = ldS s := rfl
@[simp] theorem vVarD_ap (i : Nat) (e : Env) : vVarD i e = ldD e[i]? := by
  unfold vVarD ldD ldS
  cases e[i]? with
  | none => rfl
  | some s =>
    cases s with
    | no => rfl
    | va s => cases s with
      | f x => cases x <;> rfl
      | _ => rfl
    | rf s => cases s with
      | f x => cases x <;> rfl
      | _ => rfl
    | vw s => cases s with
      | f x => cases x <;> rfl
      | _ => rfl
@[simp] theorem vC_ap (p : PyData) (e : Env) : vC p e = .ok (.d p) := rfl
@[simp] theorem v1_ap {α : Type} (h : PyData → Res α) (f : FD) (e : Env) : v1 h f e = (f e).bind h := rfl
@[simp] theorem v2_ap {α : Type} (h : PyData → PyData → Res α) (f g : FD) (e : Env) : v2 h f g e = (f e).bind fun x => (g e).bind fun y => h x y := rfl
@[simp] theorem vCmp_ap (c : Cop) (f g : FD) (e : Env) : vCmp c f g e = (f e).bind fun x => (g e).bind fun y => c.h x y := rfl
@[simp] theorem subI_i (i j : Int) : subI (.int i) (.int j) = .ok (.d (.int (i - j))) := rfl
@[simp] theorem cIf_yes {α : Type} {c : Prop} {a b : α} (h : c) : cIf c a b = a := cIf_pos h
@[simp] theorem modI_i (i j : Int) : modI (.int i) (.int j) = cIf (0 < j) (.ok (.d (.int (i % j)))) .bad := rfl
@[simp] theorem divI_i (i j : Int) : divI (.int i) (.int j) = cIf (0 < j ∧ j < 1073741824) (.ok (.d (.int (i / j)))) .bad := rfl
@[simp] theorem addV_i (i j : Int) : addV (.int i) (.int j) = .ok (.f (.d (.int (i + j)))) := rfl
@[simp] theorem addV_l (xs ys : List PyData) : addV (.list xs) (.list ys) = cIf (xs.length + ys.length ≤ 16777216) (.ok (SV.dl (xs ++ ys))) .bad := rfl
@[simp] theorem addV_t (xs ys : List PyData) : addV (.tuple xs) (.tuple ys) = cIf (xs.length + ys.length ≤ 16777216) (.ok (.f (.d (.tuple (xs ++ ys))))) .bad := rfl
@[simp] theorem mulV_i (i j : Int) : mulV (.int i) (.int j) = cIf ((-18446744073709551616 < i ∧ i < 18446744073709551616) ∨ (-18446744073709551616 < j ∧ j < 18446744073709551616)) (.ok (.f (.d (.int (i * j))))) .bad := rfl
@[simp] theorem mulV_rep (xs : List PyData) (k : Int) : mulV (.list xs) (.int k) = cIf (0 ≤ k ∧ k < 1000000 ∧ xs.length * k.toNat ≤ 16777216) (.ok (SV.dl (List.replicate k.toNat xs).flatten)) .bad := rfl
@[simp] theorem negI_i (i : Int) : negI (.int i) = .ok (.d (.int (-i))) := rfl
@[simp] theorem maxI_i (i j : Int) : maxI (.int i) (.int j) = .ok (.d (.int (if j > i then j else i))) := rfl
@[simp] theorem minI_i (i j : Int) : minI (.int i) (.int j) = .ok (.d (.int (if j < i then j else i))) := rfl
@[simp] theorem cop_lt (i j : Int) : Cop.h .lt (.int i) (.int j) = .ok (.d (.bool (decide (i < j)))) := rfl
@[simp] theorem cop_le (i j : Int) : Cop.h .le (.int i) (.int j) = .ok (.d (.bool (decide (i ≤ j)))) := rfl
@[simp] theorem cop_gt (i j : Int) : Cop.h .gt (.int i) (.int j) = .ok (.d (.bool (decide (j < i)))) := rfl
@[simp] theorem cop_ge (i j : Int) : Cop.h .ge (.int i) (.int j) = .ok (.d (.bool (decide (j ≤ i)))) := rfl
def fit : Nat → PyData → Bool
  | _, .none => true
  | _, .int _ => true
  | _, .str x => PyData.strOk x
  | n + 1, .list xs => xs.all (fit n)
  | n + 1, .tuple xs => xs.all (fit n)
  | _, _ => false
theorem fit_shape : ∀ (n : Nat) (d : PyData), fit n d = true → d.canLay0 = true ∧ d.depth ≤ n := by
  intro n
  induction n with
  | zero =>
    intro d h
    cases d with
    | none => exact ⟨by simp [PyData.canLay0], by simp [PyData.depth]⟩
    | int i => exact ⟨by simp [PyData.canLay0], by simp [PyData.depth]⟩
    | str x => exact ⟨by simpa [PyData.canLay0, fit] using h, by simp [PyData.depth]⟩
    | bool b => exact absurd h (by simp [fit])
    | list xs => exact absurd h (by simp [fit])
    | tuple xs => exact absurd h (by simp [fit])
    | dict xs => exact absurd h (by simp [fit])
  | succ n ih =>
    have key : ∀ xs : List PyData, xs.all (fit n) = true → PyData.canLayAll0 xs = true ∧ PyData.depthAll xs ≤ n := by
      intro xs
      induction xs with
      | nil => intro _; exact ⟨by simp [PyData.canLayAll0], by simp [PyData.depthAll]⟩
      | cons x xs ihx =>
        intro h
        rw [List.all_cons, Bool.and_eq_true] at h
        obtain ⟨a1, a2⟩ := ih x h.1
        obtain ⟨b1, b2⟩ := ihx h.2
        exact ⟨by simp [PyData.canLayAll0, a1, b1], by simp only [PyData.depthAll]; omega⟩
    intro d h
    cases d with
    | none => exact ⟨by simp [PyData.canLay0], by simp [PyData.depth]⟩
    | int i => exact ⟨by simp [PyData.canLay0], by simp [PyData.depth]⟩
    | str x => exact ⟨by simpa [PyData.canLay0, fit] using h, by simp [PyData.depth]⟩
    | bool b => exact absurd h (by simp [fit])
    | list xs =>
      obtain ⟨a, b⟩ := key xs (by simpa [fit] using h)
      exact ⟨by simpa [PyData.canLay0] using a, by simp only [PyData.depth]; omega⟩
    | tuple xs =>
      obtain ⟨a, b⟩ := key xs (by simpa [fit] using h)
      exact ⟨by simpa [PyData.canLay0] using a, by simp only [PyData.depth]; omega⟩
    | dict xs => exact absurd h (by simp [fit])
theorem fit_shaped {n : Nat} {d : PyData} (h : fit n d = true) (hn : n ≤ 64) : SeqAt.shaped d = true := by
  obtain ⟨a, b⟩ := fit_shape n d h
  unfold SeqAt.shaped
  rw [a, Bool.true_and]
  exact decide_eq_true (by omega)
theorem fit_eqv : ∀ (n : Nat) (d e : PyData), fit n d = true → fit n e = true → (PyData.eqv d e = true ↔ d = e) := by
  intro n
  induction n with
  | zero =>
    intro d e h h'
    cases d <;> cases e <;> simp_all [fit, PyData.eqv]
  | succ n ih =>
    have key : ∀ xs ys : List PyData, xs.all (fit n) = true → ys.all (fit n) = true → (PyData.eqvAll xs ys = true ↔ xs = ys) := by
      intro xs
      induction xs with
      | nil => intro ys _ _; cases ys <;> simp [PyData.eqvAll]
      | cons x xs ihx =>
        intro ys h h'
        cases ys with
        | nil => simp [PyData.eqvAll]
        | cons y ys =>
          rw [List.all_cons, Bool.and_eq_true] at h h'
          simp only [PyData.eqvAll, Bool.and_eq_true, ih x y h.1 h'.1, ihx ys h.2 h'.2, List.cons.injEq]
    intro d e h h'
    cases d with
    | list xs =>
      cases e with
      | list ys =>
        simp only [PyData.eqv, PyData.list.injEq]
        exact key xs ys (by simpa [fit] using h) (by simpa [fit] using h')
      | _ => simp_all [fit, PyData.eqv]
    | tuple xs =>
      cases e with
      | tuple ys =>
        simp only [PyData.eqv, PyData.tuple.injEq]
        exact key xs ys (by simpa [fit] using h) (by simpa [fit] using h')
      | _ => simp_all [fit, PyData.eqv]
    | _ => cases e <;> simp_all [fit, PyData.eqv]
open Classical in
theorem cop_eq {d e : PyData} (n : Nat) (h : fit n d = true) (h' : fit n e = true) (hn : n ≤ 64 := by decide) : Cop.h .eq d e = .ok (.d (.bool (decide (d = e)))) := by
  show eqP d e = _
  unfold eqP
  rw [if_pos ⟨fit_shaped h hn, fit_shaped h' hn⟩]
  have k := fit_eqv n d e h h'
  show Res.ok (FV.d (.bool (PyData.eqv d e))) = _
  by_cases q : d = e
  · rw [decide_eq_true q, k.mpr q]
  · rw [decide_eq_false q, Bool.eq_false_iff.mpr fun z => q (k.mp z)]
open Classical in
theorem cop_ne {d e : PyData} (n : Nat) (h : fit n d = true) (h' : fit n e = true) (hn : n ≤ 64 := by decide) : Cop.h .ne d e = .ok (.d (.bool (!decide (d = e)))) := by
  show neP d e = _
  unfold neP
  rw [if_pos ⟨fit_shaped h hn, fit_shaped h' hn⟩]
  have k := fit_eqv n d e h h'
  show Res.ok (FV.d (.bool (!PyData.eqv d e))) = _
  by_cases q : d = e
  · rw [decide_eq_true q, k.mpr q]
  · rw [decide_eq_false q, Bool.eq_false_iff.mpr fun z => q (k.mp z)]
@[simp] theorem cop_eq_i (i j : Int) : Cop.h .eq (.int i) (.int j) = .ok (.d (.bool (decide (i = j)))) := by
  rw [cop_eq 0 rfl rfl]
  simp
@[simp] theorem cop_ne_i (i j : Int) : Cop.h .ne (.int i) (.int j) = .ok (.d (.bool (!decide (i = j)))) := by
  rw [cop_ne 0 rfl rfl]
  simp
@[simp] theorem cop_eq_s (i j : Str) (hi : PyData.strOk i = true) (hj : PyData.strOk j = true) : Cop.h .eq (.str i) (.str j) = .ok (.d (.bool (decide (i = j)))) := by
  rw [cop_eq (d := .str i) (e := .str j) 0 hi hj]
  simp
@[simp] theorem cop_ne_s (i j : Str) (hi : PyData.strOk i = true) (hj : PyData.strOk j = true) : Cop.h .ne (.str i) (.str j) = .ok (.d (.bool (!decide (i = j)))) := by
  rw [cop_ne (d := .str i) (e := .str j) 0 hi hj]
  simp
def iL (ns : List Int) : PyData := .list (ns.map .int)
theorem fit_intsL (n : Nat) (ns : List Int) : (ns.map PyData.int).all (fit n) = true := by
  rw [List.all_eq_true]
  intro x m
  obtain ⟨i, _, rfl⟩ := List.mem_map.mp m
  cases n <;> rfl
theorem fit_ints (n : Nat) (ns : List Int) : fit (n + 1) (iL ns) = true := fit_intsL n ns
theorem map_int_inj {a b : List Int} : a.map PyData.int = b.map PyData.int ↔ a = b := by
  constructor
  · intro h
    induction a generalizing b with
    | nil => cases b with | nil => rfl | cons _ _ => cases h
    | cons x a ih => cases b with
      | nil => cases h
      | cons y b =>
        simp only [List.map_cons, List.cons.injEq, PyData.int.injEq] at h
        rw [h.1, ih h.2]
  · rintro rfl; rfl
@[simp] theorem cop_eq_ints (a b : List Int) : Cop.h .eq (.list (a.map .int)) (.list (b.map .int)) = .ok (.d (.bool (decide (a = b)))) := by
  rw [cop_eq (d := .list (a.map .int)) (e := .list (b.map .int)) 1 (fit_intsL 0 a) (fit_intsL 0 b)]
  simp [map_int_inj]
@[simp] theorem cop_ne_ints (a b : List Int) : Cop.h .ne (.list (a.map .int)) (.list (b.map .int)) = .ok (.d (.bool (!decide (a = b)))) := by
  rw [cop_ne (d := .list (a.map .int)) (e := .list (b.map .int)) 1 (fit_intsL 0 a) (fit_intsL 0 b)]
  simp [map_int_inj]
theorem inV_ints (x : Int) (ns : List Int) : inV (.int x) (ns.map fun i => V.int i) = decide (x ∈ ns) := by
  induction ns with
  | nil => rfl
  | cons n ns ih =>
    have e : inV (.int x) ((n :: ns).map fun i => V.int i) = ((n == x) || inV (.int x) (ns.map fun i => V.int i)) := rfl
    rw [e, ih]
    by_cases q : n = x
    · subst q; simp
    · have q' : ¬ x = n := fun z => q z.symm
      simp [q, q']
theorem flat_intsL (ns : List Int) : (ns.map PyData.int).all flatP = true := by
  rw [List.all_eq_true]
  intro x m
  obtain ⟨i, _, rfl⟩ := List.mem_map.mp m
  rfl
theorem toV_ints (ns : List Int) : (ns.map PyData.int).map toV = ns.map fun i => V.int i := by
  rw [List.map_map]; rfl
@[simp] theorem cop_in_ints (x : Int) (ns : List Int) : Cop.h .isin (.int x) (.list (ns.map .int)) = .ok (.d (.bool (decide (x ∈ ns)))) := by
  rw [show Cop.h .isin (.int x) (.list (ns.map .int)) = inP false (.int x) (.list (ns.map .int)) from rfl]
  show (if flatP (.int x) = true ∧ (ns.map PyData.int).all flatP = true then inB false (inV (toV (.int x)) ((ns.map PyData.int).map toV)) else _) = _
  rw [if_pos ⟨rfl, flat_intsL ns⟩, toV_ints]
  show Res.ok (FV.d (.bool (inV (.int x) _))) = _
  rw [inV_ints]
@[simp] theorem cop_notin_ints (x : Int) (ns : List Int) : Cop.h .notin (.int x) (.list (ns.map .int)) = .ok (.d (.bool (!decide (x ∈ ns)))) := by
  rw [show Cop.h .notin (.int x) (.list (ns.map .int)) = inP true (.int x) (.list (ns.map .int)) from rfl]
  show (if flatP (.int x) = true ∧ (ns.map PyData.int).all flatP = true then inB true (inV (toV (.int x)) ((ns.map PyData.int).map toV)) else _) = _
  rw [if_pos ⟨rfl, flat_intsL ns⟩, toV_ints]
  show Res.ok (FV.d (.bool (!inV (.int x) _))) = _
  rw [inV_ints]
@[simp] theorem cop_notin_tints (x : Int) (ns : List Int) : Cop.h .notin (.int x) (.tuple (ns.map .int)) = .ok (.d (.bool (!decide (x ∈ ns)))) := by
  rw [show Cop.h .notin (.int x) (.tuple (ns.map .int)) = inP true (.int x) (.tuple (ns.map .int)) from rfl]
  show (if flatP (.int x) = true ∧ (ns.map PyData.int).all flatP = true then inB true (inV (toV (.int x)) ((ns.map PyData.int).map toV)) else _) = _
  rw [if_pos ⟨rfl, flat_intsL ns⟩, toV_ints]
  show Res.ok (FV.d (.bool (!inV (.int x) _))) = _
  rw [inV_ints]
def bOf : FV → Res Bool
  | .d (.bool b) => .ok b
  | _ => .bad
@[simp] theorem bOf_b (b : Bool) : bOf (.d (.bool b)) = .ok b := rfl
@[simp] theorem toT_ap (f : FP) (e : Env) : toT f e = (f e).bind bOf := by
  exact bind_congr _ fun x => by
    cases x with
    | d p => cases p <;> rfl
    | _ => rfl
@[simp] theorem vAndT_ap (f g : FT) (e : Env) : vAndT f g e = (f e).bind fun b => if b = true then g e else .ok false := rfl
@[simp] theorem vOrT_ap (f g : FT) (e : Env) : vOrT f g e = (f e).bind fun b => if b = true then .ok true else g e := rfl
@[simp] theorem vNotT_ap (f : FT) (e : Env) : vNotT f e = (f e).bind fun b => .ok (!b) := rfl
@[simp] theorem bB_b {α : Type} (k : Bool → Res α) (b : Bool) : bB k (.d (.bool b)) = k b := rfl
@[simp] theorem vAnd_ap (f g : FP) (e : Env) : vAnd f g e = (f e).bind (bB fun b => if b = true then g e else .ok (.d (.bool false))) := rfl
@[simp] theorem vOr_ap (f g : FP) (e : Env) : vOr f g e = (f e).bind (bB fun b => if b = true then .ok (.d (.bool true)) else g e) := rfl
@[simp] theorem vNot_ap (f : FP) (e : Env) : vNot f e = (f e).bind (bB fun b => .ok (.d (.bool (!b)))) := rfl
@[simp] theorem vIf_ap {α : Type} (t : FT) (f g : Env → Res α) (e : Env) : vIf t f g e = (t e).bind fun b => if b = true then f e else g e := rfl
@[simp] theorem iB_ap (b : Bool) : iB b = .ok (.d (.bool b)) := rfl
@[simp] theorem iI_ap (b : Int) : iI b = .ok (.d (.int b)) := rfl
def chB (k : Res FV) : FV → Res FV
  | .d (.bool true) => k
  | .d (.bool false) => .ok (.d (.bool false))
  | _ => .bad
@[simp] theorem chB_b (k : Res FV) (b : Bool) : chB k (.d (.bool b)) = if b = true then k else .ok (.d (.bool false)) := by cases b <;> rfl
@[simp] theorem vChain_ap (c c' : Cop) (f g h : FD) (e : Env) : vChain c c' f g h e = (f e).bind fun x => (g e).bind fun y => (c.h x y).bind (chB ((h e).bind fun z => c'.h y z)) := by
  exact bind_congr _ fun x => bind_congr _ fun y => bind_congr _ fun z => by
    cases z with
    | d p => cases p with
      | bool b => cases b <;> rfl
      | _ => rfl
    | _ => rfl
@[simp] theorem isN_none : isN .none = true := rfl
@[simp] theorem isN_int (i : Int) : isN (.int i) = false := rfl
@[simp] theorem isN_str (i : Str) : isN (.str i) = false := rfl
@[simp] theorem isN_list (i : List PyData) : isN (.list i) = false := rfl
@[simp] theorem isN_tuple (i : List PyData) : isN (.tuple i) = false := rfl
@[simp] theorem isN_bool (i : Bool) : isN (.bool i) = false := rfl
@[simp] theorem isI_int (i : Int) : isI .int (.int i) = true := rfl
@[simp] theorem isI_intB (i : Int) : isI .bool (.int i) = false := rfl
@[simp] theorem isI_intL (i : Int) : isI .list (.int i) = false := rfl
@[simp] theorem isI_intT (i : Int) : isI .tuple (.int i) = false := rfl
@[simp] theorem isI_listL (i : List PyData) : isI .list (.list i) = true := rfl
@[simp] theorem isI_listT (i : List PyData) : isI .tuple (.list i) = false := rfl
@[simp] theorem isI_listI (i : List PyData) : isI .int (.list i) = false := rfl
@[simp] theorem isI_tupL (i : List PyData) : isI .list (.tuple i) = false := rfl
@[simp] theorem isI_tupT (i : List PyData) : isI .tuple (.tuple i) = true := rfl
@[simp] theorem isI_noneL : isI .list .none = false := rfl
@[simp] theorem isI_noneT : isI .tuple .none = false := rfl
@[simp] theorem isI_noneI : isI .int .none = false := rfl
@[simp] theorem vFld_ap (cn n : Str) (f : FP) (e : Env) : vFld cn n f e = (f e).bind (fldP cn n) := rfl
def oP : Option PyData → Res FV
  | some d => .ok (.d d)
  | none => .bad
@[simp] theorem oP_some (d : PyData) : oP (some d) = .ok (.d d) := rfl
@[simp] theorem ixP_l (ds : List PyData) (i : Int) : ixP (.list ds) (.int i) = oP (atI ds i) := rfl
@[simp] theorem ixP_t (ds : List PyData) (i : Int) : ixP (.tuple ds) (.int i) = oP (atI ds i) := rfl
def oI : Option Int → Res FV
  | some d => .ok (.d (.int d))
  | none => .bad
theorem atI_pos {α : Type} {xs : List α} {i : Int} (h0 : 0 ≤ i) : atI xs i = xs[i.toNat]? := by
  unfold L2.atI L2.ixN
  rw [if_pos h0]
  by_cases h : i < xs.length
  · rw [if_pos h]; rfl
  · rw [if_neg h]
    show none = _
    rw [List.getElem?_eq_none (by omega)]
@[simp] theorem vNil_ap (e : Env) : vNil e = .ok [] := rfl
@[simp] theorem vCons_ap (f : FD) (g : Env → Res (List PyData)) (e : Env) : vCons f g e = (f e).bind fun x => (g e).bind fun xs => .ok (x :: xs) := rfl
@[simp] theorem vLst_ap (g : Env → Res (List PyData)) (e : Env) : vLst g e = (g e).bind fun xs => cIf (xs.length ≤ 16777216) (.ok (SV.dl xs)) .bad := rfl
@[simp] theorem vTup_ap (g : Env → Res (List PyData)) (e : Env) : vTup g e = (g e).bind fun xs => cIf (xs.length ≤ 16777216) (.ok (.d (.tuple xs))) .bad := rfl
@[simp] theorem aN_ap (e : Env) : aN e = .ok [] := rfl
@[simp] theorem aC_ap (f : FP) (g : Env → Res (List FV)) (e : Env) : aC f g e = (f e).bind fun x => (g e).bind fun xs => .ok (x :: xs) := rfl
@[simp] theorem lenP_l (ds : List PyData) : lenP (.list ds) = .ok (.d (.int ds.length)) := rfl
@[simp] theorem lenP_t (ds : List PyData) : lenP (.tuple ds) = .ok (.d (.int ds.length)) := rfl
@[simp] theorem listP_l (ds : List PyData) : listP (.list ds) = .ok (SV.dl ds) := rfl
@[simp] theorem listP_t (ds : List PyData) : listP (.tuple ds) = .ok (SV.dl ds) := rfl
@[simp] theorem sumP_ints (ns : List Int) : sumP (.list (ns.map .int)) = .ok (.d (.int ns.sum)) := by
  show (match intsOf (ns.map .int) with | some ns => iI ns.sum | none => .bad) = _
  rw [intsOf_map]; rfl
@[simp] theorem allP_bools (ns : List Bool) : allP (.list (ns.map .bool)) = .ok (.d (.bool (ns.all id))) := by
  show (match boolsOf (ns.map .bool) with | some ns => iB (ns.all id) | none => .bad) = _
  rw [boolsOf_map]; rfl
@[simp] theorem sortP_ints (ns : List Int) : sortP (.list (ns.map .int)) = .ok (SV.dl ((srtI ns).map .int)) := by
  show (match intsOf (ns.map .int) with | some ns => Res.ok (SV.dl ((srtI ns).map .int)) | none => .bad) = _
  rw [intsOf_map]
@[simp] theorem intP_i (i : Int) : intP (.int i) = .ok (.f (.d (.int i))) := rfl
@[simp] theorem intP_b (b : Bool) : intP (.bool b) = .ok (.f (.d (.int (if b then 1 else 0)))) := rfl
def run (S : Fn) (xs : List FV) : Res FV := (outR (S (xs.map vaF))).bind frF
@[simp] theorem vCall_fr (S : Fn) (fs : Env → Res (List FV)) (e : Env) : (vCall S fs e).bind frF = (fs e).bind (run S) := by
  unfold vCall run
  rw [bind_assoc]
def Flow.andThen (f : Flow) (g : ST) : Flow := match f with
  | .nx e => g e
  | r => r
@[simp] theorem andThen_nx (e : Env) (g : ST) : (Flow.nx e).andThen g = g e := rfl
@[simp] theorem andThen_rt (v : SV) (e : Env) (g : ST) : (Flow.rt v e).andThen g = .rt v e := rfl
@[simp] theorem andThen_err (c : Str) (e : Env) (g : ST) : (Flow.err c e).andThen g = .err c e := rfl
@[simp] theorem andThen_bad (g : ST) : (Flow.bad).andThen g = .bad := rfl
@[simp] theorem vSeq_ap (f g : ST) (e : Env) : vSeq f g e = (f e).andThen g := by
  unfold vSeq Flow.andThen
  cases f e <;> rfl
@[simp] theorem vSkip_ap (e : Env) : vSkip e = .nx e := rfl
@[simp] theorem ofR_ok {α : Type} (a : α) (e : Env) (k : α → Flow) : ofR (.ok a) e k = k a := rfl
@[simp] theorem ofR_err {α : Type} (c : Str) (e : Env) (k : α → Flow) : ofR (.err c : Res α) e k = .err c e := rfl
@[simp] theorem ofR_bad {α : Type} (e : Env) (k : α → Flow) : ofR (.bad : Res α) e k = .bad := rfl
def free : Slot → Bool
  | .rf _ => false
  | _ => true
@[simp] theorem free_no : free .no = true := id rfl
@[simp] theorem free_va (s : SV) : free (.va s) = true := id rfl
@[simp] theorem free_vw (s : SV) : free (.vw s) = true := id rfl
theorem setS_ap {e : Env} {i : Nat} {s t : Slot} (h : e[i]? = some t) (f : free t = true) : setS e i s = .nx (e.set i s) := by
  unfold setS
  have : canSet e i = true := by
    unfold canSet
    rw [h]
    cases t <;> first | rfl | cases f
  rw [if_pos this]
@[simp] theorem setS_0 (t : Slot) (r : Env) (s : Slot) (f : free t = true) : setS (t :: r) 0 s = .nx (s :: r) := setS_ap (t := t) rfl f
@[simp] theorem setS_1 (a t : Slot) (r : Env) (s : Slot) (f : free t = true) : setS (a :: t :: r) 1 s = .nx (a :: s :: r) := setS_ap (t := t) rfl f
@[simp] theorem setS_2 (a b t : Slot) (r : Env) (s : Slot) (f : free t = true) : setS (a :: b :: t :: r) 2 s = .nx (a :: b :: s :: r) := setS_ap (t := t) rfl f
@[simp] theorem setS_n (i : Nat) (a b c : Slot) (r : Env) (s : Slot) (f : ((r[i]?).map free) = some true) : setS (a :: b :: c :: r) (i + 3) s = .nx (a :: b :: c :: r.set i s) := by
  cases z : r[i]? with
  | none => rw [z] at f; cases f
  | some t =>
    rw [z] at f
    exact setS_ap (t := t) (by simpa using z) (Option.some.inj f)
@[simp] theorem vSet_ap (i : Nat) (f : FP) (e : Env) : vSet i f e = ofR (f e) e fun x => setS e i (.va (.f x)) := rfl
@[simp] theorem vSetO_ap (i : Nat) (f : FO) (e : Env) : vSetO i f e = ofR (f e) e fun x => setS e i (.va x) := rfl
@[simp] theorem vIfS_ap (t : FT) (f g : ST) (e : Env) : vIfS t f g e = ofR (t e) e fun b => if b = true then f e else g e := rfl
@[simp] theorem vRaise_ap (c : Str) (e : Env) : vRaise c e = .err c e := rfl
@[simp] theorem vRetN_ap (e : Env) : vRetN e = .rt (.f (.d .none)) e := rfl
@[simp] theorem vRetP_ap (f : FP) (e : Env) : vRetP f e = ofR (f e) e fun x => .rt (.f x) e := rfl
@[simp] theorem vRet_ap (f : FO) (e : Env) : vRet f e = ofR (f e) e fun x => .rt x e := rfl
def fin : Flow → Res FV
  | .rt s _ => frF s
  | .nx _ => .ok (.d .none)
  | .err c _ => .err c
  | .bad => .bad
@[simp] theorem fin_rt (s : SV) (e : Env) : fin (.rt s e) = frF s := rfl
@[simp] theorem fin_nx (e : Env) : fin (.nx e) = .ok (.d .none) := rfl
@[simp] theorem fin_err (c : Str) (e : Env) : fin (.err c e) = .err c := rfl
@[simp] theorem fin_ret (r : Res SV) (e : Env) : fin (ofR r e fun s => .rt s e) = r.bind frF := by cases r <;> rfl
theorem run_mk (nl : Nat) (body : ST) (xs : List FV) : run (mkFn nl body) xs = fin (body (xs.map vaF ++ List.replicate nl .no)) := by
  unfold run mkFn
  cases body (xs.map vaF ++ List.replicate nl .no) <;> rfl
@[simp] theorem vaF_eq (x : FV) : vaF x = .va (.f x) := rfl
@[simp] theorem vItL_ap (f : FD) (e : Env) : vItL f e = (f e).bind asL := rfl
@[simp] theorem asL_l (ds : List PyData) : asL (.list ds) = .ok ds := rfl
@[simp] theorem vItRev_ap (f : FD) (e : Env) : vItRev f e = (f e).bind fun x => (asL x).bind fun ds => .ok ds.reverse := rfl
@[simp] theorem vItEnum_ap (f : FD) (e : Env) : vItEnum f e = (f e).bind fun x => (asL x).bind fun ds => .ok (enumP 0 ds) := rfl
@[simp] theorem vItZip_ap (f g : FD) (e : Env) : vItZip f g e = (f e).bind fun x => (g e).bind fun y => (asL x).bind fun ds => (asL y).bind fun es => .ok (zipP ds es) := rfl
@[simp] theorem rng1_ap (j : Int) : rng1 (.int j) = cIf (-4611686018427387904 ≤ j ∧ j < 4611686018427387904) (.ok (rngP 0 j.toNat)) .bad := rfl
@[simp] theorem rng2_ap (i j : Int) : rng2 (.int i) (.int j) = cIf (-4611686018427387904 ≤ i ∧ i < 4611686018427387904 ∧ -4611686018427387904 ≤ j ∧ j < 4611686018427387904) (.ok (rngP i (j - i).toNat)) .bad := rfl
@[simp] theorem lrg2_ap (i j : Int) : lrg2 (.int i) (.int j) = cIf (0 ≤ i ∧ i ≤ 16777216 ∧ 0 ≤ j ∧ j ≤ 16777216) (.ok (SV.dl (rngP i (j - i).toNat))) .bad := rfl
@[simp] theorem vFor_ap (it : IT) (g : Tgt) (b : ST) (e : Env) : vFor it g b e = ofR (it e) e fun items => forL g b items e := rfl
@[simp] theorem forL_nil (g : Tgt) (b : ST) (e : Env) : forL g b [] e = .nx e := rfl
def tgt (g : Tgt) (x : PyData) (e : Env) (k : Env → Flow) : Flow := match g x e with
  | some e1 => k e1
  | none => .bad
theorem forL_cons (g : Tgt) (b : ST) (x : PyData) (xs : List PyData) (e : Env) : forL g b (x :: xs) e = tgt g x e fun e1 => (b e1).andThen (forL g b xs) := by
  show (match g x e with | some e1 => (match b e1 with | .nx e2 => forL g b xs e2 | r => r) | none => .bad) = _
  unfold tgt
  cases g x e with
  | none => rfl
  | some e1 =>
    dsimp only
    unfold Flow.andThen
    cases b e1 <;> rfl
theorem tgt_some {g : Tgt} {x : PyData} {e e1 : Env} {k : Env → Flow} (h : g x e = some e1) : tgt g x e k = k e1 := by unfold tgt; rw [h]
theorem gN_ap {i : Nat} {x : PyData} {e : Env} {t : Slot} (h : e[i]? = some t) (f : free t = true) : gN i x e = some (e.set i (.va (.f (.d x)))) := by
  unfold gN
  have : canSet e i = true := by
    unfold canSet
    rw [h]
    cases t <;> first | rfl | cases f
  rw [if_pos this]
@[simp] theorem gN_0 (x : PyData) (t : Slot) (r : Env) (f : free t = true) : gN 0 x (t :: r) = some (.va (.f (.d x)) :: r) := gN_ap (t := t) rfl f
@[simp] theorem gN_1 (x : PyData) (a t : Slot) (r : Env) (f : free t = true) : gN 1 x (a :: t :: r) = some (a :: .va (.f (.d x)) :: r) := gN_ap (t := t) rfl f
@[simp] theorem gN_2 (x : PyData) (a b t : Slot) (r : Env) (f : free t = true) : gN 2 x (a :: b :: t :: r) = some (a :: b :: .va (.f (.d x)) :: r) := gN_ap (t := t) rfl f
@[simp] theorem gN_n (i : Nat) (x : PyData) (a b c : Slot) (r : Env) (f : ((r[i]?).map free) = some true) : gN (i + 3) x (a :: b :: c :: r) = some (a :: b :: c :: r.set i (.va (.f (.d x)))) := by
  cases z : r[i]? with
  | none => rw [z] at f; cases f
  | some t =>
    rw [z] at f
    exact gN_ap (t := t) (by simpa using z) (Option.some.inj f)
@[simp] theorem gsN_ap (e : Env) : gsN [] e = some e := rfl
@[simp] theorem gsC_ap (g : Tgt) (r : Tgts) (x : PyData) (xs : List PyData) (e : Env) : gsC g r (x :: xs) e = (g x e).bind (r xs) := rfl
@[simp] theorem gT_ap (n : Nat) (g : Tgts) (ds : List PyData) (e : Env) : gT n g (.tuple ds) e = if ds.length = n then g ds e else none := rfl
@[simp] theorem wipeE_nil (e : Env) : wipeE e [] = e := rfl
@[simp] theorem wipeE_cons (e : Env) (v : Nat) (vs : List Nat) : wipeE e (v :: vs) = (wipeE e vs).set v .no := rfl
@[simp] theorem vYes_ap (e : Env) : vYes e = .ok true := rfl
@[simp] theorem noE_ok' {α : Type} (a : α) : noE (.ok a) = .ok a := rfl
theorem vComp_ap (it : IT) (g : Tgt) (t : FT) (elt : FO) (vs : List Nat) (e : Env) : vComp it g t elt vs e = (it e).bind fun items => cIf (items.length ≤ 16777216) ((compL g t elt (wipeE e vs) items).bind fun ys => .ok (.own ys)) .bad := rfl
def turnC (g : Tgt) (t : FT) (elt : FO) (e : Env) (x : PyData) : Res (Option SV) := match g x e with
  | none => .bad
  | some e1 => (t e1).bind fun b => if b = true then (elt e1).bind fun y => .ok (some y) else .ok none
theorem compL_ap {g : Tgt} {t : FT} {elt : FO} {e : Env} {F : PyData → Option PyData} : ∀ {items : List PyData}, (∀ x ∈ items, ∃ o : Option SV, turnC g t elt e x = .ok o ∧ (o.map SV.frz) = (F x).map some) → ∃ ys, compL g t elt e items = .ok ys ∧ SV.frzs ys = some (items.filterMap F)
  | [], _ => ⟨[], rfl, rfl⟩
  | x :: items, h => by
    obtain ⟨ys, h1, h2⟩ := compL_ap (items := items) fun y m => h y (List.mem_cons_of_mem _ m)
    obtain ⟨o, k1, k2⟩ := h x List.mem_cons_self
    unfold turnC at k1
    show ∃ ys, (match g x e with | none => Res.bad | some e1 => (noE (t e1)).bind fun b => if b = true then (noE (elt e1)).bind fun y => (compL g t elt e items).bind fun ys => .ok (y :: ys) else compL g t elt e items) = .ok ys ∧ _
    cases z : g x e with
    | none => rw [z] at k1; cases k1
    | some e1 =>
      rw [z] at k1
      dsimp only at k1 ⊢
      cases zt : t e1 with
      | err c => rw [zt] at k1; cases k1
      | bad => rw [zt] at k1; cases k1
      | ok b =>
        rw [zt] at k1
        rw [noE_ok', bind_ok]
        rw [bind_ok] at k1
        cases b with
        | false =>
          rw [if_neg Bool.false_ne_true] at k1 ⊢
          cases k1
          refine ⟨ys, h1, ?_⟩
          cases zF : F x with
          | none => rw [h2, List.filterMap_cons_none zF]
          | some y => rw [zF] at k2; cases k2
        | true =>
          rw [if_pos rfl] at k1 ⊢
          cases ze : elt e1 with
          | err c => rw [ze] at k1; cases k1
          | bad => rw [ze] at k1; cases k1
          | ok y =>
            rw [ze, bind_ok] at k1
            cases k1
            rw [noE_ok', bind_ok, h1, bind_ok]
            refine ⟨y :: ys, rfl, ?_⟩
            cases zF : F x with
            | none => rw [zF] at k2; cases k2
            | some p =>
              rw [zF] at k2
              have k3 : SV.frz y = some p := Option.some.inj k2
              rw [List.filterMap_cons_some zF]
              show (match SV.frz y, SV.frzs ys with | some p, some ps => some (p :: ps) | _, _ => none) = _
              rw [k3, h2]
theorem comp_fr {it : IT} {g : Tgt} {t : FT} {elt : FO} {vs : List Nat} {e : Env} {items : List PyData} (F : PyData → Option PyData) (hi : it e = .ok items) (hl : items.length ≤ 16777216)
    (h : ∀ x ∈ items, ∃ o : Option SV, turnC g t elt (wipeE e vs) x = .ok o ∧ (o.map SV.frz) = (F x).map some) : (vComp it g t elt vs e).bind frF = .ok (.d (.list (items.filterMap F))) := by
  obtain ⟨ys, h1, h2⟩ := compL_ap h
  rw [vComp_ap, hi, bind_ok, cIf_pos hl, h1, bind_ok, bind_ok]
  unfold frF
  show (match (SV.frzs ys).map (fun ps => FV.d (.list ps)) with | some x => Res.ok x | none => .bad) = _
  rw [h2]
  rfl
theorem frz_of_frF {s : SV} {p : PyData} (h : frF s = .ok (.d p)) : SV.frz s = some p := by
  have k := frz_frF s
  rw [h] at k
  cases z : s.frz with
  | none => rw [z] at k; cases k
  | some q => rw [z] at k; cases k; rfl
theorem comp_map {it : IT} {g : Tgt} {elt : FO} {vs : List Nat} {e : Env} {items : List PyData} (F : PyData → PyData) (hi : it e = .ok items) (hl : items.length ≤ 16777216)
    (h : ∀ x ∈ items, ∃ e1, g x (wipeE e vs) = some e1 ∧ (elt e1).bind frF = .ok (.d (F x))) : (vComp it g vYes elt vs e).bind frF = .ok (.d (.list (items.map F))) := by
  rw [comp_fr (fun x => some (F x)) hi hl fun x m => ?_]
  · rw [List.filterMap_eq_map']
  · obtain ⟨e1, h1, h2⟩ := h x m
    cases z : elt e1 with
    | err c => rw [z] at h2; cases h2
    | bad => rw [z] at h2; cases h2
    | ok s =>
      rw [z] at h2
      refine ⟨some s, ?_, ?_⟩
      · unfold turnC
        rw [h1]
        dsimp only
        rw [vYes_ap, bind_ok, if_pos rfl, z, bind_ok]
      · rw [Option.map_some, Option.map_some, frz_of_frF h2]

@[simp] theorem ite_andThen (c : Prop) [Decidable c] (a b : Flow) (g : ST) : (if c then a else b).andThen g = if c then a.andThen g else b.andThen g := by split <;> rfl
@[simp] theorem ite_bind {α β : Type} (c : Prop) [Decidable c] (a b : Res α) (k : α → Res β) : (if c then a else b).bind k = if c then a.bind k else b.bind k := by split <;> rfl
@[simp] theorem ite_ofR {α : Type} (c : Prop) [Decidable c] (a b : Res α) (e : Env) (k : α → Flow) : ofR (if c then a else b) e k = if c then ofR a e k else ofR b e k := by split <;> rfl
@[simp] theorem fin_ite (c : Prop) [Decidable c] (a b : Flow) : fin (if c then a else b) = if c then fin a else fin b := by split <;> rfl
def ixS1 (ns : List Int) : PyData → Res FV
  | .int i => oI (atI ns i)
  | _ => .bad
@[simp] theorem ixS1_sc (ns : List Int) (i : Int) : ixS1 ns (.int i) = oI (atI ns i) := rfl
def ixS2 (r : Res PyData) : FV → Res FV
  | .sc ns => r.bind (ixS1 ns)
  | _ => .bad
@[simp] theorem ixS2_sc (r : Res PyData) (ns : List Int) : ixS2 r (.sc ns) = r.bind (ixS1 ns) := rfl
@[simp] theorem ixS_ap (f : FP) (g : FD) (e : Env) : ixS f g e = (f e).bind (ixS2 (g e)) := by
  unfold ixS
  refine bind_congr _ fun x => ?_
  cases x with
  | sc ns =>
    refine bind_congr _ fun y => ?_
    cases y with
    | int i =>
      show (match atI ns i with | some d => iI d | none => .bad) = oI (atI ns i)
      cases atI ns i <;> rfl
    | _ => rfl
  | _ => rfl
@[simp] theorem oI_some (i : Int) : oI (some i) = .ok (.d (.int i)) := rfl
def lenS1 : FV → Res FV
  | .sc ns => .ok (.d (.int ns.length))
  | _ => .bad
@[simp] theorem lenS1_sc (ns : List Int) : lenS1 (.sc ns) = .ok (.d (.int ns.length)) := rfl
@[simp] theorem vLenS_ap (f : FP) (e : Env) : vLenS f e = (f e).bind lenS1 := by
  unfold vLenS
  exact bind_congr _ fun x => by cases x <;> rfl
@[simp] theorem nth_0 {α : Type} (a : α) (r : List α) : (a :: r)[0]? = some a := rfl
@[simp] theorem nth_s {α : Type} (a : α) (r : List α) (i : Nat) : (a :: r)[i + 1]? = r[i]? := rfl
def tbl (p h f : Int) : FV := .ob "Table" [("prime", .int p), ("hands", .int h), ("few", .int f)]
@[simp] theorem tbl_p (p h f : Int) : fldP "Table" "prime" (tbl p h f) = .ok (.d (.int p)) := by rfl
@[simp] theorem tbl_h (p h f : Int) : fldP "Table" "hands" (tbl p h f) = .ok (.d (.int h)) := by rfl
@[simp] theorem tbl_f (p h f : Int) : fldP "Table" "few" (tbl p h f) = .ok (.d (.int f)) := by rfl
end VL

set_option Elab.async false
set_option linter.all false
set_option maxRecDepth 100000
set_option maxHeartbeats 4000000
namespace VL
open PySem PySem.Spec PyProof.Rows L2
def rdS : Option Slot → Option SV
  | some (.va s) => some s
  | some (.rf s) => some s
  | some (.vw s) => some s
  | _ => none
@[simp] theorem rdS_va (s : SV) : rdS (some (.va s)) = some s := rfl
@[simp] theorem rdS_rf (s : SV) : rdS (some (.rf s)) = some s := rfl
@[simp] theorem rdS_vw (s : SV) : rdS (some (.vw s)) = some s := rfl
@[simp] theorem rd_ap (e : Env) (i : Nat) : rd e i = rdS e[i]? := by
  unfold rd rdS
  rfl
def plO (i : Nat) : Option SV → Res Plc
  | some s => .ok (i, [], s)
  | none => .bad
@[simp] theorem plO_some (i : Nat) (s : SV) : plO i (some s) = .ok (i, [], s) := rfl
@[simp] theorem plN_ap (i : Nat) (e : Env) : plN i e = plO i (rd e i) := by
  unfold plN plO
  rfl
@[simp] theorem plX_ap (f : Env → Res Plc) (g : FD) (e : Env) : plX f g e = (f e).bind fun x => (g e).bind (plX1 x) := rfl
@[simp] theorem plF_ap (cn n : Str) (f : Env → Res Plc) (e : Env) : plF cn n f e = (f e).bind (plS (.fld cn n)) := rfl
@[simp] theorem plP_ap (f : Env → Res Plc) (e : Env) : plP f e = (f e).bind plP1 := rfl
@[simp] theorem plD_ap (f : Env → Res Plc) (e : Env) : plD f e = (f e).bind fun x => ldS x.2.2 := rfl
@[simp] theorem plL_ap (f : Env → Res Plc) (e : Env) : plL f e = (f e).bind plL1 := rfl
@[simp] theorem plX1_int (x : Plc) (k : Int) : plX1 x (.int k) = plS (.ix k) x := rfl
@[simp] theorem plP1_f (i : Nat) (ps : List Pst) (x : FV) : plP1 (i, ps, .f x) = .ok x := rfl
@[simp] theorem plL1_own (i : Nat) (ps : List Pst) (xs : List SV) : plL1 (i, ps, .own xs) = .ok (.d (.int xs.length)) := rfl
@[simp] theorem plL1_dl (i : Nat) (ps : List Pst) (ds : List PyData) : plL1 (i, ps, SV.dl ds) = .ok (.d (.int ds.length)) := by
  show Res.ok (FV.d (.int ((ds.map fun p => SV.f (.d p)).length : Nat))) = _
  rw [List.length_map]
theorem plS_dl (i : Nat) (ps : List Pst) (ds : List PyData) (k : Int) (p : PyData) (h : atI ds k = some p) : plS (.ix k) (i, ps, SV.dl ds) = .ok (i, ps ++ [.ix k], .f (.d p)) := by
  unfold plS
  show (match atI (ds.map fun p => SV.f (.d p)) k with | some t => Res.ok (i, ps ++ [Pst.ix k], t) | none => .bad) = _
  rw [atI_map, h]
  rfl
def SV.dll (qs : List (List PyData)) : SV := .own (qs.map SV.dl)
theorem frzs_dll (qs : List (List PyData)) : SV.frzs (qs.map SV.dl) = some (qs.map .list) := by
  induction qs with
  | nil => rfl
  | cons q qs ih =>
    show (match SV.frz (SV.dl q), SV.frzs (qs.map SV.dl) with | some p, some ps => some (p :: ps) | _, _ => none) = _
    rw [frz_dl, ih]
    rfl
@[simp] theorem frF_dll (qs : List (List PyData)) : frF (SV.dll qs) = .ok (.d (.list (qs.map .list))) := by
  unfold frF
  show (match (SV.frzs (qs.map SV.dl)).map (fun ps => FV.d (.list ps)) with | some x => Res.ok x | none => .bad) = _
  rw [frzs_dll]
  rfl
@[simp] theorem lstP_own (i : Nat) (ps : List Pst) (xs : List SV) : lstP (i, ps, .own xs) = .ok (i, ps, .own xs) := rfl
@[simp] theorem lstP_dl (i : Nat) (ps : List Pst) (ds : List PyData) : lstP (i, ps, SV.dl ds) = .ok (i, ps, SV.dl ds) := rfl
@[simp] theorem lstP_dll (i : Nat) (ps : List Pst) (ds : List (List PyData)) : lstP (i, ps, SV.dll ds) = .ok (i, ps, SV.dll ds) := rfl
@[simp] theorem dv_va (s : SV) : dv (.va s) = .va s := rfl
@[simp] theorem dv_rf (s : SV) : dv (.rf s) = .rf s := rfl
@[simp] theorem dv_vw (s : SV) : dv (.vw s) = .no := rfl
@[simp] theorem dv_no : dv .no = .no := rfl
@[simp] theorem free_dv (s : Slot) : free (dv s) = free s := by cases s <;> rfl
theorem tree_va {e : Env} {i : Nat} {s : SV} (h : e[i]? = some (.va s)) : tree e i = some (.va, s) := by unfold tree; rw [h]
@[simp] theorem vSetI_ap (f : Env → Res Plc) (g : FD) (h : FO) (e : Env) : vSetI f g h e = ofR (h e) e fun s => ofR ((f e).bind lstP) e fun x => ofR (g e) e fun k => setI1 e x s k := rfl
@[simp] theorem setI_dl {e : Env} {i : Nat} {ds : List PyData} {k : Int} {p : PyData} (h : e[i]? = some (.va (SV.dl ds))) (h0 : 0 ≤ k) (h1 : k < ds.length) : setI1 e (i, [], SV.dl ds) (.f (.d p)) (.int k) = .nx ((e.map dv).set i (.va (SV.dl (ds.set k.toNat p)))) := by
  show (match ixN (ds.map fun p => SV.f (.d p)).length k with | some j => (match putP e (i, [], SV.dl ds) ((ds.map fun p => SV.f (.d p)).set j (.f (.d p))) with | some e => Flow.nx e | none => .bad) | none => .bad) = _
  have hx : ixN (ds.map fun p => SV.f (.d p)).length k = some k.toNat := by
    unfold ixN
    rw [if_pos h0, if_pos (by rw [List.length_map]; exact h1)]
  rw [hx]
  dsimp only
  unfold putP
  rw [tree_va h]
  show Flow.nx ((e.map dv).set i (.va (.own ((ds.map fun p => SV.f (.d p)).set k.toNat (.f (.d p)))))) = _
  rw [show (ds.map fun p => SV.f (.d p)).set k.toNat (.f (.d p)) = (ds.set k.toNat p).map fun p => SV.f (.d p) from (List.map_set ..).symm]
  rfl
@[simp] theorem obind_ok {α β : Type} (a : α) (e : Env) (k : α → Env → Out β) : (Out.ok a e).bind k = k a e := rfl
@[simp] theorem obind_err {α β : Type} (c : Str) (k : α → Env → Out β) : (Out.err c : Out α).bind k = .err c := rfl
@[simp] theorem oR_ok {α β : Type} (a : α) (k : α → Out β) : oR (.ok a) k = k a := rfl
@[simp] theorem oR_err {α β : Type} (c : Str) (k : α → Out β) : oR (.err c : Res α) k = .err c := rfl
@[simp] theorem ofO_ok {α : Type} (a : α) (e env : Env) (k : α → Env → Flow) : ofO (.ok a e) env k = k a e := rfl
@[simp] theorem ofO_err {α : Type} (c : Str) (env : Env) (k : α → Env → Flow) : ofO (.err c : Out α) env k = .err c (env.map keepF) := rfl
@[simp] theorem vEx_ap (f : FE) (e : Env) : vEx f e = ofO (f e) e fun _ e => .nx e := rfl
@[simp] theorem vSetE_ap (i : Nat) (f : FE) (e : Env) : vSetE i f e = ofO (f e) e fun s e => setS e i (.va s) := rfl
@[simp] theorem vRetE_ap (f : FE) (e : Env) : vRetE f e = ofO (f e) e fun s e => .rt s e := rfl
@[simp] theorem eO_ap (f : FO) (e : Env) : eO f e = oR (f e) fun s => .ok s e := rfl
@[simp] theorem vApp_ap (f : Env → Res Plc) (g : FO) (e : Env) : vApp f g e = oR ((f e).bind lstP) fun x => oR (g e) fun s => vApp1 e x s := rfl
@[simp] theorem app_dl {e : Env} {i : Nat} {ds : List PyData} {p : PyData} (h : e[i]? = some (.va (SV.dl ds))) (hl : ds.length < 16777216) : vApp1 e (i, [], SV.dl ds) (.f (.d p)) = .ok (.f (.d .none)) ((e.map dv).set i (.va (SV.dl (ds ++ [p])))) := by
  show cIf ((ds.map fun p => SV.f (.d p)).length < 16777216) (oE (.f (.d .none)) (putP e (i, [], SV.dl ds) ((ds.map fun p => SV.f (.d p)) ++ [.f (.d p)]))) .bad = _
  rw [cIf_pos (by rw [List.length_map]; exact hl)]
  unfold putP
  rw [tree_va h]
  show Out.ok (SV.f (.d .none)) ((e.map dv).set i (.va (.own ((ds.map fun p => SV.f (.d p)) ++ [.f (.d p)])))) = _
  rw [show (ds.map fun p => SV.f (.d p)) ++ [SV.f (.d p)] = (ds ++ [p]).map fun p => SV.f (.d p) by rw [List.map_append]; rfl]
  rfl
@[simp] theorem app_dll {e : Env} {i : Nat} {ds : List (List PyData)} {p : List PyData} (h : e[i]? = some (.va (SV.dll ds))) (hl : ds.length < 16777216) : vApp1 e (i, [], SV.dll ds) (SV.dl p) = .ok (.f (.d .none)) ((e.map dv).set i (.va (SV.dll (ds ++ [p])))) := by
  show cIf ((ds.map SV.dl).length < 16777216) (oE (.f (.d .none)) (putP e (i, [], SV.dll ds) ((ds.map SV.dl) ++ [SV.dl p]))) .bad = _
  rw [cIf_pos (by rw [List.length_map]; exact hl)]
  unfold putP
  rw [tree_va h]
  show Out.ok (SV.f (.d .none)) ((e.map dv).set i (.va (.own ((ds.map SV.dl) ++ [SV.dl p])))) = _
  rw [show (ds.map SV.dl) ++ [SV.dl p] = (ds ++ [p]).map SV.dl by rw [List.map_append]; rfl]
  rfl
def fzA (i : Nat) (e : Env) : Res FV → Flow
  | .ok x => .nx (e.set i (.va (.f x)))
  | _ => .bad
@[simp] theorem fzA_ok (i : Nat) (e : Env) (x : FV) : fzA i e (.ok x) = .nx (e.set i (.va (.f x))) := rfl
def fzB (i : Nat) (e : Env) : Option Slot → Flow
  | some (.va s) => fzA i e (frF s)
  | some (.rf s) => (match frF s with | .ok x => .nx (e.set i (.rf (.f x))) | _ => .bad)
  | _ => .bad
@[simp] theorem fzB_va (i : Nat) (e : Env) (s : SV) : fzB i e (some (.va s)) = fzA i e (frF s) := rfl
@[simp] theorem vFrz_ap (i : Nat) (e : Env) : vFrz i [] e = fzB i e e[i]? := by
  unfold vFrz frzE tree fzB fzA frF
  cases e[i]? with
  | none => rfl
  | some sl =>
    cases sl with
    | no => rfl
    | vw _ => rfl
    | va s => simp only [subS]; cases s.frz? <;> rfl
    | rf s => simp only [subS]; cases s.frz? <;> rfl
@[simp] theorem vRetV_va (i : Nat) (e : Env) (s : SV) (h : e[i]? = some (.va s)) : vRetV i e = .rt s (e.set i .no) := by
  unfold vRetV; rw [h]
@[simp] theorem vDrop_ap (f : FO) (e : Env) : vDrop f e = ofR (f e) e fun _ => .nx e := rfl
@[simp] theorem ret_andThen {α : Type} (r : Res α) (e e' : Env) (k : α → SV) (g : ST) : (ofR r e fun a => Flow.rt (k a) e').andThen g = ofR r e fun a => Flow.rt (k a) e' := by cases r <;> rfl
def partI : PyData → Res (Option Int)
  | .int i => .ok (some i)
  | _ => .bad
@[simp] theorem partI_int (i : Int) : partI (.int i) = .ok (some i) := rfl
@[simp] theorem vNoPart_ap (e : Env) : vNoPart e = .ok none := rfl
@[simp] theorem vPart_ap (f : FD) (e : Env) : vPart f e = (f e).bind partI := by
  unfold vPart
  exact bind_congr _ fun x => by cases x <;> rfl
@[simp] theorem vSl_ap (f : FD) (lo hi : FI) (e : Env) : vSl f lo hi e = (f e).bind fun x => (lo e).bind fun l => (hi e).bind fun h => slP x l h := rfl
@[simp] theorem slP_l (ds : List PyData) (lo hi : Option Int) : slP (.list ds) lo hi = .ok (SV.dl (cutP ds lo hi)) := rfl
@[simp] theorem slP_t (ds : List PyData) (lo hi : Option Int) : slP (.tuple ds) lo hi = .ok (.f (.d (.tuple (cutP ds lo hi)))) := rfl
end VL

set_option Elab.async false
set_option linter.all false
set_option maxRecDepth 100000
set_option maxHeartbeats 4000000
namespace VL
open PySem PySem.Spec PyProof.Rows L2

def cellAt (ns : List Int) (k : Int) : Int := ns.getD k.toNat 0
@[simp] theorem run_cell (ns : List Int) (k : Int) (hk : 0 ≤ k) : run S__law_cell_at [.sc ns, .d (.int k)] = .ok (.d (.int (cellAt ns k))) := by
  unfold S__law_cell_at B__law_cell_at
  rw [run_mk]
  simp
  unfold cellAt
  split
  · rename_i h
    rw [atI_pos hk, List.getElem?_eq_getElem (by omega)]
    simp [show k.toNat < ns.length by omega]
  · rename_i h
    simp [List.getD, List.getElem?_eq_none (show ns.length ≤ k.toNat by omega)]
def mixM (c : Int) (k : Int) (m : Int) : Int := (c % 2147483647 + 12345) * (48271 + 6 * k) % 1000000007 / 7 % m
@[simp] theorem run_mix (c k m : Int) (hm : 0 < m) : run S__law_mix [.d (.int c), .d (.int k), .d (.int m)] = .ok (.d (.int (mixM c k m))) := by
  unfold S__law_mix B__law_mix
  rw [run_mk]
  simp (disch := first | rfl | assumption | omega | simp)
  rfl
theorem rngP_length (lo : Int) (n : Nat) : (rngP lo n).length = n := by unfold rngP; simp
theorem rngP_mem {lo : Int} {n : Nat} {x : PyData} (h : x ∈ rngP lo n) : ∃ i : Nat, i < n ∧ x = .int (lo + i) := by
  unfold rngP at h
  obtain ⟨i, m, rfl⟩ := List.mem_map.mp h
  exact ⟨i, List.mem_range.mp m, rfl⟩
def unI : PyData → Int
  | .int i => i
  | _ => 0
@[simp] theorem unI_int (i : Int) : unI (.int i) = i := rfl
def numbersM (c : Int) (many : Nat) (m : Int) : List Int := (List.range many).map fun (k : Nat) => mixM c (3 * (k : Int)) m
@[simp] theorem run_numbers (c many m : Int) (hm : 0 < m) (h0 : 0 ≤ many) (hl : many ≤ 1000) : run S__law_numbers [.d (.int c), .d (.int many), .d (.int m)] = .ok (.d (.list ((numbersM c many.toNat m).map .int))) := by
  unfold S__law_numbers B__law_numbers
  rw [run_mk, vRet_ap, fin_ret]
  rw [comp_map (items := rngP 0 many.toNat) (fun x => .int (mixM c (3 * unI x) m))]
  · unfold numbersM rngP
    simp [Function.comp_def]
  · simp (disch := first | rfl | assumption | omega | simp)
  · rw [rngP_length]; omega
  · intro x hx
    obtain ⟨i, hi, rfl⟩ := rngP_mem hx
    refine ⟨_, gN_ap (t := .no) rfl rfl, ?_⟩
    simp (disch := first | rfl | assumption | omega | simp)
theorem numbersM_length (c : Int) (many : Nat) (m : Int) : (numbersM c many m).length = many := by unfold numbersM; simp
@[simp] theorem run_whole_i (i : Int) : run S__law_whole [.d (.int i)] = .ok (.d (.bool true)) := by
  unfold S__law_whole B__law_whole
  rw [run_mk]
  simp
theorem zip_ints : ∀ a b : List Int, zipP (a.map .int) (b.map .int) = (a.zip b).map fun x => .tuple [.int x.1, .int x.2]
  | [], _ => rfl
  | _ :: _, [] => rfl
  | x :: a, y :: b => by
    show PyData.tuple [.int x, .int y] :: zipP (a.map .int) (b.map .int) = _
    rw [zip_ints a b]; rfl
theorem row_loop (A B : Slot) : ∀ (a : List Int) (s2 s3 : Slot), free s2 = true → free s3 = true →
    ∃ t2 t3, forL (gT 2 (gsC (gN 2) (gsC (gN 3) gsN))) (vIfS (vOrT (vNotT (toT (frO (vCall S__law_whole (aC (vVar 2) aN))))) (toT (vCmp .ne (vVarD 2) (vVarD 3)))) (vRetP (vC (.bool false))) vSkip) ((a.zip a).map fun x => .tuple [.int x.1, .int x.2]) [A, B, s2, s3] = .nx [A, B, t2, t3]
  | [], s2, s3, _, _ => ⟨s2, s3, rfl⟩
  | x :: a, s2, s3, h2, h3 => by
    obtain ⟨t2, t3, e⟩ := row_loop A B a (.va (.f (.d (.int x)))) (.va (.f (.d (.int x)))) rfl rfl
    refine ⟨t2, t3, ?_⟩
    rw [List.zip_cons_cons, List.map_cons, forL_cons, tgt_some (e1 := [A, B, .va (.f (.d (.int x))), .va (.f (.d (.int x)))]) (by simp [h2, h3])]
    simp
    exact e
@[simp] theorem run_row (a : List Int) : run S__law_row [.d (.list (a.map .int)), .d (.list (a.map .int))] = .ok (.d (.bool true)) := by
  unfold S__law_row B__law_row
  rw [run_mk]
  obtain ⟨t2, t3, e⟩ := row_loop (.va (.f (.d (.list (a.map .int))))) (.va (.f (.d (.list (a.map .int))))) a .no .no rfl rfl
  simp
  rw [zip_ints, e]
  simp
structure Tb (p h f : Int) : Prop where
  pr : p ∈ ([5, 7, 11, 13, 17, 19, 23, 29, 31] : List Int)
  h3 : 3 ≤ h
  h7 : h ≤ 7
  hp : h < p
  f1 : 1 ≤ f
  f2 : f ≤ 2
  fh : 2 * f < h
theorem Tb.pos {p h f : Int} (t : Tb p h f) : 5 ≤ p ∧ p ≤ 31 := by
  have := t.pr
  simp only [List.mem_cons, List.not_mem_nil, or_false] at this
  omega
def runM (c : Str) (S : Fn) (xs : List FV) : Res FV := (outM (S (.rf (.obj c []) :: xs.map vaF))).bind frF
@[simp] theorem vMake_fr (c : Str) (S : Fn) (fs : Env → Res (List FV)) (e : Env) : (vMake c S fs e).bind frF = (fs e).bind (runM c S) := by
  unfold vMake runM
  rw [bind_assoc]
def finM : Flow → Res FV
  | .rt (.f (.d .none)) (.rf s :: _) => frF s
  | .nx (.rf s :: _) => frF s
  | .err c _ => .err c
  | _ => .bad
theorem runM_mk (c : Str) (nl : Nat) (body : ST) (xs : List FV) : runM c (mkFn nl body) xs = finM (body (.rf (.obj c []) :: (xs.map vaF ++ List.replicate nl .no))) := by
  unfold runM mkFn
  show (outM (match body (.rf (.obj c []) :: (xs.map vaF ++ List.replicate nl .no)) with | .rt s e => .ret s (backA _ e) | .nx e => .ret (.f (.d .none)) (backA _ e) | .err c _ => .exc c | .bad => .bad)).bind frF = _
  cases body (.rf (.obj c []) :: (xs.map vaF ++ List.replicate nl .no)) with
  | nx e =>
    cases e with
    | nil => rfl
    | cons s e => cases s <;> rfl
  | rt v e =>
    cases v with
    | f x =>
      cases x with
      | d p =>
        cases p with
        | none => cases e with
          | nil => rfl
          | cons s e => cases s <;> rfl
        | _ => cases e <;> rfl
      | _ => cases e <;> rfl
    | _ => cases e <;> rfl
  | err c e => rfl
  | bad => rfl
theorem run_table (p h f : Int) (t : Tb p h f) : runM "Table" S_Table___init__ [.d (.int p), .d (.int h), .d (.int f)] = .ok (tbl p h f) := by
  unfold S_Table___init__ B_Table___init__
  rw [runM_mk]
  have h1 := t.pr
  have h2 := t.h3
  have h3 := t.h7
  have h4 := t.hp
  have h5 := t.f1
  have h6 := t.f2
  have h7 := t.fh
  rw [vSeq_ap]
  rw [show (vIfS (vOrT (toT (vCmp .notin (vVarD 1) (toD (vC (.tuple (([5, 7, 11, 13, 17, 19, 23, 29, 31] : List Int).map .int)))))) (vOrT (vNotT (toT (vChain .le .le (toD (vC (.int 3))) (vVarD 2) (toD (vC (.int 7)))))) (toT (vCmp .ge (vVarD 2) (vVarD 1))))) (vRaise "BadTable") vSkip)
    (.rf (.obj "Table" []) :: ([FV.d (.int p), .d (.int h), .d (.int f)].map vaF ++ List.replicate 0 .no)) = .nx (.rf (.obj "Table" []) :: ([FV.d (.int p), .d (.int h), .d (.int f)].map vaF ++ List.replicate 0 .no)) from ?_]
  · rw [andThen_nx, vSeq_ap]
    rw [show (vIfS (vOrT (vNotT (toT (vChain .le .le (toD (vC (.int 1))) (vVarD 3) (toD (vC (.int 2)))))) (toT (vCmp .ge (frD (v2 mulV (toD (vC (.int 2))) (vVarD 3))) (vVarD 2)))) (vRaise "BadTable") vSkip)
      (.rf (.obj "Table" []) :: ([FV.d (.int p), .d (.int h), .d (.int f)].map vaF ++ List.replicate 0 .no)) = .nx (.rf (.obj "Table" []) :: ([FV.d (.int p), .d (.int h), .d (.int f)].map vaF ++ List.replicate 0 .no)) from ?_]
    · rfl
    · simp (disch := first | rfl | assumption | omega | simp) [h5, h6]
      omega
  · have hr : ∀ e : Env, e[1]? = some (.va (.f (.d (.int p)))) → vCmp .notin (vVarD 1) (toD (vC (.tuple (([5, 7, 11, 13, 17, 19, 23, 29, 31] : List Int).map .int)))) e = .ok (.d (.bool false)) := fun e he => by
      rw [vCmp_ap, vVarD_ap, he, ldD_va, ldS_f, bind_ok, toD_ap, vC_ap, bind_ok, dOf_d, bind_ok, cop_notin_tints, decide_eq_true h1]
      rfl
    rw [vIfS_ap, vOrT_ap, toT_ap, hr _ rfl]
    simp (disch := first | rfl | assumption | omega | simp) [h2, h3]
    omega
def tabP (c : Int) : Int := ([5, 7, 11, 13, 17, 19, 23, 29, 31] : List Int).getD (c % 9).toNat 0
def tabH (c : Int) : Int := 3 + c / 9 % ((if tabP c - 1 < 7 then tabP c - 1 else 7) - 2)
def tabF (c : Int) : Int := if 4 < tabH c ∧ c / 45 % 2 = 1 then 2 else 1
theorem tabP_at (c : Int) : atI ([.int 5, .int 7, .int 11, .int 13, .int 17, .int 19, .int 23, .int 29, .int 31] : List PyData) (c % 9) = some (.int (tabP c)) := by
  have h0 : 0 ≤ c % 9 := Int.emod_nonneg _ (by omega)
  have h9 : c % 9 < 9 := Int.emod_lt_of_pos _ (by omega)
  rw [atI_pos h0]
  unfold tabP
  have : (c % 9).toNat < 9 := by omega
  generalize (c % 9).toNat = k at this
  match k, this with
  | 0, _ => rfl
  | 1, _ => rfl
  | 2, _ => rfl
  | 3, _ => rfl
  | 4, _ => rfl
  | 5, _ => rfl
  | 6, _ => rfl
  | 7, _ => rfl
  | 8, _ => rfl
theorem tab_ok (c : Int) : Tb (tabP c) (tabH c) (tabF c) := by
  have hp : tabP c ∈ ([5, 7, 11, 13, 17, 19, 23, 29, 31] : List Int) := by
    unfold tabP
    have h0 : 0 ≤ c % 9 := Int.emod_nonneg _ (by omega)
    have h9 : c % 9 < 9 := Int.emod_lt_of_pos _ (by omega)
    have : (c % 9).toNat < 9 := by omega
    generalize (c % 9).toNat = k at this
    match k, this with
    | 0, _ => decide
    | 1, _ => decide
    | 2, _ => decide
    | 3, _ => decide
    | 4, _ => decide
    | 5, _ => decide
    | 6, _ => decide
    | 7, _ => decide
    | 8, _ => decide
  have h5 : 5 ≤ tabP c ∧ tabP c ≤ 31 := by
    simp only [List.mem_cons, List.not_mem_nil, or_false] at hp
    omega
  have hm : 0 < (if tabP c - 1 < 7 then tabP c - 1 else 7) - 2 := by split <;> omega
  have a1 : 3 ≤ tabH c := by
    unfold tabH
    have := Int.emod_nonneg (c / 9) (show (if tabP c - 1 < 7 then tabP c - 1 else 7) - 2 ≠ 0 by omega)
    omega
  have a2 : tabH c < 3 + ((if tabP c - 1 < 7 then tabP c - 1 else 7) - 2) := by
    unfold tabH
    have := Int.emod_lt_of_pos (c / 9) hm
    omega
  refine ⟨hp, a1, ?_, ?_, ?_, ?_, ?_⟩
  · split at a2 <;> omega
  · split at a2 <;> omega
  · unfold tabF; split <;> omega
  · unfold tabF; split <;> omega
  · unfold tabF; split <;> omega
@[simp] theorem run_table_by (c : Int) : run S__law_table_by [.d (.int c)] = .ok (tbl (tabP c) (tabH c) (tabF c)) := by
  unfold S__law_table_by B__law_table_by
  rw [run_mk]
  have hm : 0 < (if tabP c - 1 < 7 then tabP c - 1 else 7) - 2 := by
    have := (tab_ok c).pos
    split <;> omega
  have hq := run_table _ _ _ (tab_ok c)
  simp (disch := first | rfl | assumption | omega | simp) [tabP_at]
  unfold tabH tabF at hq
  unfold tabH tabF
  by_cases h1 : 4 < 3 + c / 9 % ((if tabP c - 1 < 7 then tabP c - 1 else 7) - 2)
  · by_cases h2 : c / 45 % 2 = 1
    · simpa [h1, h2, tabH] using hq
    · simpa [h1, h2, tabH] using hq
  · simpa [h1, tabH] using hq
end VL

set_option Elab.async false
set_option linter.all false
set_option maxRecDepth 100000
set_option maxHeartbeats 4000000
namespace VL
open PySem PySem.Spec PyProof.Rows L2

theorem emm (a b p : Int) : a % p * b % p = a * b % p := by rw [Int.mul_emod, Int.emod_emod_of_dvd _ (Int.dvd_refl p), ← Int.mul_emod]
theorem map_rng (F : Int → Int) (lo : Int) (n : Nat) : (rngP lo n).map (fun x => PyData.int (F (unI x))) = ((List.range n).map fun (k : Nat) => F (lo + (k : Int))).map .int := by
  unfold rngP
  rw [List.map_map, List.map_map]
  rfl
def peval : List Int → Int → Int
  | [], _ => 0
  | a :: r, x => a + x * peval r x
def hornP (p x : Int) (t : Int) (ns : List Int) : Int := ns.foldl (fun t n => (t * x + n) % p) t
theorem hornP_rev (p x : Int) : ∀ ns : List Int, hornP p x 0 ns.reverse = peval ns x % p
  | [] => by simp [hornP, peval]
  | a :: ns => by
    unfold hornP
    rw [List.reverse_cons, List.foldl_append]
    show (List.foldl (fun t n => (t * x + n) % p) 0 ns.reverse * x + a) % p = _
    have e : List.foldl (fun t n => (t * x + n) % p) 0 ns.reverse = peval ns x % p := hornP_rev p x ns
    rw [e]
    show (peval ns x % p * x + a) % p = (a + x * peval ns x) % p
    rw [Int.add_emod, emm, ← Int.add_emod, Int.add_comm, Int.mul_comm]
theorem Tb.mul {p h f : Int} (t : Tb p h f) {a : Int} (h0 : 0 ≤ a) (h1 : a < p) : -18446744073709551616 < a ∧ a < 18446744073709551616 := by
  have := t.pos; omega
theorem worth_loop (T R A : Slot) (p h f x : Int) (hp : 0 < p) (hp2 : p < 1000) : ∀ (ns : List Int) (t : Int) (s4 : Slot), free s4 = true → 0 ≤ t → t < p →
    ∃ t4, free t4 = true ∧ forL (gN 4) (vSet 3 (v2 modI (frD (v2 addV (frD (v2 mulV (vVarD 3) (vVarD 2))) (vVarD 4))) (toD (vFld "Table" "prime" (vVar 0))))) (ns.map .int) [.va (.f (tbl p h f)), R, .va (.f (.d (.int x))), .va (.f (.d (.int t))), s4]
      = .nx [.va (.f (tbl p h f)), R, .va (.f (.d (.int x))), .va (.f (.d (.int (hornP p x t ns)))), t4]
  | [], t, s4, h4, _, _ => ⟨s4, h4, rfl⟩
  | n :: ns, t, s4, h4, t0, t1 => by
    obtain ⟨t4, f4, e⟩ := worth_loop T R A p h f x hp hp2 ns ((t * x + n) % p) (.va (.f (.d (.int n)))) rfl (Int.emod_nonneg _ (by omega)) (Int.emod_lt_of_pos _ hp)
    refine ⟨t4, f4, ?_⟩
    rw [List.map_cons, forL_cons, tgt_some (gN_ap (t := s4) rfl h4)]
    simp (disch := first | rfl | assumption | omega | simp)
    exact e
@[simp] theorem run_worth (p h f x : Int) (ns : List Int) (hp : 0 < p) (hp2 : p < 1000) : run S_worth [tbl p h f, .d (.list (ns.map .int)), .d (.int x)] = .ok (.d (.int (peval ns x % p))) := by
  unfold S_worth B_worth
  rw [run_mk]
  obtain ⟨t4, f4, e⟩ := worth_loop .no (.va (.f (.d (.list (ns.map .int))))) .no p h f x hp hp2 ns.reverse 0 .no rfl (Int.le_refl _) hp
  rw [List.map_reverse] at e
  simp
  rw [e]
  simp [hornP_rev]
theorem lworth_loop (R : Slot) (p x : Int) (hp : 0 < p) (hp2 : p < 1000) : ∀ (ns : List Int) (t q : Int) (s5 : Slot), free s5 = true → 0 ≤ t → t < p → 0 ≤ q → q < p →
    ∃ t4 t5, forL (gN 5) (vSeq (vSet 3 (v2 modI (frD (v2 addV (vVarD 3) (frD (v2 mulV (vVarD 5) (vVarD 4))))) (vVarD 0)))
  (vSet 4 (v2 modI (frD (v2 mulV (vVarD 4) (vVarD 2))) (vVarD 0)))) (ns.map .int) [.va (.f (.d (.int p))), R, .va (.f (.d (.int x))), .va (.f (.d (.int t))), .va (.f (.d (.int q))), s5]
      = .nx [.va (.f (.d (.int p))), R, .va (.f (.d (.int x))), .va (.f (.d (.int ((t + q * peval ns x) % p)))), t4, t5]
  | [], t, q, s5, h5, t0, t1, q0, q1 => ⟨_, s5, by
    show Flow.nx _ = _
    rw [show peval [] x = 0 from rfl, Int.mul_zero, Int.add_zero, Int.emod_eq_of_lt t0 t1]⟩
  | n :: ns, t, q, s5, h5, t0, t1, q0, q1 => by
    obtain ⟨t4, t5, e⟩ := lworth_loop R p x hp hp2 ns ((t + n * q) % p) (q * x % p) (.va (.f (.d (.int n)))) rfl (Int.emod_nonneg _ (by omega)) (Int.emod_lt_of_pos _ hp) (Int.emod_nonneg _ (by omega)) (Int.emod_lt_of_pos _ hp)
    refine ⟨t4, t5, ?_⟩
    rw [List.map_cons, forL_cons, tgt_some (gN_ap (t := s5) rfl h5)]
    simp (disch := first | rfl | assumption | omega | simp)
    rw [e]
    have k : ((t + n * q) % p + q * x % p * peval ns x) % p = (t + q * peval (n :: ns) x) % p := by
      rw [Int.add_emod, Int.emod_emod_of_dvd _ (Int.dvd_refl p), emm, ← Int.add_emod]
      congr 1
      show _ = t + q * (n + x * peval ns x)
      grind
    rw [k]
@[simp] theorem run_lworth (p x : Int) (ns : List Int) (hp : 1 < p) (hp2 : p < 1000) : run S__law_worth [.d (.int p), .d (.list (ns.map .int)), .d (.int x)] = .ok (.d (.int (peval ns x % p))) := by
  unfold S__law_worth B__law_worth
  rw [run_mk]
  obtain ⟨t4, t5, e⟩ := lworth_loop (.va (.f (.d (.list (ns.map .int))))) p x (by omega) hp2 ns 0 1 .no rfl (Int.le_refl _) (by omega) (by omega) hp
  simp
  rw [e]
  simp
def dealtM (p h n : Int) (ch : List Int) : List Int := (List.range h.toNat).map fun (k : Nat) => peval (n :: ch) (1 + (k : Int)) % p
@[simp] theorem run_dealt (p h f n : Int) (ch : List Int) (hp : 0 < p) (hp2 : p < 1000) (h0 : 0 ≤ h) (h1 : h < 1000) (hl : ch.length < 10000) : run S_dealt [tbl p h f, .d (.int n), .d (.list (ch.map .int))] = .ok (.d (.list ((dealtM p h n ch).map .int))) := by
  unfold S_dealt B_dealt
  rw [run_mk, vRet_ap, fin_ret]
  have hw := fun x => run_worth p h f x (n :: ch) hp hp2
  rw [comp_map (items := rngP 1 h.toNat) (fun x => .int (peval (n :: ch) (unI x) % p))]
  · rw [map_rng fun x => peval (n :: ch) x % p]
    rfl
  · simp (disch := first | rfl | assumption | omega | simp)
  · rw [rngP_length]; omega
  · intro x hx
    obtain ⟨i, hi, rfl⟩ := rngP_mem hx
    refine ⟨_, gN_ap (t := .no) rfl rfl, ?_⟩
    have hw := hw (1 + (i : Int))
    rw [List.map_cons] at hw
    simp (disch := first | rfl | assumption | omega | simp) [hw]
theorem law_end {S : Fn} {x : FV} (h : run S [x] = .ok (.d (.bool true))) : ∃ a, S [.va (.f x)] = .ret (.f (.d (.bool true))) a := by
  unfold run at h
  cases z : S ([x].map vaF) with
  | ret s a =>
    rw [z] at h
    have h' : frF s = .ok (.d (.bool true)) := h
    cases s with
    | f y =>
      cases h'
      exact ⟨a, z⟩
    | own xs =>
      have h2 : (match (SV.frzs xs).map (fun ps => FV.d (.list ps)) with | some x => Res.ok x | none => .bad) = Res.ok (FV.d (.bool true)) := h'
      cases q : SV.frzs xs with
      | none => rw [q] at h2; cases h2
      | some ps => rw [q] at h2; cases h2
    | otup xs =>
      have h2 : (match (SV.frzs xs).map (fun ps => FV.d (.tuple ps)) with | some x => Res.ok x | none => .bad) = Res.ok (FV.d (.bool true)) := h'
      cases q : SV.frzs xs with
      | none => rw [q] at h2; cases h2
      | some ps => rw [q] at h2; cases h2
    | obj c fs =>
      have h2 : (match (SV.frzf fs).map (fun ps => FV.ob c ps) with | some x => Res.ok x | none => .bad) = Res.ok (FV.d (.bool true)) := h'
      cases q : SV.frzf fs with
      | none => rw [q] at h2; cases h2
      | some ps => rw [q] at h2; cases h2
  | exc c => rw [z] at h; cases h
  | bad => rw [z] at h; cases h
end VL

set_option Elab.async false
set_option linter.all false
set_option maxRecDepth 100000
set_option maxHeartbeats 4000000
namespace VL
open PySem PySem.Spec PyProof.Rows L2

def Flow.wp (f : Flow) (P : Env → Prop) : Prop := match f with
  | .nx e => P e
  | _ => False
@[simp] theorem wp_nx (e : Env) (P : Env → Prop) : (Flow.nx e).wp P = P e := rfl
@[simp] theorem wp_andThen (f : Flow) (g : ST) (P : Env → Prop) : (f.andThen g).wp P = f.wp fun e => (g e).wp P := by cases f <;> rfl
@[simp] theorem wp_ite (c : Prop) [Decidable c] (a b : Flow) (P : Env → Prop) : (if c then a else b).wp P = if c then a.wp P else b.wp P := by split <;> rfl
theorem wp_imp {f : Flow} {P Q : Env → Prop} (h : f.wp P) (k : ∀ e, P e → Q e) : f.wp Q := by
  cases f with
  | nx e => exact k e h
  | _ => exact h.elim
def oW (o : Option Env) (P : Env → Prop) : Prop := match o with
  | some e => P e
  | none => False
@[simp] theorem oW_some (e : Env) (P : Env → Prop) : oW (some e) P = P e := rfl
theorem wp_for {g : Tgt} {b : ST} {P : Env → Prop} (I : Nat → Env → Prop) : ∀ {items : List PyData} {e : Env}, I 0 e → (∀ i x e, items[i]? = some x → I i e → oW (g x e) fun e1 => (b e1).wp (I (i + 1))) → (∀ e, I items.length e → P e) → (forL g b items e).wp P := by
  intro items
  induction items generalizing I with
  | nil => intro e h0 _ hk; exact hk e h0
  | cons x items ih =>
    intro e h0 hs hk
    have h1 := hs 0 x e rfl h0
    rw [forL_cons]
    unfold tgt
    cases z : g x e with
    | none => rw [z] at h1; exact h1.elim
    | some e1 =>
      rw [z] at h1
      have h2 : (b e1).wp (I 1) := h1
      dsimp only
      rw [wp_andThen]
      refine wp_imp h2 fun e2 h3 => ?_
      exact ih (fun i => I (i + 1)) h3 (fun i y e hy hi => hs (i + 1) y e (by simpa using hy) hi) hk
theorem fin_wp {f : Flow} {k : ST} {R : Res FV} (h : f.wp fun e => fin (k e) = R) : fin (f.andThen k) = R := by
  cases f with
  | nx e => exact h
  | _ => exact h.elim
theorem rng_get {lo : Int} {n i : Nat} {x : PyData} (h : (rngP lo n)[i]? = some x) : i < n ∧ x = .int (lo + i) := by
  have hi : i < n := by rw [← rngP_length lo n]; exact (List.getElem?_eq_some_iff.mp h).1
  refine ⟨hi, ?_⟩
  unfold rngP at h
  rw [List.getElem?_map, List.getElem?_range hi] at h
  exact (Option.some.inj h).symm
theorem enum_get {ds : List PyData} {i : Nat} {x : PyData} (h : (enumP 0 ds)[i]? = some x) : ∃ d, ds[i]? = some d ∧ x = .tuple [.int i, d] := by
  rw [enumP_get] at h
  cases z : ds[i]? with
  | none => rw [z] at h; cases h
  | some d => rw [z] at h; rw [Nat.zero_add] at h; exact ⟨d, rfl, (Option.some.inj h).symm⟩
def bkI (p n : Int) : Nat → Int
  | 0 => 1
  | k + 1 => bkI p n k * n % p
def bk (p n : Int) : Int := bkI p n (p - 2).toNat
theorem bkI_lt {p n : Int} (hp : 1 < p) : ∀ k, 0 ≤ bkI p n k ∧ bkI p n k < p
  | 0 => ⟨by show (0 : Int) ≤ 1; omega, hp⟩
  | k + 1 => ⟨Int.emod_nonneg _ (by omega), Int.emod_lt_of_pos _ (by omega)⟩
theorem bk_lt {p n : Int} (hp : 1 < p) : 0 ≤ bk p n ∧ bk p n < p := bkI_lt hp _
theorem run_back (p h f n : Int) (hp : 2 < p) (hp2 : p < 1000) (hn : n ≠ 0) (hn0 : 0 ≤ n) (hn1 : n < p) : run S_back [tbl p h f, .d (.int n)] = .ok (.d (.int (bk p n))) := by
  unfold S_back B_back
  rw [run_mk]
  simp (disch := first | rfl | assumption | omega | simp [*]) [hn]
  refine fin_wp (wp_for (fun i e => ∃ s, free s = true ∧ e = [.va (.f (tbl p h f)), .va (.f (.d (.int n))), .va (.f (.d (.int (bkI p n i)))), s]) ⟨.no, rfl, rfl⟩ ?_ ?_)
  · rintro i x e hx ⟨s, hs, rfl⟩
    have hb := bkI_lt (n := n) (show 1 < p by omega) i
    simp (disch := first | rfl | assumption | omega | simp [*]) [hs]
    rfl
  · rintro e ⟨s, hs, rfl⟩
    rw [rngP_length]
    simp
    rfl
theorem bk_all : ∀ p ∈ ([5, 7, 11, 13, 17, 19, 23, 29, 31] : List Int), ∀ n ∈ List.range 31, 0 < n → (n : Int) < p → bk p n * n % p = 1 := by decide +kernel
theorem bk_ok {p h f n : Int} (t : Tb p h f) (h0 : 0 < n) (h1 : n < p) : bk p n * n % p = 1 := by
  have tp := t.pos
  have := bk_all p t.pr n.toNat (List.mem_range.mpr (by omega)) (by omega) (by omega)
  rwa [show ((n.toNat : Nat) : Int) = n by omega] at this
end VL

set_option Elab.async false
set_option linter.all false
set_option maxRecDepth 100000
set_option maxHeartbeats 4000000
namespace VL
open PySem PySem.Spec PyProof.Rows L2
def runO (S : Fn) (xs : List FV) : Res SV := outR (S (xs.map vaF))
theorem vCall_raw (S : Fn) (fs : Env → Res (List FV)) (e : Env) : vCall S fs e = (fs e).bind (runO S) := rfl
theorem run_runO (S : Fn) (xs : List FV) : run S xs = (runO S xs).bind frF := rfl
theorem frF_own (xs : List SV) : frF (.own xs) = match SV.frzs xs with | some ds => .ok (.d (.list ds)) | none => .bad := by
  unfold frF
  show (match (SV.frzs xs).map (fun ps => FV.d (.list ps)) with | some x => Res.ok x | none => .bad) = _
  cases SV.frzs xs <;> rfl
theorem frF_flat {s : SV} {p : PyData} (hp : flatP p = true) (h : frF s = .ok (.d p)) : s = .f (.d p) := by
  cases s with
  | f x => cases h; rfl
  | own xs =>
    rw [frF_own] at h
    cases z : SV.frzs xs with
    | none => rw [z] at h; cases h
    | some ds => rw [z] at h; cases h; cases hp
  | otup xs =>
    have h' : (match (SV.frzs xs).map (fun ps => FV.d (.tuple ps)) with | some x => Res.ok x | none => .bad) = Res.ok (.d p) := h
    cases z : SV.frzs xs with
    | none => rw [z] at h'; cases h'
    | some ds => rw [z] at h'; cases h'; cases hp
  | obj c fs =>
    have h' : (match (SV.frzf fs).map (fun ps => FV.ob c ps) with | some x => Res.ok x | none => .bad) = Res.ok (.d p) := h
    cases z : SV.frzf fs with
    | none => rw [z] at h'; cases h'
    | some ds => rw [z] at h'; cases h'
theorem runO_flat {S : Fn} {xs : List FV} {p : PyData} (hp : flatP p = true) (h : run S xs = .ok (.d p)) : runO S xs = .ok (.f (.d p)) := by
  rw [run_runO] at h
  cases z : runO S xs with
  | ok s => rw [z] at h; rw [frF_flat hp h]
  | err c => rw [z] at h; cases h
  | bad => rw [z] at h; cases h
theorem compL_dl {g : Tgt} {elt : FO} {e : Env} (F : PyData → PyData) : ∀ {items : List PyData}, (∀ x ∈ items, ∃ e1, g x e = some e1 ∧ elt e1 = .ok (.f (.d (F x)))) → compL g vYes elt e items = .ok ((items.map F).map fun p => .f (.d p))
  | [], _ => rfl
  | x :: items, h => by
    obtain ⟨e1, h1, h2⟩ := h x List.mem_cons_self
    show (match g x e with | none => Res.bad | some e1 => (noE (vYes e1)).bind fun b => if b = true then (noE (elt e1)).bind fun y => (compL g vYes elt e items).bind fun ys => .ok (y :: ys) else compL g vYes elt e items) = _
    rw [h1]
    dsimp only
    rw [vYes_ap, noE_ok', bind_ok, if_pos rfl, h2, noE_ok', bind_ok, compL_dl F fun y m => h y (List.mem_cons_of_mem _ m)]
    rfl
theorem comp_dl {it : IT} {g : Tgt} {elt : FO} {vs : List Nat} {e : Env} {items : List PyData} (F : PyData → PyData) (hi : it e = .ok items) (hl : items.length ≤ 16777216)
    (h : ∀ x ∈ items, ∃ e1, g x (wipeE e vs) = some e1 ∧ elt e1 = .ok (.f (.d (F x)))) : vComp it g vYes elt vs e = .ok (SV.dl (items.map F)) := by
  rw [vComp_ap, hi, bind_ok, cIf_pos hl, compL_dl F h, bind_ok]
  rfl
def finO : Flow → Res SV
  | .rt s _ => .ok s
  | .nx _ => .ok (.f (.d .none))
  | .err c _ => .err c
  | .bad => .bad
@[simp] theorem finO_rt (s : SV) (e : Env) : finO (.rt s e) = .ok s := rfl
@[simp] theorem finO_err (c : Str) (e : Env) : finO (.err c e) = .err c := rfl
theorem runO_mk (nl : Nat) (body : ST) (xs : List FV) : runO (mkFn nl body) xs = finO (body (xs.map vaF ++ List.replicate nl .no)) := by
  unfold runO mkFn
  cases body (xs.map vaF ++ List.replicate nl .no) <;> rfl
@[simp] theorem finO_ret (r : Res SV) (e : Env) : finO (ofR r e fun s => .rt s e) = r := by cases r <;> rfl
@[simp] theorem finO_ite (c : Prop) [Decidable c] (a b : Flow) : finO (if c then a else b) = if c then finO a else finO b := by split <;> rfl
theorem run_ofO {S : Fn} {xs : List FV} {s : SV} {x : FV} (h : runO S xs = .ok s) (hs : frF s = .ok x) : run S xs = .ok x := by
  rw [run_runO, h, bind_ok, hs]
@[simp] theorem runO_numbers (c many m : Int) (hm : 0 < m) (h0 : 0 ≤ many) (hl : many ≤ 1000) : runO S__law_numbers [.d (.int c), .d (.int many), .d (.int m)] = .ok (SV.dl ((numbersM c many.toNat m).map .int)) := by
  unfold S__law_numbers B__law_numbers
  rw [runO_mk, vRet_ap, finO_ret]
  rw [comp_dl (items := rngP 0 many.toNat) (fun x => .int (mixM c (3 * unI x) m))]
  · unfold numbersM rngP
    simp [Function.comp_def]
  · simp (disch := first | rfl | assumption | omega | simp [*])
  · rw [rngP_length]; omega
  · intro x hx
    obtain ⟨i, hi, rfl⟩ := rngP_mem hx
    refine ⟨_, gN_ap (t := .no) rfl rfl, ?_⟩
    rw [vCall_raw]
    simp (disch := first | rfl | assumption | omega | simp [*])
    exact runO_flat rfl (run_mix c (3 * (i : Int)) m hm)
end VL

set_option Elab.async false
set_option linter.all false
set_option maxRecDepth 100000
set_option maxHeartbeats 4000000
namespace VL
open PySem PySem.Spec PyProof.Rows L2

def Rng (p : Int) (F : List Int) : Prop := ∀ c ∈ F, 0 ≤ c ∧ c < p
theorem Rng.nth {p : Int} {F : List Int} (h : Rng p F) {i : Nat} {c : Int} (e : F[i]? = some c) : 0 ≤ c ∧ c < p := h c (List.mem_of_getElem? e)
theorem Rng.set {p : Int} {F : List Int} (h : Rng p F) {i : Nat} {c : Int} (hc : 0 ≤ c ∧ c < p) : Rng p (F.set i c) := fun d m => by
  rcases List.mem_or_eq_of_mem_set m with q | q
  · exact h d q
  · rw [q]; exact hc
theorem Rng.rep {p : Int} (hp : 0 < p) (n : Nat) : Rng p (List.replicate n 0) := fun d m => by
  rw [(List.mem_replicate.mp m).2]; omega
def Cg (p a b : Int) : Prop := ∃ k, a = b + p * k
theorem Cg.refl (p a : Int) : Cg p a a := ⟨0, by omega⟩
theorem Cg.emod (p a : Int) : Cg p (a % p) a := ⟨-(a / p), by have := Int.emod_add_mul_ediv a p; grind⟩
theorem Cg.symm {p a b : Int} (h : Cg p a b) : Cg p b a := by obtain ⟨k, h⟩ := h; exact ⟨-k, by grind⟩
theorem Cg.trans {p a b c : Int} (h : Cg p a b) (h' : Cg p b c) : Cg p a c := by
  obtain ⟨k, h⟩ := h; obtain ⟨j, h'⟩ := h'; exact ⟨k + j, by grind⟩
theorem Cg.add {p a b c d : Int} (h : Cg p a b) (h' : Cg p c d) : Cg p (a + c) (b + d) := by
  obtain ⟨k, h⟩ := h; obtain ⟨j, h'⟩ := h'; exact ⟨k + j, by grind⟩
theorem Cg.mul {p a b c d : Int} (h : Cg p a b) (h' : Cg p c d) : Cg p (a * c) (b * d) := by
  obtain ⟨k, h⟩ := h; obtain ⟨j, h'⟩ := h'; exact ⟨b * j + k * d + p * k * j, by grind⟩
theorem Cg.mod_eq {p a b : Int} (h : Cg p a b) : a % p = b % p := by
  obtain ⟨k, h⟩ := h
  rw [h, Int.add_mul_emod_self_left]
theorem Cg.of_mod {p a b : Int} (h : a % p = b % p) : Cg p a b := (Cg.emod p a).symm.trans (by rw [h]; exact Cg.emod p b)
theorem Cg.eq {p a b : Int} (h : Cg p a b) (ha : 0 ≤ a ∧ a < p) (hb : 0 ≤ b ∧ b < p) : a = b := by
  have := h.mod_eq
  rwa [Int.emod_eq_of_lt ha.1 ha.2, Int.emod_eq_of_lt hb.1 hb.2] at this
theorem peval_set (x : Int) : ∀ (F : List Int) (i : Nat) (c d : Int), F[i]? = some c → peval (F.set i d) x = peval F x + (d - c) * x ^ i
  | [], i, c, d, h => by simp at h
  | a :: F, 0, c, d, h => by
    have e : a = c := by simpa using h
    subst e
    show d + x * peval F x = a + x * peval F x + (d - a) * x ^ 0
    grind
  | a :: F, i + 1, c, d, h => by
    show a + x * peval (F.set i d) x = a + x * peval F x + (d - c) * x ^ (i + 1)
    rw [peval_set x F i c d (by simpa using h)]
    grind
theorem peval_rep (x : Int) : ∀ n, peval (List.replicate n 0) x = 0
  | 0 => rfl
  | n + 1 => by
    show 0 + x * peval (List.replicate n 0) x = 0
    rw [peval_rep x n]; grind
theorem peval_take (x : Int) : ∀ (R : List Int) (i : Nat) (c : Int), R[i]? = some c → peval (R.take (i + 1)) x = peval (R.take i) x + c * x ^ i
  | [], i, c, h => by simp at h
  | a :: R, 0, c, h => by
    have e : a = c := by simpa using h
    subst e
    show a + x * peval (R.take 0) x = 0 + a * x ^ 0
    rw [List.take_zero]
    show a + x * 0 = 0 + a * x ^ 0
    grind
  | a :: R, i + 1, c, h => by
    show a + x * peval (R.take (i + 1)) x = a + x * peval (R.take i) x + c * x ^ (i + 1)
    rw [peval_take x R i c (by simpa using h)]
    grind
theorem exO_wp {α : Type} {Q : α → Res SV → Prop} {f : Flow} {k : ST} (h : f.wp fun e => ∃ F, Q F (finO (k e))) : ∃ F, Q F (finO (f.andThen k)) := by
  cases f with
  | nx e => exact h
  | _ => exact h.elim
structure Prd (p : Int) (R O F : List Int) : Prop where
  len : F.length = R.length + O.length - 1
  rng : Rng p F
  val : ∀ x, Cg p (peval F x) (peval R x * peval O x)
theorem run_product (p h f : Int) (R O : List Int) (hp : 0 < p) (hp2 : p < 1000) (hR : 0 < R.length) (hR2 : R.length < 1000) (hO : 0 < O.length) (hO2 : O.length < 1000) (rR : ∀ c ∈ R, -1000000 < c ∧ c < 1000000) (rO : ∀ c ∈ O, -1000000 < c ∧ c < 1000000) :
    ∃ F, run S_product [tbl p h f, .d (.list (R.map .int)), .d (.list (O.map .int))] = .ok (.d (.list (F.map .int))) ∧ Prd p R O F := by
  have key : ∃ F, runO S_product [tbl p h f, .d (.list (R.map .int)), .d (.list (O.map .int))] = .ok (SV.dl (F.map .int)) ∧ Prd p R O F := by
    unfold S_product B_product
    rw [runO_mk]
    have hz : vSetO 3 (v2 mulV (frD (vLst (vCons (toD (vC (.int 0))) vNil))) (toD (v2 maxI (toD (vC (.int 0))) (toD (v2 subI (frD (v2 addV (toD (v1 lenP (vVarD 1))) (toD (v1 lenP (vVarD 2))))) (toD (vC (.int 1))))))))
        ([tbl p h f, FV.d (.list (R.map .int)), .d (.list (O.map .int))].map vaF ++ List.replicate 5 .no) = .nx [.va (.f (tbl p h f)), .va (.f (.d (.list (R.map .int)))), .va (.f (.d (.list (O.map .int)))), .va (SV.dl ((List.replicate (R.length + O.length - 1) (0 : Int)).map .int)), .no, .no, .no, .no] := by
      have e1 : (if 0 < (R.length : Int) + (O.length : Int) - 1 then (R.length : Int) + (O.length : Int) - 1 else 0) = ((R.length + O.length - 1 : Nat) : Int) := by
        rw [if_pos (by omega)]; omega
      have e2 : (List.replicate (R.length + O.length - 1) [PyData.int 0]).flatten = (List.replicate (R.length + O.length - 1) (0 : Int)).map .int := by
        rw [List.map_replicate]
        generalize R.length + O.length - 1 = n
        induction n with
        | zero => rfl
        | succ n ih => rw [List.replicate_succ, List.flatten_cons, ih, List.replicate_succ]; rfl
      simp (disch := first | rfl | assumption | omega | simp [*]) [e1, -List.map_replicate]
      rw [if_pos (by omega), List.map_replicate]
      congr 2
      omega
    rw [vSeq_ap, hz, andThen_nx, vSeq_ap, vFor_ap]
    have hit : vItEnum (toD (vVar 1)) [.va (.f (tbl p h f)), .va (.f (.d (.list (R.map .int)))), .va (.f (.d (.list (O.map .int)))), .va (SV.dl ((List.replicate (R.length + O.length - 1) (0 : Int)).map .int)), .no, .no, .no, .no] = .ok (enumP 0 (R.map .int)) := by simp
    rw [hit, ofR_ok]
    refine exO_wp (Q := fun F r => r = .ok (SV.dl (F.map .int)) ∧ Prd p R O F) (wp_for (fun j e => ∃ F s4 s5 s6 s7, free s4 = true ∧ free s5 = true ∧ free s6 = true ∧ free s7 = true ∧
      e = [.va (.f (tbl p h f)), .va (.f (.d (.list (R.map .int)))), .va (.f (.d (.list (O.map .int)))), .va (SV.dl (F.map .int)), s4, s5, s6, s7] ∧ F.length = R.length + O.length - 1 ∧ Rng p F ∧ ∀ x, Cg p (peval F x) (peval (R.take j) x * peval O x)) ?_ ?_ ?_)
    · exact ⟨List.replicate (R.length + O.length - 1) 0, .no, .no, .no, .no, rfl, rfl, rfl, rfl, rfl, List.length_replicate, Rng.rep hp _, fun x => by
        rw [peval_rep, List.take_zero]
        show Cg p 0 (0 * peval O x)
        rw [Int.zero_mul]
        exact Cg.refl _ _⟩
    · rintro j x e hx ⟨F, s4, s5, s6, s7, h4, h5, h6, h7, rfl, hl, hr, hv⟩
      obtain ⟨d, hd, rfl⟩ := enum_get hx
      rw [List.getElem?_map] at hd
      cases hj : R[j]? with
      | none => rw [hj] at hd; cases hd
      | some c =>
        rw [hj] at hd
        cases hd
        have jl : j < R.length := (List.getElem?_eq_some_iff.mp hj).1
        simp (disch := first | rfl | assumption | omega | simp [*])
        refine wp_for (fun k e => ∃ F s6 s7, free s6 = true ∧ free s7 = true ∧
          e = [.va (.f (tbl p h f)), .va (.f (.d (.list (R.map .int)))), .va (.f (.d (.list (O.map .int)))), .va (SV.dl (F.map .int)), .va (.f (.d (.int j))), .va (.f (.d (.int c))), s6, s7] ∧ F.length = R.length + O.length - 1 ∧ Rng p F ∧ ∀ x, Cg p (peval F x) (peval (R.take j) x * peval O x + c * x ^ j * peval (O.take k) x)) ?_ ?_ ?_
        · exact ⟨F, s6, s7, h6, h7, rfl, hl, hr, fun x => by
            rw [List.take_zero]
            show Cg p _ (_ + c * x ^ j * 0)
            rw [Int.mul_zero, Int.add_zero]
            exact hv x⟩
        · rintro k y e hy ⟨F, s6, s7, h6, h7, rfl, hl, hr, hv⟩
          obtain ⟨d, hd2, rfl⟩ := enum_get hy
          rw [List.getElem?_map] at hd2
          cases hk : O[k]? with
          | none => rw [hk] at hd2; cases hd2
          | some b =>
            rw [hk] at hd2
            cases hd2
            have kl : k < O.length := (List.getElem?_eq_some_iff.mp hk).1
            have il : j + k < F.length := by omega
            have hF : F[j + k]? = some F[j + k] := List.getElem?_eq_getElem il
            have hat : atI (F.map PyData.int) ((j : Int) + (k : Int)) = some (.int F[j + k]) := by
              rw [atI_pos (by omega), show ((j : Int) + (k : Int)).toNat = j + k by omega, List.getElem?_map, hF]
              rfl
            have hpl := plS_dl 3 [] (F.map .int) ((j : Int) + (k : Int)) _ hat
            have rc := rR c (List.mem_of_getElem? hj)
            have rb := rO b (List.mem_of_getElem? hk)
            have lenF : ((F.map PyData.int).length : Int) = F.length := by rw [List.length_map]
            simp (disch := first | rfl | assumption | omega | simp [*]) [hpl]
            refine ⟨F.set (j + k) ((F[j + k] + c * b) % p), _, rfl, _, rfl, ⟨?_, rfl, rfl⟩, ?_, ?_, fun x => ?_⟩
            · rw [show ((j : Int) + (k : Int)).toNat = j + k by omega, ← List.map_set]
            · rw [List.length_set]; exact hl
            · exact hr.set ⟨Int.emod_nonneg _ (by omega), Int.emod_lt_of_pos _ hp⟩
            · rw [peval_set x F (j + k) _ _ hF, peval_take x O k b hk]
              obtain ⟨q, hq⟩ := hv x
              obtain ⟨m, hm⟩ := Cg.emod p (F[j + k] + c * b)
              exact ⟨q + m * x ^ (j + k), by rw [hm, hq]; grind⟩
        · rintro e ⟨F, s6, s7, h6, h7, rfl, hl, hr, hv⟩
          refine ⟨F, _, rfl, _, rfl, s6, h6, s7, h7, rfl, hl, hr, fun x => ?_⟩
          have hv := hv x
          rw [enumP_length, List.length_map, List.take_length] at hv
          rw [peval_take x R j c hj]
          obtain ⟨q, hq⟩ := hv
          exact ⟨q, by rw [hq]; grind⟩
    · rintro e ⟨F, s4, s5, s6, s7, h4, h5, h6, h7, rfl, hl, hr, hv⟩
      refine ⟨F, ?_, hl, hr, fun x => ?_⟩
      · rw [vRetV_va (s := SV.dl (F.map .int)) 3 _ rfl]
        rfl
      · have hv := hv x
        rw [enumP_length, List.length_map, List.take_length] at hv
        exact hv
  obtain ⟨F, h1, h2⟩ := key
  exact ⟨F, run_ofO h1 (frF_dl _), h2⟩
end VL

set_option Elab.async false
set_option linter.all false
set_option maxRecDepth 100000
set_option maxHeartbeats 4000000
namespace VL
open PySem PySem.Spec PyProof.Rows L2

def Flow.wx (f : Flow) (c : Str) (E : Prop) (P : Env → Prop) : Prop := match f with
  | .nx e => P e
  | .err d _ => d = c ∧ E
  | _ => False
@[simp] theorem wx_nx (e : Env) (c : Str) (E : Prop) (P : Env → Prop) : (Flow.nx e).wx c E P = P e := rfl
@[simp] theorem wx_err (d : Str) (e : Env) (c : Str) (E : Prop) (P : Env → Prop) : (Flow.err d e).wx c E P = (d = c ∧ E) := rfl
@[simp] theorem wx_andThen (f : Flow) (g : ST) (c : Str) (E : Prop) (P : Env → Prop) : (f.andThen g).wx c E P = f.wx c E fun e => (g e).wx c E P := by cases f <;> rfl
@[simp] theorem wx_ite (b : Prop) [Decidable b] (x y : Flow) (c : Str) (E : Prop) (P : Env → Prop) : (if b then x else y).wx c E P = if b then x.wx c E P else y.wx c E P := by split <;> rfl
theorem wx_imp {f : Flow} {c : Str} {E : Prop} {P Q : Env → Prop} (h : f.wx c E P) (k : ∀ e, P e → Q e) : f.wx c E Q := by
  cases f with
  | nx e => exact k e h
  | err d e => exact h
  | _ => exact h.elim
theorem wx_for {g : Tgt} {b : ST} {c : Str} {E : Prop} {P : Env → Prop} (I : Nat → Env → Prop) : ∀ {items : List PyData} {e : Env}, I 0 e → (∀ i x e, items[i]? = some x → I i e → oW (g x e) fun e1 => (b e1).wx c E (I (i + 1))) → (∀ e, I items.length e → P e) → (forL g b items e).wx c E P := by
  intro items
  induction items generalizing I with
  | nil => intro e h0 _ hk; exact hk e h0
  | cons x items ih =>
    intro e h0 hs hk
    have h1 := hs 0 x e rfl h0
    rw [forL_cons]
    unfold tgt
    cases z : g x e with
    | none => rw [z] at h1; exact h1.elim
    | some e1 =>
      rw [z] at h1
      have h2 : (b e1).wx c E (I 1) := h1
      dsimp only
      rw [wx_andThen]
      refine wx_imp h2 fun e2 h3 => ?_
      exact ih (fun i => I (i + 1)) h3 (fun i y e hy hi => hs (i + 1) y e (by simpa using hy) hi) hk
theorem fin_wx' {f : Flow} {k : ST} {c : Str} {E : Prop} {P : Env → Prop} {G : Res FV → Prop} (h : f.wx c E P) (h1 : E → G (.err c)) (h2 : ∀ e, P e → G (fin (k e))) : G (fin (f.andThen k)) := by
  cases f with
  | nx e => exact h2 e h
  | err d e => rw [h.1]; exact h1 h.2
  | _ => exact h.elim
def ptsP (pts : List (Int × Int)) : List PyData := pts.map fun q => .tuple [.int q.1, .int q.2]
def DistX (pts : List (Int × Int)) : Prop := ∀ (j k : Nat) (q r : Int × Int), pts[j]? = some q → pts[k]? = some r → j ≠ k → q.1 ≠ r.1
structure Thr (p : Int) (pts : List (Int × Int)) (F : List Int) : Prop where
  len : F.length = pts.length
  rng : Rng p F
  val : ∀ q ∈ pts, Cg p (peval F q.1) q.2
theorem lin_val (p b far x : Int) : Cg p (peval [-b * far % p, far] x) ((x - b) * far) := by
  show Cg p (-b * far % p + x * (far + x * 0)) _
  obtain ⟨k, hk⟩ := Cg.emod p (-b * far)
  exact ⟨k, by rw [hk]; grind⟩
def addD (p : Int) : PyData → PyData
  | .tuple [.int a, .int b] => .int ((a + b) % p)
  | _ => .none
def addM (p : Int) (F R : List Int) : List Int := (F.zip R).map fun x => (x.1 + x.2) % p
theorem addM_length (p : Int) (F R : List Int) : (addM p F R).length = min F.length R.length := by unfold addM; simp
theorem addM_rng {p : Int} (hp : 0 < p) (F R : List Int) : Rng p (addM p F R) := fun c m => by
  obtain ⟨x, _, rfl⟩ := List.mem_map.mp m
  exact ⟨Int.emod_nonneg _ (by omega), Int.emod_lt_of_pos _ hp⟩
theorem addM_val (p x : Int) : ∀ (F R : List Int), F.length = R.length → Cg p (peval (addM p F R) x) (peval F x + peval R x)
  | [], [], _ => Cg.refl _ _
  | [], _ :: _, h => by cases h
  | _ :: _, [], h => by cases h
  | a :: F, b :: R, h => by
    have ih := addM_val p x F R (by simpa using h)
    obtain ⟨m, hm⟩ := ih
    obtain ⟨k, hk⟩ := Cg.emod p (a + b)
    refine ⟨k + x * m, ?_⟩
    show (a + b) % p + x * peval (addM p F R) x = a + x * peval F x + (b + x * peval R x) + p * (k + x * m)
    rw [hm, hk]
    grind
theorem run_through (p h f : Int) (t : Tb p h f) (pts : List (Int × Int)) (hl : pts.length < 900) (hX : ∀ q ∈ pts, 0 ≤ q.1 ∧ q.1 < p) (hY : ∀ q ∈ pts, -1000000 < q.2 ∧ q.2 < 1000000) :
    (¬ DistX pts ∧ run S_through [tbl p h f, .d (.list (ptsP pts))] = .err "AlikePoints") ∨ (DistX pts ∧ ∃ F, run S_through [tbl p h f, .d (.list (ptsP pts))] = .ok (.d (.list (F.map .int))) ∧ Thr p pts F) := by
  have tp := t.pos
  unfold S_through B_through
  rw [run_mk]
  have hz : vSet 2 (frO (v2 mulV (frD (vLst (vCons (toD (vC (.int 0))) vNil))) (toD (v1 lenP (vVarD 1))))) ([tbl p h f, FV.d (.list (ptsP pts))].map vaF ++ List.replicate 9 .no)
      = .nx [.va (.f (tbl p h f)), .va (.f (.d (.list (ptsP pts)))), .va (.f (.d (.list ((List.replicate pts.length (0 : Int)).map .int)))), .no, .no, .no, .no, .no, .no, .no, .no] := by
    have hn : (ptsP pts).length = pts.length := by unfold ptsP; rw [List.length_map]
    simp (disch := first | rfl | assumption | omega | simp [*]) [hn]
  rw [vSeq_ap, hz, andThen_nx, vSeq_ap, vFor_ap]
  have hit : vItEnum (toD (vVar 1)) [.va (.f (tbl p h f)), .va (.f (.d (.list (ptsP pts)))), .va (.f (.d (.list ((List.replicate pts.length (0 : Int)).map .int)))), .no, .no, .no, .no, .no, .no, .no, .no] = .ok (enumP 0 (ptsP pts)) := by simp
  rw [hit, ofR_ok]
  obtain ⟨I, hI⟩ : ∃ I : Nat → Env → Prop, ∀ j e, I j e ↔ ∃ F s3 s4 s5 s6 s7 s8, (free s3 = true ∧ free s4 = true ∧ free s5 = true ∧ free s6 = true ∧ free s7 = true ∧ free s8 = true) ∧
      e = [.va (.f (tbl p h f)), .va (.f (.d (.list (ptsP pts)))), .va (.f (.d (.list (F.map .int)))), s3, s4, s5, s6, s7, s8, .no, .no] ∧ F.length = pts.length ∧ Rng p F ∧ (∀ (i : Nat) (q : Int × Int), pts[i]? = some q → Cg p (peval F q.1) (if i < j then q.2 else 0)) ∧ (∀ (i k : Nat) (q r : Int × Int), i < j → pts[i]? = some q → pts[k]? = some r → i ≠ k → q.1 ≠ r.1) := ⟨_, fun _ _ => Iff.rfl⟩
  refine fin_wx' (G := fun r => (¬ DistX pts ∧ r = .err "AlikePoints") ∨ (DistX pts ∧ ∃ F, r = .ok (.d (.list (F.map .int))) ∧ Thr p pts F)) (c := "AlikePoints") (E := ¬ DistX pts) (P := I pts.length) (wx_for I ?_ ?_ ?_) ?_ ?_
  · exact (hI _ _).mpr ⟨List.replicate pts.length 0, .no, .no, .no, .no, .no, .no, ⟨rfl, rfl, rfl, rfl, rfl, rfl⟩, rfl, List.length_replicate, Rng.rep (by omega) _, fun i q _ => by
      rw [peval_rep, if_neg (by omega)]
      exact Cg.refl _ _, fun i k q r hi => absurd hi (by omega)⟩
  · intro j x e hx hI1
    obtain ⟨F, s3, s4, s5, s6, s7, s8, ⟨h3, h4, h5, h6, h7, h8⟩, rfl, hl, hr, hv, hd⟩ := (hI _ _).mp hI1
    obtain ⟨d, hd1, rfl⟩ := enum_get hx
    unfold ptsP at hd1
    rw [List.getElem?_map] at hd1
    cases hj : pts[j]? with
    | none => rw [hj] at hd1; cases hd1
    | some q =>
      rw [hj] at hd1
      cases hd1
      have jl : j < pts.length := (List.getElem?_eq_some_iff.mp hj).1
      have qx := hX q (List.mem_of_getElem? hj)
      have qy := hY q (List.mem_of_getElem? hj)
      have a0 : ∀ a b : Int, atI ([.int a, .int b] : List PyData) 0 = some (.int a) := fun a b => rfl
      have a1 : ∀ a b : Int, atI ([.int a, .int b] : List PyData) 1 = some (.int b) := fun a b => rfl
      obtain ⟨J, hJ⟩ : ∃ J : Nat → Env → Prop, ∀ k e, J k e ↔ ∃ R s6 s7 s8, (free s6 = true ∧ free s7 = true ∧ free s8 = true) ∧
        e = [.va (.f (tbl p h f)), .va (.f (.d (.list (ptsP pts)))), .va (.f (.d (.list (F.map .int)))), .va (.f (.d (.int j))), .va (.f (.d (.tuple [.int q.1, .int q.2]))), .va (.f (.d (.list (R.map .int)))), s6, s7, s8, .no, .no] ∧ R.length = (if j < k then k else k + 1) ∧ (∀ c ∈ R, -1000000 < c ∧ c < 1000000) ∧ Cg p (peval R q.1) q.2 ∧ (∀ (i : Nat) (r : Int × Int), i < k → i ≠ j → pts[i]? = some r → Cg p (peval R r.1) 0 ∧ q.1 ≠ r.1) := ⟨_, fun _ _ => Iff.rfl⟩
      simp (disch := first | rfl | assumption | omega | simp [*]) [a0, a1]
      refine wx_for J ?_ ?_ ?_
      · exact (hJ _ _).mpr ⟨[q.2], s6, s7, s8, ⟨h6, h7, h8⟩, rfl, by rw [if_neg (by omega)]; rfl, fun c m => by
          have e : c = q.2 := by simpa using m
          rw [e]; exact qy, by
          show Cg p (q.2 + q.1 * 0) q.2
          rw [Int.mul_zero, Int.add_zero]
          exact Cg.refl _ _, fun i r hi => absurd hi (by omega)⟩
      · intro k y e hy hJ1
        obtain ⟨R, s6, s7, s8, ⟨h6, h7, h8⟩, rfl, lR, rR, vR, zR⟩ := (hJ _ _).mp hJ1
        obtain ⟨d, hd2, rfl⟩ := enum_get hy
        unfold ptsP at hd2
        rw [List.getElem?_map] at hd2
        cases hk : pts[k]? with
        | none => rw [hk] at hd2; cases hd2
        | some r =>
          rw [hk] at hd2
          cases hd2
          have kl : k < pts.length := (List.getElem?_eq_some_iff.mp hk).1
          have rx := hX r (List.mem_of_getElem? hk)
          by_cases hkj : (k : Int) = (j : Int)
          · have ekj : k = j := by omega
            subst ekj
            rw [hj] at hk
            cases hk
            simp (disch := first | rfl | assumption | omega | simp [*]) [a0, a1]
            exact (hJ _ _).mpr ⟨R, _, _, s8, ⟨rfl, rfl, h8⟩, rfl, by rw [lR, if_neg (by omega), if_pos (by omega)], rR, vR, fun i r hi hne hr => zR i r (by omega) hne hr⟩
          · by_cases he : r.1 = q.1
            · simp (disch := first | rfl | assumption | omega | simp [*]) [a0, a1, hkj, he]
              exact fun D => D k j r q hk hj (by omega) he
            · have hdf : 0 < (q.1 - r.1) % p ∧ (q.1 - r.1) % p < p := by
                have b1 := Int.emod_nonneg (q.1 - r.1) (show p ≠ 0 by omega)
                have b2 := Int.emod_lt_of_pos (q.1 - r.1) (show 0 < p by omega)
                refine ⟨?_, b2⟩
                rcases Int.lt_or_eq_of_le b1 with z | z
                · exact z
                · exfalso
                  obtain ⟨m, hm⟩ := Int.dvd_of_emod_eq_zero z.symm
                  have m0 : m = 0 := by
                    rcases Int.lt_trichotomy m 0 with w | w | w
                    · have : p * m ≤ p * (-1) := Int.mul_le_mul_of_nonneg_left (by omega) (by omega)
                      omega
                    · exact w
                    · have : p * 1 ≤ p * m := Int.mul_le_mul_of_nonneg_left (by omega) (by omega)
                      omega
                  rw [m0] at hm
                  omega
              have hb := run_back p h f ((q.1 - r.1) % p) (by omega) (by omega) (by omega) (by omega) hdf.2
              have bl := bk_lt (p := p) (n := (q.1 - r.1) % p) (by omega)
              have bo := bk_ok t hdf.1 hdf.2
              generalize bk p ((q.1 - r.1) % p) = far at *
              have Rl : 0 < R.length ∧ R.length < 1000 := by rw [lR]; split <;> omega
              have ol := Int.emod_nonneg (-r.1 * far) (show p ≠ 0 by omega)
              have ol2 := Int.emod_lt_of_pos (-r.1 * far) (show 0 < p by omega)
              obtain ⟨F', hF, pF⟩ := run_product p h f R [-r.1 * far % p, far] (by omega) (by omega) Rl.1 Rl.2 (by simp) (by simp) rR (fun c m => by
                simp only [List.mem_cons, List.not_mem_nil, or_false] at m
                rcases m with rfl | rfl
                · exact ⟨by omega, by omega⟩
                · exact ⟨by omega, by omega⟩)
              simp only [List.map_cons, List.map_nil] at hF
              have hb' : -18446744073709551616 < -r.1 ∧ -r.1 < 18446744073709551616 := ⟨by omega, by omega⟩
              simp (disch := first | rfl | assumption | omega | simp [*]) [a0, a1, hkj, he, hb, hF]
              refine (hJ _ _).mpr ⟨F', _, _, _, ⟨rfl, rfl, rfl⟩, rfl, ?_, fun c m => ?_, ?_, fun i r' hi hne hr' => ?_⟩
              · rw [pF.len, lR]
                show (if j < k then k else k + 1) + 2 - 1 = _
                split <;> split <;> omega
              · have := pF.rng c m; omega
              · refine (pF.val q.1).trans ((vR.mul (lin_val p r.1 far q.1)).trans ?_)
                obtain ⟨m1, e1⟩ := Cg.emod p (q.1 - r.1)
                obtain ⟨m2, e2⟩ := (Cg.of_mod (p := p) (a := far * ((q.1 - r.1) % p)) (b := 1) (by rw [bo, Int.emod_eq_of_lt (by omega) (by omega)]))
                refine ⟨q.2 * (m2 - far * m1), ?_⟩
                have e3 : q.1 - r.1 = (q.1 - r.1) % p - p * m1 := by omega
                rw [e3]
                have e4 : ((q.1 - r.1) % p - p * m1) * far = 1 + p * m2 - p * m1 * far := by grind
                rw [e4]
                grind
              · by_cases hik : i = k
                · subst hik
                  rw [hk] at hr'
                  cases hr'
                  refine ⟨(pF.val r.1).trans ?_, fun z => he z.symm⟩
                  obtain ⟨m, hm⟩ := lin_val p r.1 far r.1
                  exact ⟨peval R r.1 * m, by rw [hm]; grind⟩
                · obtain ⟨z1, z2⟩ := zR i r' (by omega) hne hr'
                  refine ⟨(pF.val r'.1).trans ?_, z2⟩
                  obtain ⟨m, hm⟩ := z1
                  exact ⟨m * peval [-r.1 * far % p, far] r'.1, by rw [hm]; grind⟩
      · intro e hJ1
        obtain ⟨R, s6, s7, s8, ⟨h6, h7, h8⟩, rfl, lR, rR, vR, zR⟩ := (hJ _ _).mp hJ1
        have hn : (enumP 0 (ptsP pts)).length = pts.length := by rw [enumP_length]; unfold ptsP; rw [List.length_map]
        rw [hn] at lR zR
        rw [if_pos jl] at lR
        rw [comp_map (items := zipP (F.map .int) (R.map .int)) (addD p)]
        · rw [zip_ints, List.map_map, show ((F.zip R).map (addD p ∘ fun x => PyData.tuple [.int x.1, .int x.2])) = (addM p F R).map .int by unfold addM; rw [List.map_map]; rfl, ofR_ok]
          simp
          refine (hI _ _).mpr ⟨addM p F R, _, _, _, _, _, _, ⟨rfl, rfl, rfl, h6, h7, h8⟩, rfl, ?_, addM_rng (by omega) F R, fun i q' hq' => ?_, fun i k q' r' hi h1 h2 hne => ?_⟩
          · rw [addM_length, hl, lR, Nat.min_self]
          · have v1 := hv i q' hq'
            have v2 := addM_val p q'.1 F R (by rw [hl, lR])
            refine v2.trans ?_
            by_cases hij : i = j
            · subst hij
              rw [hj] at hq'
              cases hq'
              rw [if_neg (by omega)] at v1
              rw [if_pos (by omega)]
              have := v1.add vR
              rwa [Int.zero_add] at this
            · have il : i < pts.length := (List.getElem?_eq_some_iff.mp hq').1
              have z := (zR i q' il hij hq').1
              have := v1.add z
              rw [Int.add_zero] at this
              by_cases hlt : i < j
              · rw [if_pos hlt] at this; rwa [if_pos (by omega)]
              · rw [if_neg hlt] at this; rwa [if_neg (by omega)]
          · by_cases hij : i = j
            · subst hij
              rw [hj] at h1
              cases h1
              exact (zR k r' (List.getElem?_eq_some_iff.mp h2).1 (Ne.symm hne) h2).2
            · exact hd i k q' r' (by omega) h1 h2 hne
        · simp
        · rw [zipP_length]; simp; omega
        · intro x hx
          rw [zip_ints] at hx
          obtain ⟨⟨a, b⟩, _, rfl⟩ := List.mem_map.mp hx
          refine ⟨[.va (.f (tbl p h f)), .va (.f (.d (.list (ptsP pts)))), .va (.f (.d (.list (F.map .int)))), .va (.f (.d (.int j))), .va (.f (.d (.tuple [.int q.1, .int q.2]))), .va (.f (.d (.list (R.map .int)))), s6, s7, s8, .va (.f (.d (.int a))), .va (.f (.d (.int b)))], by simp, ?_⟩
          simp (disch := first | rfl | assumption | omega | simp [*])
          rfl
  · intro e hI1
    have hn : (enumP 0 (ptsP pts)).length = pts.length := by rw [enumP_length]; unfold ptsP; rw [List.length_map]
    rwa [hn] at hI1
  · intro h; exact .inl ⟨h, rfl⟩
  · intro e hI1
    obtain ⟨F, s3, s4, s5, s6, s7, s8, ⟨h3, h4, h5, h6, h7, h8⟩, rfl, hl, hr, hv, hd⟩ := (hI _ _).mp hI1
    refine .inr ⟨fun j k q r h1 h2 hne => hd j k q r (List.getElem?_eq_some_iff.mp h1).1 h1 h2 hne, F, by simp, hl, hr, fun q m => ?_⟩
    obtain ⟨i, hi, e⟩ := List.getElem_of_mem m
    have h1 : pts[i]? = some q := by rw [List.getElem?_eq_getElem hi, e]
    have := hv i q h1
    rwa [if_pos hi] at this
end VL

set_option Elab.async false
set_option linter.all false
set_option maxRecDepth 100000
set_option maxHeartbeats 4000000
namespace VL
open PySem PySem.Spec PyProof.Rows L2

theorem nz_mul {p h f a b : Int} (t : Tb p h f) (ha : 0 < a ∧ a < p) (h0 : Cg p (a * b) 0) : Cg p b 0 := by
  have bo := bk_ok t ha.1 ha.2
  have tp := t.pos
  obtain ⟨m, hm⟩ := h0
  obtain ⟨k, hk⟩ := Cg.of_mod (p := p) (a := bk p a * a) (b := 1) (by rw [bo, Int.emod_eq_of_lt (by omega) (by omega)])
  refine ⟨bk p a * m - k * b, ?_⟩
  have e1 : bk p a * (a * b) = bk p a * (0 + p * m) := by rw [hm]
  have e2 : bk p a * (a * b) = (1 + p * k) * b := by rw [← Int.mul_assoc, hk]
  grind
def allT (n : Nat) : PyData := .list ((List.replicate n true).map .bool)
@[simp] theorem allP_T (n : Nat) : allP (allT n) = .ok (.d (.bool true)) := by
  unfold allT
  rw [allP_bools]
  have : ((List.replicate n true).all id) = true := by rw [List.all_eq_true]; intro x m; rw [(List.mem_replicate.mp m).2]; rfl
  rw [this]
theorem comp_true {it : IT} {g : Tgt} {elt : FO} {vs : List Nat} {e : Env} {items : List PyData} (hi : it e = .ok items) (hl : items.length ≤ 16777216)
    (h : ∀ x ∈ items, ∃ e1, g x (wipeE e vs) = some e1 ∧ (elt e1).bind frF = .ok (.d (.bool true))) : (vComp it g vYes elt vs e).bind frF = .ok (.d (allT items.length)) := by
  rw [comp_map (fun _ => .bool true) hi hl h]
  unfold allT
  rw [List.map_replicate]
  congr 3
  clear h hl hi
  induction items with
  | nil => rfl
  | cons x items ih => rw [List.map_cons, ih]; rfl
@[simp] theorem all_tt {α : Type} (items : List α) : ((items.map fun _ => true).all id) = true := by
  rw [List.all_eq_true]; intro x m; obtain ⟨_, _, rfl⟩ := List.mem_map.mp m; rfl

end VL

set_option Elab.async false
set_option linter.all false
set_option maxRecDepth 100000
set_option maxHeartbeats 4000000
namespace VL
open PySem PySem.Spec PyProof.Rows L2

def rowsD (rows : List (List Int)) : List (List PyData) := rows.map fun r => r.map .int
def rowsP (rows : List (List Int)) : PyData := .list (rows.map fun r => .list (r.map .int))
theorem take_succ' {α : Type} {l : List α} {j : Nat} {a : α} (h : l[j]? = some a) : l.take (j + 1) = l.take j ++ [a] := by
  rw [List.take_succ, h]; rfl
end VL

set_option Elab.async false
set_option linter.all false
set_option maxRecDepth 100000
set_option maxHeartbeats 4000000
namespace VL
open PySem PySem.Spec PyProof.Rows L2

theorem step_nx {f g : ST} {e e' : Env} {R : Res FV} (h : f e = .nx e') (k : fin (g e') = R) : fin (vSeq f g e) = R := by
  rw [vSeq_ap, h]
  exact k
theorem step_wp {f g : ST} {e : Env} {P : Env → Prop} {R : Res FV} (h : (f e).wp P) (k : ∀ e', P e' → fin (g e') = R) : fin (vSeq f g e) = R := by
  rw [vSeq_ap]
  exact fin_wp (wp_imp h k)
end VL

set_option Elab.async false
set_option linter.all false
set_option maxRecDepth 100000
set_option maxHeartbeats 4000000
namespace VL
open PySem PySem.Spec PyProof.Rows L2

def quot (a : Int) : List Int → List Int
  | [] => []
  | [_] => []
  | _ :: e :: E => peval (e :: E) a :: quot a (e :: E)
theorem quot_length (a : Int) : ∀ D : List Int, (quot a D).length = D.length - 1
  | [] => rfl
  | [_] => rfl
  | _ :: e :: E => by
    show (quot a (e :: E)).length + 1 = _
    rw [quot_length a (e :: E)]
    simp
theorem quot_val (a x : Int) : ∀ D : List Int, peval D x = peval D a + (x - a) * peval (quot a D) x
  | [] => by show (0 : Int) = 0 + (x - a) * 0; omega
  | [d] => by
    show d + x * 0 = d + a * 0 + (x - a) * 0
    omega
  | d :: e :: E => by
    have ih := quot_val a x (e :: E)
    show d + x * peval (e :: E) x = d + a * peval (e :: E) a + (x - a) * (peval (e :: E) a + x * peval (quot a (e :: E)) x)
    rw [ih]
    grind
def Zr (p : Int) (D : List Int) : Prop := ∀ c ∈ D, Cg p c 0
theorem quot_zr (p a : Int) : ∀ D : List Int, Zr p (quot a D) → Cg p (peval D a) 0 → Zr p D
  | [], _, _ => fun c m => by cases m
  | [d], _, h => fun c m => by
    have e : c = d := by simpa using m
    subst e
    have h' : Cg p (c + a * 0) 0 := h
    rwa [Int.mul_zero, Int.add_zero] at h'
  | d :: e :: E, hq, h => by
    have h0 : Cg p (peval (e :: E) a) 0 := hq _ (List.mem_cons_self)
    have ih := quot_zr p a (e :: E) (fun c m => hq c (List.mem_cons_of_mem _ m)) h0
    intro c m
    rcases List.mem_cons.mp m with rfl | m
    · obtain ⟨k, hk⟩ := h0
      obtain ⟨j, hj⟩ := h
      have hj' : c + a * peval (e :: E) a = 0 + p * j := hj
      exact ⟨j - a * k, by rw [hk] at hj'; grind⟩
    · exact ih c m
theorem nz_diff {p h f x a b : Int} (t : Tb p h f) (hx : 0 ≤ x ∧ x < p) (ha : 0 ≤ a ∧ a < p) (hne : x ≠ a) (h0 : Cg p ((x - a) * b) 0) : Cg p b 0 := by
  rcases Int.lt_or_gt_of_ne hne with q | q
  · refine nz_mul t (a := a - x) (by omega) ?_
    obtain ⟨k, hk⟩ := h0
    exact ⟨-k, by grind⟩
  · exact nz_mul t (a := x - a) (by omega) h0
theorem roots_zr {p h f : Int} (t : Tb p h f) : ∀ (xs D : List Int), D.length ≤ xs.length → (∀ x ∈ xs, 0 ≤ x ∧ x < p) → xs.Pairwise (· ≠ ·) → (∀ x ∈ xs, Cg p (peval D x) 0) → Zr p D
  | [], D, hl, _, _, _ => by
    have e : D = [] := List.length_eq_zero_iff.mp (by simpa using hl)
    subst e
    exact fun c m => by cases m
  | a :: xs, D, hl, hr, hp, hz => by
    rw [List.pairwise_cons] at hp
    have h0 := hz a List.mem_cons_self
    refine quot_zr p a D ?_ h0
    refine roots_zr t xs (quot a D) (by rw [quot_length]; simp at hl; omega) (fun x m => hr x (List.mem_cons_of_mem _ m)) hp.2 fun x m => ?_
    refine nz_diff t (hr x (List.mem_cons_of_mem _ m)) (hr a List.mem_cons_self) (Ne.symm (hp.1 x m)) ?_
    obtain ⟨k, hk⟩ := h0
    obtain ⟨j, hj⟩ := hz x (List.mem_cons_of_mem _ m)
    have := quot_val a x D
    exact ⟨j - k, by rw [hk, hj] at this; grind⟩
def subL (F G : List Int) : List Int := (F.zip G).map fun x => x.1 - x.2
theorem subL_val (x : Int) : ∀ F G : List Int, F.length = G.length → peval (subL F G) x = peval F x - peval G x
  | [], [], _ => rfl
  | [], _ :: _, h => by cases h
  | _ :: _, [], h => by cases h
  | a :: F, b :: G, h => by
    have ih := subL_val x F G (by simpa using h)
    show a - b + x * peval (subL F G) x = a + x * peval F x - (b + x * peval G x)
    rw [ih]; grind
theorem flatMap_le {α β : Type} (f : α → List β) (m : Nat) : ∀ l : List α, (∀ a ∈ l, (f a).length ≤ m) → (l.flatMap f).length ≤ l.length * m
  | [], _ => by simp
  | a :: l, h => by
    rw [List.flatMap_cons, List.length_append, List.length_cons, Nat.succ_mul]
    have := flatMap_le f m l fun b mb => h b (List.mem_cons_of_mem _ mb)
    have := h a List.mem_cons_self
    omega
end VL

set_option Elab.async false
set_option linter.all false
set_option maxRecDepth 100000
set_option maxHeartbeats 4000000
namespace VL
open PySem PySem.Spec PyProof.Rows L2

def Flow.wr (f : Flow) (R : Res FV → Prop) (P : Env → Prop) : Prop := match f with
  | .nx e => P e
  | f => R (fin f)
@[simp] theorem wr_nx (e : Env) (R : Res FV → Prop) (P : Env → Prop) : (Flow.nx e).wr R P = P e := rfl
@[simp] theorem wr_rt (s : SV) (e : Env) (R : Res FV → Prop) (P : Env → Prop) : (Flow.rt s e).wr R P = R (frF s) := rfl
@[simp] theorem wr_err (c : Str) (e : Env) (R : Res FV → Prop) (P : Env → Prop) : (Flow.err c e).wr R P = R (.err c) := rfl
@[simp] theorem wr_andThen (f : Flow) (g : ST) (R : Res FV → Prop) (P : Env → Prop) : (f.andThen g).wr R P = f.wr R fun e => (g e).wr R P := by cases f <;> rfl
@[simp] theorem wr_ite (c : Prop) [Decidable c] (a b : Flow) (R : Res FV → Prop) (P : Env → Prop) : (if c then a else b).wr R P = if c then a.wr R P else b.wr R P := by split <;> rfl
structure PtOk (p : Int) (pts : List (Int × Int)) : Prop where
  rng : ∀ q ∈ pts, (0 ≤ q.1 ∧ q.1 < p) ∧ (0 ≤ q.2 ∧ q.2 < p)
  up : pts.Pairwise fun a b => a.1 < b.1
theorem up_dist {pts : List (Int × Int)} (up : pts.Pairwise fun a b => a.1 < b.1) : DistX pts := fun j k q r hj hk hne he => by
  obtain ⟨jl, ej⟩ := List.getElem?_eq_some_iff.mp hj
  obtain ⟨kl, ek⟩ := List.getElem?_eq_some_iff.mp hk
  subst ej ek
  rcases Nat.lt_or_gt_of_ne hne with h | h
  · have := (List.pairwise_iff_getElem.mp up) _ _ jl kl h; omega
  · have := (List.pairwise_iff_getElem.mp up) _ _ kl jl h; omega
end VL

set_option Elab.async false
set_option linter.all false
set_option maxRecDepth 100000
set_option maxHeartbeats 4000000
namespace VL
open PySem PySem.Spec PyProof.Rows L2

end VL

set_option Elab.async false
set_option linter.all false
set_option maxRecDepth 100000
set_option maxHeartbeats 4000000
namespace VL
open PySem PySem.Spec PyProof.Rows L2

def addC (c : Int) (F G : List Int) : List Int := (F.zip G).map fun x => x.1 + c * x.2
theorem addC_length (c : Int) (F G : List Int) (h : F.length = G.length) : (addC c F G).length = F.length := by unfold addC; simp [h]
theorem addC_val (c x : Int) : ∀ F G : List Int, F.length = G.length → peval (addC c F G) x = peval F x + c * peval G x
  | [], [], _ => by show (0 : Int) = 0 + c * 0; omega
  | [], _ :: _, h => by cases h
  | _ :: _, [], h => by cases h
  | a :: F, b :: G, h => by
    have ih := addC_val c x F G (by simpa using h)
    show a + c * b + x * peval (addC c F G) x = a + x * peval F x + c * (b + x * peval G x)
    rw [ih]; grind
theorem zr_val {p x : Int} : ∀ D : List Int, Zr p D → Cg p (peval D x) 0
  | [], _ => Cg.refl _ _
  | d :: D, h => by
    have a := h d List.mem_cons_self
    have b := zr_val (x := x) D fun c m => h c (List.mem_cons_of_mem _ m)
    have := a.add ((Cg.refl p x).mul b)
    rw [Int.mul_zero, Int.add_zero] at this
    exact this
end VL

set_option Elab.async false
set_option linter.all false
set_option maxRecDepth 100000
set_option maxHeartbeats 4000000
namespace VL
open PySem PySem.Spec PyProof.Rows L2

end VL

set_option Elab.async false
set_option linter.all false
set_option maxRecDepth 100000
set_option maxHeartbeats 4000000
namespace VL
open PySem PySem.Spec PyProof.Rows L2

end VL

set_option Elab.async false
set_option linter.all false
set_option maxRecDepth 100000
set_option maxHeartbeats 4000000
namespace VL
open PySem PySem.Spec PyProof.Rows L2

structure Sok (p h : Int) (S : List (Option Int)) : Prop where
  len : S.length = h.toNat
  rng : ∀ v, some v ∈ S → 0 ≤ v ∧ v < p
theorem Sok.set {p h : Int} {S : List (Option Int)} (s : Sok p h S) (i : Nat) {o : Option Int} (ho : ∀ v, o = some v → 0 ≤ v ∧ v < p) : Sok p h (S.set i o) :=
  ⟨by rw [List.length_set, s.len], fun v m => by
    rcases List.mem_or_eq_of_mem_set m with z | z
    · exact s.rng v z
    · exact ho v z.symm⟩
end VL

set_option Elab.async false
set_option linter.all false
set_option maxRecDepth 100000
set_option maxHeartbeats 4000000
namespace VL
open PySem PySem.Spec PyProof.Rows L2

@[simp] theorem sok_in : PyData.strOk (Str.ofString "in") = true := by decide +kernel
@[simp] theorem sok_fix : PyData.strOk (Str.ofString "fix") = true := by decide +kernel
@[simp] theorem sok_by : PyData.strOk (Str.ofString "by") = true := by decide +kernel
@[simp] theorem sok_sum : PyData.strOk (Str.ofString "sum") = true := by decide +kernel
@[simp] theorem sok_less : PyData.strOk (Str.ofString "less") = true := by decide +kernel
@[simp] theorem sok_mul : PyData.strOk (Str.ofString "mul") = true := by decide +kernel
@[simp] theorem sok_anew : PyData.strOk (Str.ofString "anew") = true := by decide +kernel
@[simp] theorem sok_open : PyData.strOk (Str.ofString "open") = true := by decide +kernel
@[simp] theorem w_in_fix : (Str.ofString "in" = Str.ofString "fix") = False := eq_false (by decide +kernel)
@[simp] theorem w_in_by : (Str.ofString "in" = Str.ofString "by") = False := eq_false (by decide +kernel)
@[simp] theorem w_in_sum : (Str.ofString "in" = Str.ofString "sum") = False := eq_false (by decide +kernel)
@[simp] theorem w_in_less : (Str.ofString "in" = Str.ofString "less") = False := eq_false (by decide +kernel)
@[simp] theorem w_in_mul : (Str.ofString "in" = Str.ofString "mul") = False := eq_false (by decide +kernel)
@[simp] theorem w_in_anew : (Str.ofString "in" = Str.ofString "anew") = False := eq_false (by decide +kernel)
@[simp] theorem w_in_open : (Str.ofString "in" = Str.ofString "open") = False := eq_false (by decide +kernel)
@[simp] theorem w_fix_in : (Str.ofString "fix" = Str.ofString "in") = False := eq_false (by decide +kernel)
@[simp] theorem w_fix_by : (Str.ofString "fix" = Str.ofString "by") = False := eq_false (by decide +kernel)
@[simp] theorem w_fix_sum : (Str.ofString "fix" = Str.ofString "sum") = False := eq_false (by decide +kernel)
@[simp] theorem w_fix_less : (Str.ofString "fix" = Str.ofString "less") = False := eq_false (by decide +kernel)
@[simp] theorem w_fix_mul : (Str.ofString "fix" = Str.ofString "mul") = False := eq_false (by decide +kernel)
@[simp] theorem w_fix_anew : (Str.ofString "fix" = Str.ofString "anew") = False := eq_false (by decide +kernel)
@[simp] theorem w_fix_open : (Str.ofString "fix" = Str.ofString "open") = False := eq_false (by decide +kernel)
@[simp] theorem w_by_in : (Str.ofString "by" = Str.ofString "in") = False := eq_false (by decide +kernel)
@[simp] theorem w_by_fix : (Str.ofString "by" = Str.ofString "fix") = False := eq_false (by decide +kernel)
@[simp] theorem w_by_sum : (Str.ofString "by" = Str.ofString "sum") = False := eq_false (by decide +kernel)
@[simp] theorem w_by_less : (Str.ofString "by" = Str.ofString "less") = False := eq_false (by decide +kernel)
@[simp] theorem w_by_mul : (Str.ofString "by" = Str.ofString "mul") = False := eq_false (by decide +kernel)
@[simp] theorem w_by_anew : (Str.ofString "by" = Str.ofString "anew") = False := eq_false (by decide +kernel)
@[simp] theorem w_by_open : (Str.ofString "by" = Str.ofString "open") = False := eq_false (by decide +kernel)
@[simp] theorem w_sum_in : (Str.ofString "sum" = Str.ofString "in") = False := eq_false (by decide +kernel)
@[simp] theorem w_sum_fix : (Str.ofString "sum" = Str.ofString "fix") = False := eq_false (by decide +kernel)
@[simp] theorem w_sum_by : (Str.ofString "sum" = Str.ofString "by") = False := eq_false (by decide +kernel)
@[simp] theorem w_sum_less : (Str.ofString "sum" = Str.ofString "less") = False := eq_false (by decide +kernel)
@[simp] theorem w_sum_mul : (Str.ofString "sum" = Str.ofString "mul") = False := eq_false (by decide +kernel)
@[simp] theorem w_sum_anew : (Str.ofString "sum" = Str.ofString "anew") = False := eq_false (by decide +kernel)
@[simp] theorem w_sum_open : (Str.ofString "sum" = Str.ofString "open") = False := eq_false (by decide +kernel)
@[simp] theorem w_less_in : (Str.ofString "less" = Str.ofString "in") = False := eq_false (by decide +kernel)
@[simp] theorem w_less_fix : (Str.ofString "less" = Str.ofString "fix") = False := eq_false (by decide +kernel)
@[simp] theorem w_less_by : (Str.ofString "less" = Str.ofString "by") = False := eq_false (by decide +kernel)
@[simp] theorem w_less_sum : (Str.ofString "less" = Str.ofString "sum") = False := eq_false (by decide +kernel)
@[simp] theorem w_less_mul : (Str.ofString "less" = Str.ofString "mul") = False := eq_false (by decide +kernel)
@[simp] theorem w_less_anew : (Str.ofString "less" = Str.ofString "anew") = False := eq_false (by decide +kernel)
@[simp] theorem w_less_open : (Str.ofString "less" = Str.ofString "open") = False := eq_false (by decide +kernel)
@[simp] theorem w_mul_in : (Str.ofString "mul" = Str.ofString "in") = False := eq_false (by decide +kernel)
@[simp] theorem w_mul_fix : (Str.ofString "mul" = Str.ofString "fix") = False := eq_false (by decide +kernel)
@[simp] theorem w_mul_by : (Str.ofString "mul" = Str.ofString "by") = False := eq_false (by decide +kernel)
@[simp] theorem w_mul_sum : (Str.ofString "mul" = Str.ofString "sum") = False := eq_false (by decide +kernel)
@[simp] theorem w_mul_less : (Str.ofString "mul" = Str.ofString "less") = False := eq_false (by decide +kernel)
@[simp] theorem w_mul_anew : (Str.ofString "mul" = Str.ofString "anew") = False := eq_false (by decide +kernel)
@[simp] theorem w_mul_open : (Str.ofString "mul" = Str.ofString "open") = False := eq_false (by decide +kernel)
@[simp] theorem w_anew_in : (Str.ofString "anew" = Str.ofString "in") = False := eq_false (by decide +kernel)
@[simp] theorem w_anew_fix : (Str.ofString "anew" = Str.ofString "fix") = False := eq_false (by decide +kernel)
@[simp] theorem w_anew_by : (Str.ofString "anew" = Str.ofString "by") = False := eq_false (by decide +kernel)
@[simp] theorem w_anew_sum : (Str.ofString "anew" = Str.ofString "sum") = False := eq_false (by decide +kernel)
@[simp] theorem w_anew_less : (Str.ofString "anew" = Str.ofString "less") = False := eq_false (by decide +kernel)
@[simp] theorem w_anew_mul : (Str.ofString "anew" = Str.ofString "mul") = False := eq_false (by decide +kernel)
@[simp] theorem w_anew_open : (Str.ofString "anew" = Str.ofString "open") = False := eq_false (by decide +kernel)
@[simp] theorem w_open_in : (Str.ofString "open" = Str.ofString "in") = False := eq_false (by decide +kernel)
@[simp] theorem w_open_fix : (Str.ofString "open" = Str.ofString "fix") = False := eq_false (by decide +kernel)
@[simp] theorem w_open_by : (Str.ofString "open" = Str.ofString "by") = False := eq_false (by decide +kernel)
@[simp] theorem w_open_sum : (Str.ofString "open" = Str.ofString "sum") = False := eq_false (by decide +kernel)
@[simp] theorem w_open_less : (Str.ofString "open" = Str.ofString "less") = False := eq_false (by decide +kernel)
@[simp] theorem w_open_mul : (Str.ofString "open" = Str.ofString "mul") = False := eq_false (by decide +kernel)
@[simp] theorem w_open_anew : (Str.ofString "open" = Str.ofString "anew") = False := eq_false (by decide +kernel)
inductive Op where
  | inn (hand : Int)
  | fix (n : Int)
  | byy (a n : Int)
  | sum (a b : Int)
  | less (a b : Int)
  | mul (a b : Int)
  | anew (a : Int)
  | opn (a : Int)
def Op.D : Op → PyData
  | .inn hd => .tuple [.str "in", .int hd]
  | .fix n => .tuple [.str "fix", .int n]
  | .byy a n => .tuple [.str "by", .int a, .int n]
  | .sum a b => .tuple [.str "sum", .int a, .int b]
  | .less a b => .tuple [.str "less", .int a, .int b]
  | .mul a b => .tuple [.str "mul", .int a, .int b]
  | .anew a => .tuple [.str "anew", .int a]
  | .opn a => .tuple [.str "open", .int a]
def Op.ok (p h at_ : Int) : Op → Bool
  | .inn hd => decide (1 ≤ hd) && decide (hd ≤ h)
  | .fix n => decide (0 ≤ n) && decide (n < p)
  | .byy a n => (decide (0 ≤ a) && decide (a < at_)) && (decide (0 ≤ n) && decide (n < p))
  | .sum a b => (decide (0 ≤ a) && decide (a < at_)) && (decide (0 ≤ b) && decide (b < at_))
  | .less a b => (decide (0 ≤ a) && decide (a < at_)) && (decide (0 ≤ b) && decide (b < at_))
  | .mul a b => (decide (0 ≤ a) && decide (a < at_)) && (decide (0 ≤ b) && decide (b < at_))
  | .anew a => decide (0 ≤ a) && decide (a < at_)
  | .opn a => decide (0 ≤ a) && decide (a < at_)
@[simp] theorem run_is_number (p h f n : Int) : run S_is_number [tbl p h f, .d (.int n)] = .ok (.d (.bool (decide (0 ≤ n) && decide (n < p)))) := by
  unfold S_is_number B_is_number
  rw [run_mk]
  by_cases a : 0 ≤ n <;> by_cases b : n < p <;> simp [a, b]
def opsD (os : List Op) : PyData := .list (os.map Op.D)
def okL (p h : Int) (os : List Op) : Bool := (os.mapIdx fun i o => o.ok p h i).all id
def Op.needs (h f : Int) : Op → Int
  | .inn _ => f
  | .mul _ _ => f * h
  | .anew _ => f * h
  | _ => 0
def needsM (h f : Int) (os : List Op) : Int := (os.map fun o => o.needs h f).sum
end VL

set_option Elab.async false
set_option linter.all false
set_option maxRecDepth 100000
set_option maxHeartbeats 4000000
namespace VL
open PySem PySem.Spec PyProof.Rows L2

def opsT (os : List Op) : SV := SV.dl (os.map Op.D)
def nth3 (a b c k : Int) : Int := if k % 3 = 0 then a else if k % 3 = 1 then b else c
theorem at3 (a b c k : Int) : atI ([.int a, .int b, .int c] : List PyData) (k % 3) = some (.int (nth3 a b c k)) := by
  have h0 := Int.emod_nonneg k (show (3 : Int) ≠ 0 by omega)
  have h1 := Int.emod_lt_of_pos k (show (0 : Int) < 3 by omega)
  unfold nth3
  have cs : k % 3 = 0 ∨ k % 3 = 1 ∨ k % 3 = 2 := by omega
  rcases cs with e | e | e <;> rw [e] <;> rfl
end VL

set_option Elab.async false
set_option linter.all false
set_option maxRecDepth 100000
set_option maxHeartbeats 4000000
namespace VL
open PySem PySem.Spec PyProof.Rows L2

theorem cop_eq_b (a b : Bool) : Cop.h .eq (.bool a) (.bool b) = .ok (.d (.bool (a == b))) := by
  show eqP (.bool a) (.bool b) = _
  unfold eqP
  rw [if_pos ⟨rfl, rfl⟩]
  cases a <;> cases b <;> rfl
@[simp] theorem isI_bb (b : Bool) : isI .bool (.bool b) = true := rfl
@[simp] theorem run_told (a b : Bool) : run S__law_told [.d (.bool a), .d (.bool b)] = .ok (.d (.bool (a == b))) := by
  unfold S__law_told B__law_told
  rw [run_mk]
  simp [cop_eq_b]
theorem needsM_append (h f : Int) (a b : List Op) : needsM h f (a ++ b) = needsM h f a + needsM h f b := by
  unfold needsM
  rw [List.map_append, List.sum_append]
end VL

set_option Elab.async false
set_option linter.all false
set_option maxRecDepth 100000
set_option maxHeartbeats 4000000
namespace VL
open PySem PySem.Spec PyProof.Rows L2

theorem strOk_D : ∀ o : Op, fit 1 o.D = true := fun o => by cases o <;> (unfold Op.D fit; simp [fit])
theorem fit_ops (os : List Op) : fit 2 (opsD os) = true := by
  unfold opsD
  show (os.map Op.D).all (fit 1) = true
  rw [List.all_eq_true]
  intro x m
  obtain ⟨o, _, rfl⟩ := List.mem_map.mp m
  exact strOk_D o
@[simp] theorem cop_eq_ops (os : List Op) : Cop.h .eq (opsD os) (opsD os) = .ok (.d (.bool true)) := by
  rw [cop_eq 2 (fit_ops os) (fit_ops os)]
  simp
theorem okL_bad {p h : Int} {os : List Op} {i : Nat} {o : Op} (hi : os[i]? = some o) (hb : o.ok p h i = false) : okL p h os = false := by
  rw [Bool.eq_false_iff]
  intro z
  unfold okL at z
  rw [List.all_eq_true] at z
  have : (o.ok p h i) ∈ os.mapIdx fun i o => o.ok p h i := by
    obtain ⟨il, e⟩ := List.getElem?_eq_some_iff.mp hi
    exact List.mem_mapIdx.mpr ⟨i, il, by rw [e]⟩
  have := z _ this
  rw [hb] at this
  cases this
@[simp] theorem frF_opsT (os : List Op) : frF (opsT os) = .ok (.d (opsD os)) := frF_dl _
end VL

set_option Elab.async false
set_option linter.all false
set_option maxRecDepth 100000
set_option maxHeartbeats 4000000
namespace VL
open PySem PySem.Spec PyProof.Rows L2

@[simp] theorem vAppE_ap (f : Env → Res Plc) (g : FE) (e : Env) : vAppE f g e = oR ((f e).bind lstP) fun x => if fldsOnly x.2.1 = true then (g e).bind (vAppE1 x) else .bad := rfl
@[simp] theorem vPop0_ap (f : Env → Res Plc) (e : Env) : vPop0 f e = oR ((f e).bind lstP) (pop1 e) := rfl
@[simp] theorem vIns_ap (f : Env → Res Plc) (g : FD) (h : FP) (e : Env) : vIns f g h e = oR ((f e).bind lstP) fun x => oR (g e) fun k => oR (h e) fun y => ins1 e x y k := rfl
@[simp] theorem fldsOnly_nil : fldsOnly [] = true := rfl
def isInn (hd : Int) : Op → Bool
  | .inn x => decide (x = hd)
  | _ => false
def usedM (os : List Op) (hd : Int) : Nat := os.countP (isInn hd)
end VL

set_option Elab.async false
set_option linter.all false
set_option maxRecDepth 100000
set_option maxHeartbeats 4000000
namespace VL
open PySem PySem.Spec PyProof.Rows L2

def valM (p : Int) (ins : List (List Int)) (pre : List Op) (found : List Int) : Op → Int
  | .inn hd => (ins.getD (hd - 1).toNat []).getD (usedM pre hd) 0
  | .fix n => n
  | .byy a n => found.getD a.toNat 0 * n % p
  | .sum a b => (found.getD a.toNat 0 + found.getD b.toNat 0) % p
  | .less a b => (found.getD a.toNat 0 - found.getD b.toNat 0) % p
  | .mul a b => found.getD a.toNat 0 * found.getD b.toNat 0 % p
  | .anew a => found.getD a.toNat 0
  | .opn a => found.getD a.toNat 0
def plainI (p : Int) (ins : List (List Int)) (os : List Op) : Nat → List Int
  | 0 => []
  | i + 1 => plainI p ins os i ++ (match os[i]? with | some o => [valM p ins (os.take i) (plainI p ins os i) o] | none => [])
def plainM (p : Int) (ins : List (List Int)) (os : List Op) : List Int := plainI p ins os os.length
theorem plainI_succ {p : Int} {ins : List (List Int)} {os : List Op} {i : Nat} {o : Op} (h : os[i]? = some o) : plainI p ins os (i + 1) = plainI p ins os i ++ [valM p ins (os.take i) (plainI p ins os i) o] := by
  show plainI p ins os i ++ (match os[i]? with | some o => [valM p ins (os.take i) (plainI p ins os i) o] | none => []) = _
  rw [h]
theorem plainI_length {p : Int} {ins : List (List Int)} {os : List Op} : ∀ i, i ≤ os.length → (plainI p ins os i).length = i
  | 0, _ => rfl
  | i + 1, h => by
    have hi : os[i]? = some os[i] := List.getElem?_eq_getElem (by omega)
    rw [plainI_succ hi, List.length_append, plainI_length i (by omega)]
    rfl
theorem okL_at {p h : Int} {os : List Op} (hk : okL p h os = true) {i : Nat} {o : Op} (hi : os[i]? = some o) : o.ok p h i = true := by
  cases z : o.ok p h i with
  | true => rfl
  | false => rw [okL_bad hi z] at hk; cases hk
theorem used_lt {os : List Op} {i : Nat} {hd : Int} (hi : os[i]? = some (.inn hd)) : usedM (os.take i) hd < usedM os hd := by
  obtain ⟨il, e⟩ := List.getElem?_eq_some_iff.mp hi
  unfold usedM
  have h1 : os.countP (isInn hd) = (os.take (i + 1)).countP (isInn hd) + (os.drop (i + 1)).countP (isInn hd) := by
    rw [← List.countP_append, List.take_append_drop]
  rw [take_succ' hi, List.countP_append] at h1
  have h2 : ([Op.inn hd] : List Op).countP (isInn hd) = 1 := by simp [isInn]
  omega
structure InOk (p h : Int) (os : List Op) (ins : List (List Int)) : Prop where
  len : (ins.length : Int) = h
  row : ∀ (k : Nat) (r : List Int), ins[k]? = some r → Rng p r ∧ usedM os ((k : Int) + 1) ≤ r.length
theorem in_at {p h : Int} {os : List Op} {ins : List (List Int)} (io : InOk p h os ins) (hk : okL p h os = true) {i : Nat} {hd : Int} (hi : os[i]? = some (.inn hd)) :
    1 ≤ hd ∧ hd ≤ h ∧ ∃ r c, ins[(hd - 1).toNat]? = some r ∧ r[usedM (os.take i) hd]? = some c ∧ (0 ≤ c ∧ c < p) ∧ (ins.getD (hd - 1).toNat []).getD (usedM (os.take i) hd) 0 = c := by
  have o := okL_at hk hi
  simp only [Op.ok, Bool.and_eq_true, decide_eq_true_iff] at o
  have kl : (hd - 1).toNat < ins.length := by have := io.len; omega
  have hr := List.getElem?_eq_getElem kl
  have rr := io.row _ _ hr
  rw [show (((hd - 1).toNat : Nat) : Int) + 1 = hd by omega] at rr
  have ul := used_lt hi
  have cl : usedM (os.take i) hd < ins[(hd - 1).toNat].length := by omega
  refine ⟨o.1, o.2, _, _, hr, List.getElem?_eq_getElem cl, rr.1 _ (List.getElem_mem cl), ?_⟩
  simp only [List.getD, hr, Option.getD_some, List.getElem?_eq_getElem cl]
theorem used_step {os : List Op} {i : Nat} {o : Op} (hi : os[i]? = some o) (hd : Int) : usedM (os.take (i + 1)) hd = usedM (os.take i) hd + if isInn hd o = true then 1 else 0 := by
  unfold usedM
  rw [take_succ' hi, List.countP_append, List.countP_singleton]
theorem getD_at {xs : List Int} {a : Int} (h0 : 0 ≤ a) (h1 : a < xs.length) : atI (xs.map PyData.int) a = some (.int (xs.getD a.toNat 0)) := by
  rw [atI_pos h0, List.getElem?_map]
  have : a.toNat < xs.length := by omega
  simp only [List.getD, List.getElem?_eq_getElem this, Option.getD_some]
  rfl
end VL

set_option Elab.async false
set_option linter.all false
set_option maxRecDepth 100000
set_option maxHeartbeats 4000000
namespace VL
open PySem PySem.Spec PyProof.Rows L2

def restM (os : List Op) (ins : List (List Int)) (i : Nat) : List (List Int) := ins.mapIdx fun k r => r.drop (usedM (os.take i) ((k : Int) + 1))
theorem rest_other {os : List Op} {i : Nat} {o : Op} (hi : os[i]? = some o) (ins : List (List Int)) (ho : ∀ hd, isInn hd o = false) : restM os ins (i + 1) = restM os ins i := by
  unfold restM
  congr 1
  funext k r
  rw [used_step hi, ho, if_neg (by simp), Nat.add_zero]
theorem rest_inn {os : List Op} {i : Nat} {hd : Int} (hi : os[i]? = some (.inn hd)) (ins : List (List Int)) (h0 : 1 ≤ hd) {r : List Int} (hr : ins[(hd - 1).toNat]? = some r) : restM os ins (i + 1) = (restM os ins i).set (hd - 1).toNat (r.drop (usedM (os.take i) hd + 1)) := by
  obtain ⟨kl, er⟩ := List.getElem?_eq_some_iff.mp hr
  unfold restM
  refine List.ext_getElem (by simp) fun j h1 h2 => ?_
  rw [List.getElem_set]
  simp only [List.getElem_mapIdx]
  rw [used_step hi]
  by_cases e : (hd - 1).toNat = j
  · rw [if_pos e]
    subst e
    rw [show (((hd - 1).toNat : Nat) : Int) + 1 = hd by omega, if_pos (by simp [isInn]), er]
  · rw [if_neg e, if_neg (by simp only [isInn, decide_eq_true_iff]; omega), Nat.add_zero]
theorem rest_at {os : List Op} {i : Nat} {hd : Int} (ins : List (List Int)) (h0 : 1 ≤ hd) {r : List Int} {c : Int} (hr : ins[(hd - 1).toNat]? = some r) (hc : r[usedM (os.take i) hd]? = some c) : (restM os ins i)[(hd - 1).toNat]? = some (c :: r.drop (usedM (os.take i) hd + 1)) := by
  obtain ⟨kl, er⟩ := List.getElem?_eq_some_iff.mp hr
  obtain ⟨cl, ec⟩ := List.getElem?_eq_some_iff.mp hc
  unfold restM
  rw [List.getElem?_mapIdx, hr]
  show some (r.drop (usedM (os.take i) ((((hd - 1).toNat : Nat) : Int) + 1))) = _
  rw [show (((hd - 1).toNat : Nat) : Int) + 1 = hd by omega, List.drop_eq_getElem_cons cl, ec]
end VL

set_option Elab.async false
set_option linter.all false
set_option maxRecDepth 100000
set_option maxHeartbeats 4000000
namespace VL
open PySem PySem.Spec PyProof.Rows L2

end VL

set_option Elab.async false
set_option linter.all false
set_option maxRecDepth 100000
set_option maxHeartbeats 4000000
namespace VL
open PySem PySem.Spec PyProof.Rows L2

theorem fit_rows (ins : List (List Int)) : fit 3 (rowsP ins) = true := by
  show (ins.map fun r => PyData.list (r.map .int)).all (fit 2) = true
  rw [List.all_eq_true]
  intro x m
  obtain ⟨r, _, rfl⟩ := List.mem_map.mp m
  exact fit_ints 1 r
@[simp] theorem cop_eq_rows (ins : List (List Int)) : Cop.h .eq (rowsP ins) (rowsP ins) = .ok (.d (.bool true)) := by
  rw [cop_eq 3 (fit_rows ins) (fit_rows ins)]
  simp
end VL

set_option Elab.async false
set_option linter.all false
set_option maxRecDepth 100000
set_option maxHeartbeats 4000000
namespace VL
open PySem PySem.Spec PyProof.Rows L2

def unitP (h hand : Int) : List (Int × Int) := (List.range h.toNat).map fun (k : Nat) => (1 + (k : Int), if 1 + (k : Int) = hand then 1 else 0)
theorem unitP_length (h hand : Int) : (unitP h hand).length = h.toNat := by unfold unitP; simp
theorem unitP_ok {p h f : Int} (t : Tb p h f) (hand : Int) : PtOk p (unitP h hand) := by
  have tp := t.pos
  have thp := t.hp
  refine ⟨fun q m => ?_, ?_⟩
  · obtain ⟨k, hk, rfl⟩ := List.mem_map.mp m
    have := List.mem_range.mp hk
    refine ⟨⟨by show 0 ≤ 1 + (k : Int); omega, by show 1 + (k : Int) < p; omega⟩, ?_⟩
    show 0 ≤ (if 1 + (k : Int) = hand then (1 : Int) else 0) ∧ (if 1 + (k : Int) = hand then (1 : Int) else 0) < p
    split <;> omega
  · unfold unitP
    rw [List.pairwise_map]
    exact List.pairwise_lt_range.imp fun h => by show 1 + _ < 1 + _; omega
structure WtR (p h : Int) (Fs : List (List Int)) (j : Nat) : Prop where
  len : Fs.length = j
  row : ∀ (k : Nat) (F : List Int), Fs[k]? = some F → Thr p (unitP h (1 + (k : Int))) F
def heads (Fs : List (List Int)) : List Int := Fs.map fun F => F.getD 0 0
theorem getD0_at {F : List Int} (h : 0 < F.length) : atI (F.map PyData.int) 0 = some (.int (F.getD 0 0)) := getD_at (a := 0) (by omega) (by omega)
def dot : List Int → List Int → Int
  | a :: as, b :: bs => a * b + dot as bs
  | _, _ => 0
def comb (n : Nat) : List Int → List (List Int) → List Int
  | c :: cs, F :: Fs => addC c (comb n cs Fs) F
  | _, _ => List.replicate n 0
theorem comb_length (n : Nat) : ∀ (cs : List Int) (Fs : List (List Int)), (∀ F ∈ Fs, F.length = n) → (comb n cs Fs).length = n
  | [], _, _ => List.length_replicate
  | _ :: _, [], _ => List.length_replicate
  | c :: cs, F :: Fs, h => by
    have ih := comb_length n cs Fs fun G m => h G (List.mem_cons_of_mem _ m)
    show (addC c (comb n cs Fs) F).length = n
    rw [addC_length _ _ _ (by rw [ih, h F List.mem_cons_self]), ih]
theorem comb_val (n : Nat) (x : Int) : ∀ (cs : List Int) (Fs : List (List Int)), (∀ F ∈ Fs, F.length = n) → peval (comb n cs Fs) x = dot cs (Fs.map fun F => peval F x)
  | [], _, _ => peval_rep x n
  | _ :: _, [], _ => peval_rep x n
  | c :: cs, F :: Fs, h => by
    have ih := comb_val n x cs Fs fun G m => h G (List.mem_cons_of_mem _ m)
    show peval (addC c (comb n cs Fs) F) x = c * peval F x + dot cs (Fs.map fun F => peval F x)
    rw [addC_val _ _ _ _ (by rw [comb_length n cs Fs fun G m => h G (List.mem_cons_of_mem _ m), h F List.mem_cons_self]), ih]
    omega
theorem dot_cg {p : Int} : ∀ (cs as bs : List Int), as.length = bs.length → (∀ (k : Nat) (a b : Int), as[k]? = some a → bs[k]? = some b → Cg p a b) → Cg p (dot cs as) (dot cs bs)
  | [], _, _, _, _ => Cg.refl _ _
  | c :: cs, [], [], _, _ => Cg.refl _ _
  | c :: cs, [], _ :: _, h, _ => by cases h
  | c :: cs, _ :: _, [], h, _ => by cases h
  | c :: cs, a :: as, b :: bs, hl, h => by
    have ih := dot_cg cs as bs (by simpa using hl) fun k a b ha hb => h (k + 1) a b (by simpa using ha) (by simpa using hb)
    exact ((Cg.refl p c).mul (h 0 a b rfl rfl)).add ih
theorem dot_unit {p : Int} : ∀ (cs bs : List Int) (k : Nat), cs.length = bs.length → (∀ (i : Nat) (b : Int), bs[i]? = some b → Cg p b (if i = k then 1 else 0)) → Cg p (dot cs bs) (cs.getD k 0)
  | [], [], k, _, _ => by simpa [dot] using Cg.refl p 0
  | [], _ :: _, _, h, _ => by cases h
  | _ :: _, [], _, h, _ => by cases h
  | c :: cs, b :: bs, 0, hl, h => by
    have h0 := h 0 b rfl
    rw [if_pos rfl] at h0
    have z : Cg p (dot cs bs) 0 := by
      have e : ∀ (cs bs : List Int), (∀ (i : Nat) (b : Int), bs[i]? = some b → Cg p b 0) → Cg p (dot cs bs) 0 := by
        intro cs
        induction cs with
        | nil => intro bs _; exact Cg.refl _ _
        | cons c cs ih =>
          intro bs hb
          cases bs with
          | nil => exact Cg.refl _ _
          | cons b bs =>
            have := ((Cg.refl p c).mul (hb 0 b rfl)).add (ih bs fun i b hi => hb (i + 1) b (by simpa using hi))
            rw [Int.mul_zero, Int.add_zero] at this
            exact this
      exact e cs bs fun i b hi => by
        have := h (i + 1) b (by simpa using hi)
        rwa [if_neg (by omega)] at this
    have := ((Cg.refl p c).mul h0).add z
    rw [Int.mul_one, Int.add_zero] at this
    exact this
  | c :: cs, b :: bs, k + 1, hl, h => by
    have h0 := h 0 b rfl
    rw [if_neg (by omega)] at h0
    have ih := dot_unit cs bs k (by simpa using hl) fun i b hi => by
      have := h (i + 1) b (by simpa using hi)
      by_cases e : i = k
      · rw [if_pos (by omega)] at this; rw [if_pos e]; exact this
      · rw [if_neg (by omega)] at this; rw [if_neg e]; exact this
    have := ((Cg.refl p c).mul h0).add ih
    rw [Int.mul_zero, Int.zero_add] at this
    exact this
def hw (h : Int) (G : List Int) : List Int := (List.range h.toNat).map fun (k : Nat) => peval G (1 + (k : Int))
theorem peval_pad (x : Int) : ∀ (G : List Int) (n : Nat), peval (G ++ List.replicate n 0) x = peval G x
  | [], n => peval_rep x n
  | g :: G, n => by
    show g + x * peval (G ++ List.replicate n 0) x = g + x * peval G x
    rw [peval_pad x G n]
theorem head_val : ∀ F : List Int, peval F 0 = F.getD 0 0
  | [] => rfl
  | a :: F => by show a + 0 * _ = a; rw [Int.zero_mul, Int.add_zero]
theorem wt_law {p h f : Int} (t : Tb p h f) {Fs : List (List Int)} (wr : WtR p h Fs h.toNat) (G : List Int) (hG : (G.length : Int) ≤ h) : Cg p (dot (hw h G) (heads Fs)) (peval G 0) := by
  have tp := t.pos
  have thp := t.hp
  have Fl : ∀ F ∈ Fs, F.length = h.toNat := fun F m => by
    obtain ⟨k, hk, e⟩ := List.getElem_of_mem m
    rw [(wr.row k F (by rw [List.getElem?_eq_getElem hk, e])).len, unitP_length]
  have Hl : (hw h G).length = Fs.length := by unfold hw; rw [List.length_map, List.length_range, wr.len]
  -- the row made of all
  have cl := comb_length h.toNat (hw h G) Fs Fl
  have gl : (G ++ List.replicate (h.toNat - G.length) 0).length = h.toNat := by rw [List.length_append, List.length_replicate]; omega
  have z : Zr p (subL (comb h.toNat (hw h G) Fs) (G ++ List.replicate (h.toNat - G.length) 0)) := by
    refine roots_zr t ((List.range h.toNat).map fun (k : Nat) => 1 + (k : Int)) _ (by unfold subL; simp [cl]; omega) (fun x m => ?_) ?_ (fun x m => ?_)
    · obtain ⟨k, hk, rfl⟩ := List.mem_map.mp m
      have := List.mem_range.mp hk
      omega
    · rw [List.pairwise_map]
      exact List.pairwise_lt_range.imp fun h => by omega
    · obtain ⟨k, hk, rfl⟩ := List.mem_map.mp m
      have kl := List.mem_range.mp hk
      rw [subL_val _ _ _ (by rw [cl, gl]), peval_pad, comb_val _ _ _ _ Fl]
      have du := dot_unit (p := p) (hw h G) (Fs.map fun F => peval F (1 + (k : Int))) k (by rw [Hl, List.length_map]) fun i b hi => by
        rw [List.getElem?_map] at hi
        cases hF : Fs[i]? with
        | none => rw [hF] at hi; cases hi
        | some F =>
          rw [hF] at hi
          have e := Option.some.inj hi
          have th := wr.row i F hF
          have v := th.val (1 + (k : Int), if 1 + (k : Int) = 1 + (i : Int) then 1 else 0) (List.mem_map.mpr ⟨k, hk, rfl⟩)
          rw [← e]
          by_cases q : i = k
          · subst q; simpa using v
          · rw [if_neg q]
            have : ¬ (1 + (k : Int) = 1 + (i : Int)) := by omega
            rw [if_neg this] at v
            exact v
      have hk2 : (hw h G).getD k 0 = peval G (1 + (k : Int)) := by
        unfold hw
        simp only [List.getD, List.getElem?_map, List.getElem?_range kl]
        rfl
      rw [hk2] at du
      obtain ⟨c, hc⟩ := du
      exact ⟨c, by rw [hc]; omega⟩
  have v0 := zr_val (x := 0) _ z
  rw [subL_val _ _ _ (by rw [cl, gl]), peval_pad, comb_val _ _ _ _ Fl] at v0
  have e : (Fs.map fun F => peval F 0) = heads Fs := by
    unfold heads
    exact List.map_congr_left fun F _ => head_val F
  rw [e] at v0
  obtain ⟨c, hc⟩ := v0
  exact ⟨c, by omega⟩
theorem heads_rng {p h : Int} (hp : 0 < p) {Fs : List (List Int)} {j : Nat} (wr : WtR p h Fs j) : Rng p (heads Fs) := fun c m => by
  unfold heads at m
  obtain ⟨F, hF, rfl⟩ := List.mem_map.mp m
  obtain ⟨k, hk, e⟩ := List.getElem_of_mem hF
  have th := wr.row k F (by rw [List.getElem?_eq_getElem hk, e])
  simp only [List.getD]
  cases z : F[0]? with
  | none => exact ⟨by simp, by simpa using hp⟩
  | some c => exact th.rng.nth z
theorem heads_length {p h : Int} {Fs : List (List Int)} {j : Nat} (wr : WtR p h Fs j) : (heads Fs).length = j := by unfold heads; rw [List.length_map, wr.len]
end VL

set_option Elab.async false
set_option linter.all false
set_option maxRecDepth 100000
set_option maxHeartbeats 4000000
namespace VL
open PySem PySem.Spec PyProof.Rows L2

def vprod (p : Int) : List Int → Int → Int
  | [], _ => 1
  | a :: r, x => (1 + x * (-bk p a)) * vprod p r x
end VL

set_option Elab.async false
set_option linter.all false
set_option maxRecDepth 100000
set_option maxHeartbeats 4000000
namespace VL
open PySem PySem.Spec PyProof.Rows L2

structure DS where
  left : List (List Int)
  chance : List Int
  shares : List (List Int)
  letters : List PyData
def lst (r : List Int) : PyData := .list (r.map .int)
def dsk (p h f : Int) (W : List Int) (s : DS) : SV := .obj "Desk" [("table", .f (tbl p h f)), ("left", SV.dll (rowsD s.left)), ("chance", .f (.d (lst s.chance))), ("shares", SV.dl (s.shares.map lst)), ("letters", SV.dl s.letters), ("weights", .f (.d (lst W)))]
section
variable (p h f : Int) (W : List Int) (s : DS) (i : Nat) (ps : List Pst)
@[simp] theorem pl_table : plS (.fld "Desk" "table") (i, ps, dsk p h f W s) = .ok (i, ps ++ [.fld "Desk" "table"], .f (tbl p h f)) := by rfl
@[simp] theorem pl_left : plS (.fld "Desk" "left") (i, ps, dsk p h f W s) = .ok (i, ps ++ [.fld "Desk" "left"], SV.dll (rowsD s.left)) := by rfl
@[simp] theorem pl_chance : plS (.fld "Desk" "chance") (i, ps, dsk p h f W s) = .ok (i, ps ++ [.fld "Desk" "chance"], .f (.d (lst s.chance))) := by rfl
@[simp] theorem pl_shares : plS (.fld "Desk" "shares") (i, ps, dsk p h f W s) = .ok (i, ps ++ [.fld "Desk" "shares"], SV.dl (s.shares.map lst)) := by rfl
@[simp] theorem pl_letters : plS (.fld "Desk" "letters") (i, ps, dsk p h f W s) = .ok (i, ps ++ [.fld "Desk" "letters"], SV.dl s.letters) := by rfl
@[simp] theorem pl_weights : plS (.fld "Desk" "weights") (i, ps, dsk p h f W s) = .ok (i, ps ++ [.fld "Desk" "weights"], .f (.d (lst W))) := by rfl
end
@[simp] theorem pN_ap (e : Env) : pN e = .ok [] := rfl
@[simp] theorem pF_ap (f : FP) (g : Env → Res (List AV)) (e : Env) : pF f g e = (f e).bind fun x => (g e).bind fun xs => .ok (.fz x :: xs) := rfl
@[simp] theorem xP_ap (f : Env → Res (List AV)) (e : Env) : xP f e = oR (f e) fun xs => .ok xs e := rfl
@[simp] theorem xF_ap (f : FP) (g : Env → Out (List AV)) (e : Env) : xF f g e = oR (f e) fun x => (g e).bind fun xs e => .ok (.fz x :: xs) e := rfl
@[simp] theorem xE_ap (f : FE) (g : Env → Out (List AV)) (e : Env) : xE f g e = (f e).bind (xE1 g) := rfl
@[simp] theorem xE1_f (g : Env → Out (List AV)) (x : FV) (e : Env) : xE1 g (.f x) e = (g e).bind fun xs e => .ok (.fz x :: xs) e := rfl
end VL

set_option Elab.async false
set_option linter.all false
set_option maxRecDepth 100000
set_option maxHeartbeats 4000000
namespace VL
open PySem PySem.Spec PyProof.Rows L2

def sentI (n hand : Int) (nums : List Int) (j : Nat) : List PyData := ((List.range j).filter fun (k : Nat) => decide (1 + (k : Int) ≠ hand)).map fun (k : Nat) => .tuple [.int n, .int hand, .int (1 + (k : Int)), .int (nums.getD k 0)]
def sentM (n h hand : Int) (nums : List Int) : List PyData := sentI n hand nums h.toNat
theorem sentI_len (n hand : Int) (nums : List Int) (j : Nat) : (sentI n hand nums j).length ≤ j := by
  unfold sentI
  rw [List.length_map]
  exact Nat.le_trans (List.length_filter_le _ _) (by simp)
def dealS (p h f hand num : Int) (s : DS) : DS := { s with chance := s.chance.drop f.toNat, letters := s.letters ++ sentM s.shares.length h hand (dealtM p h num (s.chance.take f.toNat)) }
theorem dealtM_length (p h n : Int) (ch : List Int) : (dealtM p h n ch).length = h.toNat := by unfold dealtM; simp
end VL

set_option Elab.async false
set_option linter.all false
set_option maxRecDepth 100000
set_option maxHeartbeats 4000000
namespace VL
open PySem PySem.Spec PyProof.Rows L2

def summedM (p h : Int) (ls : List (List Int)) (c : List Int) : List Int := (List.range h.toNat).map fun (k : Nat) => dot c (ls.map fun r => r.getD k 0) % p
def joinM (p : Int) (o : Op) (x y : Int) : Int := match o with
  | .sum _ _ => (x + y) % p
  | .less _ _ => (x - y) % p
  | _ => x * y % p
def localM (p : Int) (o : Op) (A B : List Int) : List Int := (A.zip B).map fun x => joinM p o x.1 x.2
def Op.two : Op → Option (Int × Int)
  | .sum a b => some (a, b)
  | .less a b => some (a, b)
  | .mul a b => some (a, b)
  | _ => none
end VL

set_option Elab.async false
set_option linter.all false
set_option maxRecDepth 100000
set_option maxHeartbeats 4000000
namespace VL
open PySem PySem.Spec PyProof.Rows L2

def dealsS (p h f : Int) : DS → List Int → Nat → DS
  | s, [], _ => s
  | s, x :: xs, k => dealsS p h f (dealS p h f ((k : Int) + 1) x s) xs (k + 1)
def dealsL (p h f : Int) : List Int → List Int → List (List Int)
  | _, [] => []
  | ch, x :: xs => dealtM p h x (ch.take f.toNat) :: dealsL p h f (ch.drop f.toNat) xs
theorem sentM_len (n h hand : Int) (nums : List Int) : (sentM n h hand nums).length ≤ h.toNat := sentI_len _ _ _ _
def opensI (n h : Int) (A : List Int) (j : Nat) : List PyData := (List.range j).flatMap fun (k : Nat) => sentM n h (1 + (k : Int)) (List.replicate h.toNat (A.getD k 0))
def madeR (p h f : Int) (W : List Int) (s : DS) : Op → List Int
  | .inn hd => dealtM p h ((s.left.getD (hd - 1).toNat []).getD 0 0) (s.chance.take f.toNat)
  | .fix n => List.replicate h.toNat n
  | .byy a n => (s.shares.getD a.toNat []).map fun x => x * n % p
  | .sum a b => localM p (.sum a b) (s.shares.getD a.toNat []) (s.shares.getD b.toNat [])
  | .less a b => localM p (.less a b) (s.shares.getD a.toNat []) (s.shares.getD b.toNat [])
  | .mul a b => summedM p h (dealsL p h f s.chance (localM p (.mul a b) (s.shares.getD a.toNat []) (s.shares.getD b.toNat []))) W
  | .anew a => summedM p h (s.shares.getD a.toNat [] :: dealsL p h f s.chance (List.replicate h.toNat 0)) (List.replicate (h + 1).toNat 1)
  | .opn a => s.shares.getD a.toNat []
def madeS (p h f : Int) (s : DS) : Op → DS
  | .inn hd => dealS p h f hd ((s.left.getD (hd - 1).toNat []).getD 0 0) { s with left := s.left.set (hd - 1).toNat (s.left.getD (hd - 1).toNat []).tail }
  | .mul a b => dealsS p h f s (localM p (.mul a b) (s.shares.getD a.toNat []) (s.shares.getD b.toNat [])) 0
  | .anew _ => dealsS p h f s (List.replicate h.toNat 0) 0
  | .opn a => { s with letters := s.letters ++ opensI s.shares.length h (s.shares.getD a.toNat []) h.toNat }
  | _ => s
structure DOk (p h f : Int) (W : List Int) (s : DS) : Prop where
  row : ∀ r ∈ s.shares, Rng p r ∧ (r.length : Int) = h
  lt : s.letters.length < 10000000
  wl : (W.length : Int) = h
  wr : Rng p W
section
variable {p h f : Int} {W : List Int} {s : DS}
theorem share_at (d : DOk p h f W s) {a : Int} (ha : 0 ≤ a ∧ a < s.shares.length) : s.shares[a.toNat]? = some (s.shares.getD a.toNat []) ∧ Rng p (s.shares.getD a.toNat []) ∧ ((s.shares.getD a.toNat []).length : Int) = h := by
  have al : a.toNat < s.shares.length := by omega
  have e : s.shares[a.toNat]? = some (s.shares.getD a.toNat []) := by simp only [List.getD, List.getElem?_eq_getElem al, Option.getD_some]
  exact ⟨e, (d.row _ (List.mem_of_getElem? e)).1, (d.row _ (List.mem_of_getElem? e)).2⟩
end
end VL

set_option Elab.async false
set_option linter.all false
set_option maxRecDepth 100000
set_option maxHeartbeats 4000000
namespace VL
open PySem PySem.Spec PyProof.Rows L2

section
variable {p h f : Int} {W : List Int} {s : DS}
end
end VL

set_option Elab.async false
set_option linter.all false
set_option maxRecDepth 100000
set_option maxHeartbeats 4000000
namespace VL
open PySem PySem.Spec PyProof.Rows L2

theorem dealsS_shares (p h f : Int) : ∀ (nums : List Int) (k : Nat) (s : DS), (dealsS p h f s nums k).shares = s.shares ∧ (dealsS p h f s nums k).left = s.left ∧ (dealsS p h f s nums k).chance = s.chance.drop (f.toNat * nums.length) ∧ (dealsS p h f s nums k).letters.length ≤ s.letters.length + h.toNat * nums.length
  | [], k, s => ⟨rfl, rfl, by show s.chance = s.chance.drop (f.toNat * 0); simp, by show s.letters.length ≤ _; omega⟩
  | x :: xs, k, s => by
    obtain ⟨a, b, c, d⟩ := dealsS_shares p h f xs (k + 1) (dealS p h f ((k : Int) + 1) x s)
    refine ⟨a, b, ?_, ?_⟩
    · show (dealsS p h f (dealS p h f ((k : Int) + 1) x s) xs (k + 1)).chance = _
      rw [c]
      show (s.chance.drop f.toNat).drop _ = _
      rw [List.drop_drop]
      congr 1
      rw [List.length_cons, Nat.mul_add, Nat.mul_one, Nat.add_comm]
    · have sl := sentM_len s.shares.length h ((k : Int) + 1) (dealtM p h x (s.chance.take f.toNat))
      have e : (dealS p h f ((k : Int) + 1) x s).letters.length = s.letters.length + (sentM s.shares.length h ((k : Int) + 1) (dealtM p h x (s.chance.take f.toNat))).length := by
        show (s.letters ++ sentM s.shares.length h ((k : Int) + 1) (dealtM p h x (s.chance.take f.toNat))).length = _
        rw [List.length_append]
      rw [e] at d
      rw [List.length_cons, Nat.mul_add, Nat.mul_one]
      show (dealsS p h f (dealS p h f ((k : Int) + 1) x s) xs (k + 1)).letters.length ≤ _
      omega
theorem localM_length (p : Int) (o : Op) (A B : List Int) : (localM p o A B).length = min A.length B.length := by unfold localM; simp
section
variable {p h f : Int} {W : List Int} {s : DS}
end
end VL

set_option Elab.async false
set_option linter.all false
set_option maxRecDepth 100000
set_option maxHeartbeats 4000000
namespace VL
open PySem PySem.Spec PyProof.Rows L2

section
variable {p h f : Int} {W : List Int} {s : DS}
def stepD (p h f : Int) (W : List Int) (s : DS) (o : Op) : DS := { madeS p h f s o with shares := s.shares ++ [madeR p h f W s o] }
end
end VL

set_option Elab.async false
set_option linter.all false
set_option maxRecDepth 100000
set_option maxHeartbeats 4000000
namespace VL
open PySem PySem.Spec PyProof.Rows L2

def deskI (p h f : Int) (W : List Int) (ins : List (List Int)) (ch : List Int) (os : List Op) : Nat → DS
  | 0 => ⟨ins, ch, [], []⟩
  | i + 1 => match os[i]? with
    | some o => stepD p h f W (deskI p h f W ins ch os i) o
    | none => deskI p h f W ins ch os i
section
variable {p h f : Int} {W : List Int} {ins : List (List Int)} {ch : List Int} {os : List Op}
theorem deskI_succ {i : Nat} {o : Op} (hi : os[i]? = some o) : deskI p h f W ins ch os (i + 1) = stepD p h f W (deskI p h f W ins ch os i) o := by
  show (match os[i]? with | some o => stepD p h f W (deskI p h f W ins ch os i) o | none => deskI p h f W ins ch os i) = _
  rw [hi]
theorem dealtM_rng (hp : 0 < p) (n : Int) (c : List Int) : Rng p (dealtM p h n c) := fun x m => by
  unfold dealtM at m
  obtain ⟨k, _, rfl⟩ := List.mem_map.mp m
  exact ⟨Int.emod_nonneg _ (by omega), Int.emod_lt_of_pos _ hp⟩
theorem summedM_rng (hp : 0 < p) (ls : List (List Int)) (c : List Int) : Rng p (summedM p h ls c) := fun x m => by
  unfold summedM at m
  obtain ⟨k, _, rfl⟩ := List.mem_map.mp m
  exact ⟨Int.emod_nonneg _ (by omega), Int.emod_lt_of_pos _ hp⟩
theorem localM_rng (hp : 0 < p) (o : Op) (A B : List Int) : Rng p (localM p o A B) := fun x m => by
  unfold localM at m
  obtain ⟨k, _, rfl⟩ := List.mem_map.mp m
  unfold joinM
  cases o <;> exact ⟨Int.emod_nonneg _ (by omega), Int.emod_lt_of_pos _ hp⟩
theorem madeR_ok (hp : 0 < p) (hh : 0 ≤ h) {s : DS} (d : DOk p h f W s) (o : Op) (ho : o.ok p h s.shares.length = true) : Rng p (madeR p h f W s o) ∧ ((madeR p h f W s o).length : Int) = h := by
  cases o with
  | inn hd => exact ⟨dealtM_rng hp _ _, by show ((dealtM p h _ _).length : Int) = h; rw [dealtM_length]; omega⟩
  | fix n =>
    simp only [Op.ok, Bool.and_eq_true, decide_eq_true_iff] at ho
    refine ⟨fun x m => ?_, by show ((List.replicate h.toNat n).length : Int) = h; rw [List.length_replicate]; omega⟩
    have e := (List.mem_replicate.mp m).2
    rw [e]; exact ho
  | byy a n =>
    simp only [Op.ok, Bool.and_eq_true, decide_eq_true_iff] at ho
    obtain ⟨_, _, l⟩ := share_at d ho.1
    refine ⟨fun x m => ?_, by show (((s.shares.getD a.toNat []).map fun x => x * n % p).length : Int) = h; rw [List.length_map, l]⟩
    obtain ⟨y, _, rfl⟩ := List.mem_map.mp m
    exact ⟨Int.emod_nonneg _ (by omega), Int.emod_lt_of_pos _ hp⟩
  | sum a b =>
    simp only [Op.ok, Bool.and_eq_true, decide_eq_true_iff] at ho
    obtain ⟨_, _, l⟩ := share_at d ho.1
    obtain ⟨_, _, l2⟩ := share_at d ho.2
    exact ⟨localM_rng hp _ _ _, by show ((localM p _ _ _).length : Int) = h; rw [localM_length]; omega⟩
  | less a b =>
    simp only [Op.ok, Bool.and_eq_true, decide_eq_true_iff] at ho
    obtain ⟨_, _, l⟩ := share_at d ho.1
    obtain ⟨_, _, l2⟩ := share_at d ho.2
    exact ⟨localM_rng hp _ _ _, by show ((localM p _ _ _).length : Int) = h; rw [localM_length]; omega⟩
  | mul a b => exact ⟨summedM_rng hp _ _, by show ((summedM p h _ _).length : Int) = h; unfold summedM; simp; omega⟩
  | anew a => exact ⟨summedM_rng hp _ _, by show ((summedM p h _ _).length : Int) = h; unfold summedM; simp; omega⟩
  | opn a =>
    simp only [Op.ok, Bool.and_eq_true, decide_eq_true_iff] at ho
    obtain ⟨_, r, l⟩ := share_at d ho
    exact ⟨r, l⟩
theorem madeS_letters (hh : 0 ≤ h ∧ h ≤ 7) {s : DS} (d : DOk p h f W s) (o : Op) (ho : o.ok p h s.shares.length = true) : (madeS p h f s o).letters.length ≤ s.letters.length + 49 := by
  cases o with
  | inn hd =>
    show (s.letters ++ sentM _ h hd _).length ≤ _
    rw [List.length_append]
    have := sentM_len s.shares.length h hd (dealtM p h ((s.left.getD (hd - 1).toNat []).getD 0 0) (s.chance.take f.toNat))
    show s.letters.length + (sentM s.shares.length h hd (dealtM p h ((s.left.getD (hd - 1).toNat []).getD 0 0) (s.chance.take f.toNat))).length ≤ _
    omega
  | mul a b =>
    simp only [Op.ok, Bool.and_eq_true, decide_eq_true_iff] at ho
    obtain ⟨_, _, l⟩ := share_at d ho.1
    obtain ⟨_, _, l2⟩ := share_at d ho.2
    have := (dealsS_shares p h f (localM p (.mul a b) (s.shares.getD a.toNat []) (s.shares.getD b.toNat [])) 0 s).2.2.2
    rw [localM_length, show min (s.shares.getD a.toNat []).length (s.shares.getD b.toNat []).length = h.toNat by omega] at this
    have hm : h.toNat * h.toNat ≤ 7 * 7 := Nat.mul_le_mul (by omega) (by omega)
    show (dealsS p h f s _ 0).letters.length ≤ _
    omega
  | anew a =>
    have := (dealsS_shares p h f (List.replicate h.toNat 0) 0 s).2.2.2
    rw [List.length_replicate] at this
    have hm : h.toNat * h.toNat ≤ 7 * 7 := Nat.mul_le_mul (by omega) (by omega)
    show (dealsS p h f s _ 0).letters.length ≤ _
    omega
  | opn a =>
    show (s.letters ++ opensI _ h _ h.toNat).length ≤ _
    rw [List.length_append]
    have := flatMap_le (fun (k : Nat) => sentM s.shares.length h (1 + (k : Int)) (List.replicate h.toNat ((s.shares.getD a.toNat []).getD k 0))) 7 (List.range h.toNat) fun k _ => Nat.le_trans (sentM_len _ _ _ _) (by omega)
    rw [List.length_range] at this
    have e : (opensI s.shares.length h (s.shares.getD a.toNat []) h.toNat).length ≤ h.toNat * 7 := this
    omega
  | fix _ => show s.letters.length ≤ _; omega
  | byy _ _ => show s.letters.length ≤ _; omega
  | sum _ _ => show s.letters.length ≤ _; omega
  | less _ _ => show s.letters.length ≤ _; omega
theorem madeS_left {s : DS} (o : Op) : (madeS p h f s o).left = match o with
    | .inn hd => s.left.set (hd - 1).toNat (s.left.getD (hd - 1).toNat []).tail
    | _ => s.left := by
  cases o <;> first | rfl | exact (dealsS_shares _ _ _ _ _ _).2.1
structure Dsk (p h f : Int) (W : List Int) (ins : List (List Int)) (os : List Op) (s : DS) (i : Nat) : Prop where
  row : ∀ r ∈ s.shares, Rng p r ∧ (r.length : Int) = h
  num : s.shares.length = i
  left : s.left = restM os ins i
  lt : s.letters.length ≤ 49 * i
theorem Dsk.ok {s : DS} {i : Nat} (d : Dsk p h f W ins os s i) (hi : i ≤ 1000) (wl : (W.length : Int) = h) (wr : Rng p W) : DOk p h f W s := ⟨d.row, by have := d.lt; omega, wl, wr⟩
theorem dsk_all (hp : 0 < p ∧ p < 1000) (hh : 0 ≤ h ∧ h ≤ 7) (hk : okL p h os = true) (io : InOk p h os ins) (hl : os.length < 1000) (wl : (W.length : Int) = h) (wr : Rng p W) : ∀ i, i ≤ os.length → Dsk p h f W ins os (deskI p h f W ins ch os i) i
  | 0, _ => by
    refine ⟨fun r m => (by cases m), rfl, ?_, Nat.zero_le _⟩
    show ins = restM os ins 0
    unfold restM
    refine List.ext_getElem (by simp) fun j h1 h2 => ?_
    simp [usedM]
  | i + 1, h1 => by
    have hi : os[i]? = some os[i] := List.getElem?_eq_getElem (by omega)
    have ih := dsk_all hp hh hk io hl wl wr i (by omega)
    have dk := ih.ok (by omega) wl wr
    have oo := okL_at hk hi
    rw [deskI_succ hi]
    generalize deskI p h f W ins ch os i = s at *
    have mo := madeR_ok hp.1 hh.1 dk os[i] (by rw [ih.num]; exact oo)
    have ml := madeS_letters hh dk os[i] (by rw [ih.num]; exact oo)
    refine ⟨fun r m => ?_, ?_, ?_, ?_⟩
    · rcases List.mem_append.mp m with m | m
      · exact ih.row r m
      · rw [List.mem_singleton.mp m]; exact mo
    · show (s.shares ++ [madeR p h f W s os[i]]).length = i + 1
      rw [List.length_append, ih.num]; rfl
    · show (madeS p h f s os[i]).left = restM os ins (i + 1)
      rw [madeS_left]
      cases ho : os[i] with
      | inn hd =>
        rw [ho] at hi
        obtain ⟨g1, g2, r, c, e1, e2, rc, e3⟩ := in_at io hk hi
        have ra := rest_at ins g1 e1 e2
        rw [rest_inn hi ins g1 e1, ih.left]
        dsimp only
        have eg : (restM os ins i).getD (hd - 1).toNat [] = c :: r.drop (usedM (os.take i) hd + 1) := by simp only [List.getD, ra, Option.getD_some]
        rw [eg]
        rfl
      | _ =>
        rw [ho] at hi
        rw [rest_other hi ins (fun _ => rfl), ih.left]
    · show (madeS p h f s os[i]).letters.length ≤ _
      have := ih.lt
      omega
end
end VL

set_option Elab.async false
set_option linter.all false
set_option maxRecDepth 100000
set_option maxHeartbeats 4000000
namespace VL
open PySem PySem.Spec PyProof.Rows L2

@[simp] theorem vTupX_ap (fs : Env → Out (List AV)) (e : Env) : vTupX fs e = (fs e).bind tupX := rfl
@[simp] theorem vIxE_ap (fe : FE) (k : Int) (e : Env) : vIxE fe k e = (fe e).bind (ixE1 k) := rfl
end VL

set_option Elab.async false
set_option linter.all false
set_option maxRecDepth 100000
set_option maxHeartbeats 4000000
namespace VL
open PySem PySem.Spec PyProof.Rows L2

structure Wt (p h f : Int) (W : List Int) : Prop where
  run : run S_weights [tbl p h f] = .ok (.d (lst W))
  len : (W.length : Int) = h
  rng : Rng p W
  law : ∀ G : List Int, (G.length : Int) ≤ h → Cg p (dot W (hw h G)) (peval G 0)
def dealR (p h : Int) (R : List Int) : List Int := (List.range h.toNat).map fun (k : Nat) => peval R (1 + (k : Int)) % p
theorem dealR_length (p h : Int) (R : List Int) : (dealR p h R).length = h.toNat := by unfold dealR; simp
theorem getD_map_range {n k : Nat} (F : Nat → Int) (hk : k < n) : ((List.range n).map F).getD k 0 = F k := by
  rw [List.getD_eq_getElem?_getD, List.getElem?_map, List.getElem?_range hk]
  rfl
theorem getD_deal {p h n : Int} {c : List Int} {k : Nat} (hk : k < h.toNat) : (dealtM p h n c).getD k 0 = peval (n :: c) (1 + (k : Int)) % p := getD_map_range _ hk
theorem getD_dealR {p h : Int} {R : List Int} {k : Nat} (hk : k < h.toNat) : (dealR p h R).getD k 0 = peval R (1 + (k : Int)) % p := getD_map_range _ hk
theorem getD_summed {p h : Int} {ls : List (List Int)} {c : List Int} {k : Nat} (hk : k < h.toNat) : (summedM p h ls c).getD k 0 = dot c (ls.map fun r => r.getD k 0) % p := getD_map_range _ hk
theorem getD_local {p : Int} {o : Op} {A B : List Int} {k : Nat} (ha : k < A.length) (hb : k < B.length) : (localM p o A B).getD k 0 = joinM p o (A.getD k 0) (B.getD k 0) := by
  unfold localM
  have hz : (A.zip B)[k]? = some (A.getD k 0, B.getD k 0) := by
    rw [List.getElem?_eq_getElem (by simp; omega), List.getElem_zip, List.getD_eq_getElem?_getD, List.getD_eq_getElem?_getD, List.getElem?_eq_getElem ha, List.getElem?_eq_getElem hb]
    rfl
  rw [List.getD_eq_getElem?_getD, List.getElem?_map, hz]
  rfl
theorem getD_map1 {F : Int → Int} {A : List Int} {k : Nat} (ha : k < A.length) : (A.map F).getD k 0 = F (A.getD k 0) := by
  rw [List.getD_eq_getElem?_getD, List.getD_eq_getElem?_getD, List.getElem?_map, List.getElem?_eq_getElem ha]
  rfl
theorem getD_rep {n k : Nat} {x : Int} (hk : k < n) : (List.replicate n x).getD k 0 = x := by
  rw [List.getD_eq_getElem?_getD, List.getElem?_replicate, if_pos hk]
  rfl
def Sh (p h : Int) (A R : List Int) : Prop := ∀ k, k < h.toNat → Cg p (A.getD k 0) (peval R (1 + (k : Int)))
theorem Sh.eq {p h : Int} {A R : List Int} (s : Sh p h A R) (hp : 0 < p) (ra : Rng p A) (la : (A.length : Int) = h) : A = dealR p h R := by
  refine List.ext_getElem (by rw [dealR_length]; omega) fun k h1 h2 => ?_
  have hk : k < h.toNat := by omega
  have e1 : A.getD k 0 = A[k] := by rw [List.getD_eq_getElem?_getD, List.getElem?_eq_getElem h1]; rfl
  have e2 : (dealR p h R).getD k 0 = (dealR p h R)[k] := by rw [List.getD_eq_getElem?_getD, List.getElem?_eq_getElem h2]; rfl
  rw [← e1, ← e2, getD_dealR hk]
  have r := ra (A.getD k 0) (by rw [e1]; exact List.getElem_mem _)
  rw [← (s k hk).mod_eq, Int.emod_eq_of_lt r.1 r.2]
theorem pmod_val (p x : Int) : ∀ R : List Int, Cg p (peval (R.map fun c => c % p) x) (peval R x)
  | [] => Cg.refl _ _
  | c :: R => (Cg.emod p c).add ((Cg.refl p x).mul (pmod_val p x R))
def combR (p : Int) (n : Nat) (cs : List Int) (Fs : List (List Int)) : List Int := (comb n cs Fs).map fun c => c % p
theorem combR_length (p : Int) (n : Nat) (cs : List Int) (Fs : List (List Int)) (h : ∀ F ∈ Fs, F.length = n) : (combR p n cs Fs).length = n := by unfold combR; rw [List.length_map, comb_length _ _ _ h]
theorem combR_rng {p : Int} (hp : 0 < p) (n : Nat) (cs : List Int) (Fs : List (List Int)) : Rng p (combR p n cs Fs) := fun c m => by
  unfold combR at m
  obtain ⟨y, _, rfl⟩ := List.mem_map.mp m
  exact ⟨Int.emod_nonneg _ (by omega), Int.emod_lt_of_pos _ hp⟩
theorem combR_val (p x : Int) (n : Nat) (cs : List Int) (Fs : List (List Int)) (h : ∀ F ∈ Fs, F.length = n) : Cg p (peval (combR p n cs Fs) x) (dot cs (Fs.map fun F => peval F x)) := by
  have := pmod_val p x (comb n cs Fs)
  rwa [comb_val n x cs Fs h] at this
theorem combR_head (p : Int) (n : Nat) (cs : List Int) (Fs : List (List Int)) (hp : 0 < p) (hn : 0 < n) (h : ∀ F ∈ Fs, F.length = n) : (combR p n cs Fs).getD 0 0 = dot cs (Fs.map fun F => F.getD 0 0) % p := by
  have e := combR_val p 0 n cs Fs h
  rw [head_val] at e
  have l := combR_length p n cs Fs h
  have r := combR_rng hp n cs Fs ((combR p n cs Fs).getD 0 0) (by
    rw [List.getD_eq_getElem?_getD, List.getElem?_eq_getElem (by omega)]
    exact List.getElem_mem _)
  rw [← Int.emod_eq_of_lt r.1 r.2, e.mod_eq]
  congr 2
  exact List.map_congr_left fun F _ => head_val F
theorem mul_row (B : List Int) : ∀ (A : List Int) (a : Int), ∃ G : List Int, G.length = A.length + B.length ∧ ∀ x, peval G x = peval (a :: A) x * peval B x
  | [], a => ⟨addC a (List.replicate B.length 0) B, by rw [addC_length _ _ _ (by simp)]; simp, fun x => by
    rw [addC_val _ _ _ _ (by simp), peval_rep]
    show _ = (a + x * 0) * _
    rw [Int.mul_zero, Int.add_zero, Int.zero_add]⟩
  | b :: A, a => by
    obtain ⟨G, gl, gv⟩ := mul_row B A b
    have ll : (0 :: G).length = (B ++ List.replicate (A.length + 1) 0).length := by simp [gl]; omega
    refine ⟨addC a (0 :: G) (B ++ List.replicate (A.length + 1) 0), by rw [addC_length _ _ _ ll]; simp [gl]; omega, fun x => ?_⟩
    rw [addC_val _ _ _ _ ll, peval_pad]
    show 0 + x * peval G x + a * peval B x = (a + x * peval (b :: A) x) * peval B x
    rw [gv]
    grind
def rowsL (f : Int) : List Int → List Int → List (List Int)
  | _, [] => []
  | ch, x :: xs => (x :: ch.take f.toNat) :: rowsL f (ch.drop f.toNat) xs
theorem rowsL_length (f : Int) : ∀ (nums ch : List Int), (rowsL f ch nums).length = nums.length
  | [], _ => rfl
  | x :: xs, ch => by show (rowsL f (ch.drop f.toNat) xs).length + 1 = _; rw [rowsL_length f xs]; rfl
theorem rowsL_n (f : Int) (hf : 0 ≤ f) : ∀ (nums ch : List Int), nums.length * f.toNat ≤ ch.length → ∀ F ∈ rowsL f ch nums, F.length = (f + 1).toNat
  | [], _, _, F, m => by cases m
  | x :: xs, ch, hl, F, m => by
    rw [List.length_cons, Nat.add_mul, Nat.one_mul] at hl
    rcases List.mem_cons.mp m with e | m
    · rw [e, List.length_cons, List.length_take]; omega
    · exact rowsL_n f hf xs (ch.drop f.toNat) (by rw [List.length_drop]; omega) F m
theorem rowsL_head (f : Int) : ∀ (nums ch : List Int), (rowsL f ch nums).map (fun F => F.getD 0 0) = nums
  | [], _ => rfl
  | x :: xs, ch => by
    show x :: (rowsL f (ch.drop f.toNat) xs).map (fun F => F.getD 0 0) = x :: xs
    rw [rowsL_head f xs]
theorem dealsL_col (p h f : Int) {k : Nat} (hk : k < h.toNat) : ∀ (nums ch : List Int), (dealsL p h f ch nums).map (fun r => r.getD k 0) = (rowsL f ch nums).map fun F => peval F (1 + (k : Int)) % p
  | [], _ => rfl
  | x :: xs, ch => by
    show (dealtM p h x (ch.take f.toNat)).getD k 0 :: (dealsL p h f (ch.drop f.toNat) xs).map (fun r => r.getD k 0) = peval (x :: ch.take f.toNat) (1 + (k : Int)) % p :: (rowsL f (ch.drop f.toNat) xs).map fun F => peval F (1 + (k : Int)) % p
    rw [dealsL_col p h f hk xs, getD_deal hk]
theorem dot_mod {p : Int} (c : List Int) (L : List (List Int)) (x : Int) : Cg p (dot c (L.map fun F => peval F x % p)) (dot c (L.map fun F => peval F x)) := by
  refine dot_cg c _ _ (by simp) fun k a b ha hb => ?_
  rw [List.getElem?_map] at ha hb
  cases e : L[k]? with
  | none => rw [e] at ha; cases ha
  | some F =>
    rw [e] at ha hb
    cases ha; cases hb
    exact Cg.emod _ _
def RowOf (p h f v : Int) (A : List Int) : Prop := ∃ R : List Int, R.length = (f + 1).toNat ∧ Rng p R ∧ R.getD 0 0 = v ∧ Sh p h A R
section
variable {p h f : Int} {W : List Int} {s : DS}
theorem row_comb (hp : 0 < p) (hf : 0 ≤ f) {cs : List Int} {Fs : List (List Int)} {A : List Int} {v : Int} (hF : ∀ F ∈ Fs, F.length = (f + 1).toNat) (hv : dot cs (Fs.map fun F => F.getD 0 0) % p = v) (hA : ∀ k, k < h.toNat → Cg p (A.getD k 0) (dot cs (Fs.map fun F => peval F (1 + (k : Int))))) : RowOf p h f v A :=
  ⟨combR p (f + 1).toNat cs Fs, combR_length _ _ _ _ hF, combR_rng hp _ _ _, by rw [combR_head _ _ _ _ hp (by omega) hF]; exact hv, fun k hk => (hA k hk).trans (combR_val _ _ _ _ _ hF).symm⟩
end
end VL

set_option Elab.async false
set_option linter.all false
set_option maxRecDepth 100000
set_option maxHeartbeats 4000000
namespace VL
open PySem PySem.Spec PyProof.Rows L2

theorem dot_zero : ∀ (cs : List Int) (n : Nat), dot cs (List.replicate n 0) = 0
  | [], n => by cases n <;> rfl
  | _ :: _, 0 => rfl
  | c :: cs, n + 1 => by
    show c * 0 + dot cs (List.replicate n 0) = 0
    rw [dot_zero cs n]; omega
section
variable {p h f : Int} {W : List Int} {s : DS}
theorem RowOf.rng {v : Int} {A : List Int} (r : RowOf p h f v A) (hf : 0 ≤ f) : 0 ≤ v ∧ v < p := by
  obtain ⟨R, l, rr, e, _⟩ := r
  rw [← e]
  refine rr _ ?_
  rw [List.getD_eq_getElem?_getD, List.getElem?_eq_getElem (show 0 < R.length by omega)]
  exact List.getElem_mem _
theorem made_row (t : Tb p h f) (w : Wt p h f W) (d : DOk p h f W s) (rc : Rng p s.chance) {vals : List Int} (hr : ∀ j : Nat, j < s.shares.length → RowOf p h f (vals.getD j 0) (s.shares.getD j [])) {ins : List (List Int)} {pre : List Op} (o : Op) (ho : o.ok p h s.shares.length = true)
    (hc : (o.needs h f).toNat ≤ s.chance.length) (hin : ∀ hd, o = .inn hd → valM p ins pre vals o = (s.left.getD (hd - 1).toNat []).getD 0 0 ∧ 0 ≤ valM p ins pre vals o ∧ valM p ins pre vals o < p) :
    RowOf p h f (valM p ins pre vals o) (madeR p h f W s o) := by
  have tp := t.pos
  have t3 := t.h3
  have t7 := t.h7
  have f1 := t.f1
  have f2 := t.f2
  have fh := t.fh
  have p0 : 0 < p := by omega
  have f0 : 0 ≤ f := by omega
  cases o with
  | inn hd =>
    obtain ⟨e, v0, v1⟩ := hin hd rfl
    have hc' : f.toNat ≤ s.chance.length := hc
    refine ⟨valM p ins pre vals (.inn hd) :: s.chance.take f.toNat, by rw [List.length_cons, List.length_take]; omega, fun x m => ?_, rfl, fun k hk => ?_⟩
    · rcases List.mem_cons.mp m with e | m
      · rw [e]; exact ⟨v0, v1⟩
      · exact rc x (List.mem_of_mem_take m)
    · show Cg p ((dealtM p h ((s.left.getD (hd - 1).toNat []).getD 0 0) (s.chance.take f.toNat)).getD k 0) _
      rw [getD_deal hk, ← e]
      exact Cg.emod _ _
  | fix n =>
    simp only [Op.ok, Bool.and_eq_true, decide_eq_true_iff] at ho
    refine ⟨n :: List.replicate f.toNat 0, by simp; omega, fun x m => ?_, rfl, fun k hk => ?_⟩
    · rcases List.mem_cons.mp m with e | m
      · rw [e]; exact ho
      · rw [(List.mem_replicate.mp m).2]; omega
    · show Cg p ((List.replicate h.toNat n).getD k 0) (n + (1 + (k : Int)) * peval (List.replicate f.toNat 0) (1 + (k : Int)))
      rw [getD_rep hk, peval_rep, Int.mul_zero, Int.add_zero]
      exact Cg.refl _ _
  | byy a n =>
    simp only [Op.ok, Bool.and_eq_true, decide_eq_true_iff] at ho
    obtain ⟨_, _, lA⟩ := share_at d ho.1
    obtain ⟨R, l, rr, e, sh⟩ := hr a.toNat (by omega)
    refine row_comb p0 f0 (cs := [n]) (Fs := [R]) (fun F m => by rw [List.mem_singleton.mp m]; exact l) ?_ fun k hk => ?_
    · show (n * R.getD 0 0 + 0) % p = vals.getD a.toNat 0 * n % p
      rw [e, Int.add_zero, Int.mul_comm]
    · show Cg p (((s.shares.getD a.toNat []).map fun x => x * n % p).getD k 0) (n * peval R (1 + (k : Int)) + 0)
      rw [getD_map1 (by omega), Int.add_zero, Int.mul_comm n]
      exact (Cg.emod _ _).trans ((sh k hk).mul (Cg.refl p n))
  | sum a b =>
    simp only [Op.ok, Bool.and_eq_true, decide_eq_true_iff] at ho
    obtain ⟨_, _, lA⟩ := share_at d ho.1
    obtain ⟨_, _, lB⟩ := share_at d ho.2
    obtain ⟨R, l, rr, e, sh⟩ := hr a.toNat (by omega)
    obtain ⟨R2, l2, rr2, e2, sh2⟩ := hr b.toNat (by omega)
    refine row_comb p0 f0 (cs := [1, 1]) (Fs := [R, R2]) (fun F m => by rcases List.mem_cons.mp m with e | m; rw [e]; exact l; rw [List.mem_singleton.mp m]; exact l2) ?_ fun k hk => ?_
    · show (1 * R.getD 0 0 + (1 * R2.getD 0 0 + 0)) % p = (vals.getD a.toNat 0 + vals.getD b.toNat 0) % p
      rw [e, e2, Int.add_zero, Int.one_mul, Int.one_mul]
    · show Cg p ((localM p (.sum a b) (s.shares.getD a.toNat []) (s.shares.getD b.toNat [])).getD k 0) (1 * peval R (1 + (k : Int)) + (1 * peval R2 (1 + (k : Int)) + 0))
      rw [getD_local (by omega) (by omega), Int.add_zero, Int.one_mul, Int.one_mul]
      exact (Cg.emod _ _).trans ((sh k hk).add (sh2 k hk))
  | less a b =>
    simp only [Op.ok, Bool.and_eq_true, decide_eq_true_iff] at ho
    obtain ⟨_, _, lA⟩ := share_at d ho.1
    obtain ⟨_, _, lB⟩ := share_at d ho.2
    obtain ⟨R, l, rr, e, sh⟩ := hr a.toNat (by omega)
    obtain ⟨R2, l2, rr2, e2, sh2⟩ := hr b.toNat (by omega)
    refine row_comb p0 f0 (cs := [1, -1]) (Fs := [R, R2]) (fun F m => by rcases List.mem_cons.mp m with e | m; rw [e]; exact l; rw [List.mem_singleton.mp m]; exact l2) ?_ fun k hk => ?_
    · show (1 * R.getD 0 0 + (-1 * R2.getD 0 0 + 0)) % p = (vals.getD a.toNat 0 - vals.getD b.toNat 0) % p
      rw [e, e2]
      congr 1
      omega
    · show Cg p ((localM p (.less a b) (s.shares.getD a.toNat []) (s.shares.getD b.toNat [])).getD k 0) (1 * peval R (1 + (k : Int)) + (-1 * peval R2 (1 + (k : Int)) + 0))
      rw [getD_local (by omega) (by omega)]
      have := (sh k hk).add ((Cg.refl p (-1)).mul (sh2 k hk))
      refine (Cg.emod _ _).trans ?_
      rw [show ((s.shares.getD a.toNat []).getD k 0 - (s.shares.getD b.toNat []).getD k 0) = (s.shares.getD a.toNat []).getD k 0 + -1 * (s.shares.getD b.toNat []).getD k 0 by omega, show 1 * peval R (1 + (k : Int)) + (-1 * peval R2 (1 + (k : Int)) + 0) = peval R (1 + (k : Int)) + -1 * peval R2 (1 + (k : Int)) by omega]
      exact this
  | mul a b =>
    simp only [Op.ok, Bool.and_eq_true, decide_eq_true_iff] at ho
    obtain ⟨_, _, lA⟩ := share_at d ho.1
    obtain ⟨_, _, lB⟩ := share_at d ho.2
    obtain ⟨R, l, rr, e, sh⟩ := hr a.toNat (by omega)
    obtain ⟨R2, l2, rr2, e2, sh2⟩ := hr b.toNat (by omega)
    have hc' : (f * h).toNat ≤ s.chance.length := hc
    have eR : madeR p h f W s (.mul a b) = summedM p h (dealsL p h f s.chance (localM p (.mul a b) (s.shares.getD a.toNat []) (s.shares.getD b.toNat []))) W := rfl
    rw [eR]
    have nl : (localM p (.mul a b) (s.shares.getD a.toNat []) (s.shares.getD b.toNat [])).length = h.toNat := by rw [localM_length]; omega
    obtain ⟨G, gl, gv⟩ : ∃ G : List Int, G.length = f.toNat + (f + 1).toNat ∧ ∀ x, peval G x = peval R x * peval R2 x := by
      cases R with
      | nil => simp at l; omega
      | cons r R =>
        obtain ⟨G, g1, g2⟩ := mul_row R2 R r
        exact ⟨G, by rw [g1, l2]; simp at l; omega, g2⟩
    have hn : Cg p (dot W (localM p (.mul a b) (s.shares.getD a.toNat []) (s.shares.getD b.toNat []))) (peval G 0) := by
      refine Cg.trans (dot_cg W _ (hw h G) (by rw [nl]; unfold hw; simp) fun k x y hx hy => ?_) (w.law G (by omega))
      have hk : k < h.toNat := by rw [← nl]; exact (List.getElem?_eq_some_iff.mp hx).1
      unfold hw at hy
      rw [List.getElem?_map, List.getElem?_range hk] at hy
      cases hy
      have ex : x = (localM p (.mul a b) (s.shares.getD a.toNat []) (s.shares.getD b.toNat [])).getD k 0 := by rw [List.getD_eq_getElem?_getD, hx]; rfl
      rw [ex, getD_local (by omega) (by omega)]
      show Cg p _ (peval G (1 + (k : Int)))
      rw [gv]
      exact (Cg.emod _ _).trans ((sh k hk).mul (sh2 k hk))
    generalize localM p (.mul a b) (s.shares.getD a.toNat []) (s.shares.getD b.toNat []) = nums at *
    refine row_comb p0 f0 (cs := W) (Fs := rowsL f s.chance nums) (rowsL_n f f0 nums s.chance ?_) ?_ fun k hk => ?_
    · rw [nl, Nat.mul_comm]
      have : (f * h).toNat = f.toNat * h.toNat := Int.toNat_mul f0 (by omega)
      omega
    · rw [rowsL_head]
      show _ = vals.getD a.toNat 0 * vals.getD b.toNat 0 % p
      rw [hn.mod_eq, gv, head_val, head_val, e, e2]
    · rw [getD_summed hk, dealsL_col p h f hk]
      exact (Cg.emod _ _).trans (dot_mod W _ _)
  | anew a =>
    simp only [Op.ok, Bool.and_eq_true, decide_eq_true_iff] at ho
    obtain ⟨_, _, lA⟩ := share_at d ho
    have rv := (hr a.toNat (by omega)).rng f0
    obtain ⟨R, l, rr, e, sh⟩ := hr a.toNat (by omega)
    have hc' : (f * h).toNat ≤ s.chance.length := hc
    have eR : madeR p h f W s (.anew a) = summedM p h (s.shares.getD a.toNat [] :: dealsL p h f s.chance (List.replicate h.toNat 0)) (List.replicate (h + 1).toNat 1) := rfl
    rw [eR, show (h + 1).toNat = h.toNat + 1 by omega, List.replicate_succ]
    refine row_comb p0 f0 (cs := 1 :: List.replicate h.toNat 1) (Fs := R :: rowsL f s.chance (List.replicate h.toNat 0)) (fun F m => ?_) ?_ fun k hk => ?_
    · rcases List.mem_cons.mp m with e | m
      · rw [e]; exact l
      · refine rowsL_n f f0 _ s.chance ?_ F m
        rw [List.length_replicate, Nat.mul_comm]
        have : (f * h).toNat = f.toNat * h.toNat := Int.toNat_mul f0 (by omega)
        omega
    · show (1 * R.getD 0 0 + dot _ ((rowsL f s.chance (List.replicate h.toNat 0)).map fun F => F.getD 0 0)) % p = vals.getD a.toNat 0
      rw [rowsL_head, dot_zero, e, Int.one_mul, Int.add_zero, Int.emod_eq_of_lt rv.1 rv.2]
    · rw [getD_summed hk]
      refine (Cg.emod _ _).trans ?_
      show Cg p (1 * (s.shares.getD a.toNat []).getD k 0 + dot _ ((dealsL p h f s.chance (List.replicate h.toNat 0)).map fun r => r.getD k 0)) (1 * peval R (1 + (k : Int)) + dot _ ((rowsL f s.chance (List.replicate h.toNat 0)).map fun F => peval F (1 + (k : Int))))
      rw [dealsL_col p h f hk]
      exact ((Cg.refl p 1).mul (sh k hk)).add (dot_mod _ _ _)
  | opn a =>
    simp only [Op.ok, Bool.and_eq_true, decide_eq_true_iff] at ho
    exact hr a.toNat (by omega)
end
end VL

set_option Elab.async false
set_option linter.all false
set_option maxRecDepth 100000
set_option maxHeartbeats 4000000
namespace VL
open PySem PySem.Spec PyProof.Rows L2

section
variable {p h f : Int} {W : List Int} {ins : List (List Int)} {ch : List Int} {os : List Op}
theorem needs_nn (o : Op) (hh : 0 ≤ h) (hf : 0 ≤ f) : 0 ≤ o.needs h f := by
  have := Int.mul_nonneg hf hh
  cases o <;> first | exact hf | exact this | exact Int.le_refl _
theorem needsM_nn (hh : 0 ≤ h) (hf : 0 ≤ f) : ∀ os : List Op, 0 ≤ needsM h f os
  | [] => Int.le_refl _
  | o :: os => by
    show 0 ≤ ((o :: os).map fun o => o.needs h f).sum
    rw [List.map_cons, List.sum_cons]
    have := needsM_nn hh hf os
    unfold needsM at this
    have := needs_nn o hh hf
    omega
theorem needsM_one (o : Op) : needsM h f [o] = o.needs h f := by show o.needs h f + 0 = _; omega
theorem needsM_take {i : Nat} {o : Op} (hi : os[i]? = some o) : needsM h f (os.take (i + 1)) = needsM h f (os.take i) + o.needs h f := by
  rw [take_succ' hi, needsM_append, needsM_one]
theorem needsM_le (hh : 0 ≤ h) (hf : 0 ≤ f) (i : Nat) : needsM h f (os.take i) ≤ needsM h f os := by
  have e : needsM h f os = needsM h f (os.take i) + needsM h f (os.drop i) := by rw [← needsM_append, List.take_append_drop]
  have := needsM_nn hh hf (os.drop i)
  omega
theorem madeS_chance {s : DS} (hh : 0 ≤ h) (hf : 0 ≤ f) (d : DOk p h f W s) (o : Op) (ho : o.ok p h s.shares.length = true) : (madeS p h f s o).chance = s.chance.drop (o.needs h f).toNat := by
  have em : (f * h).toNat = f.toNat * h.toNat := Int.toNat_mul hf hh
  cases o with
  | inn hd => rfl
  | mul a b =>
    simp only [Op.ok, Bool.and_eq_true, decide_eq_true_iff] at ho
    obtain ⟨_, _, lA⟩ := share_at d ho.1
    obtain ⟨_, _, lB⟩ := share_at d ho.2
    show (dealsS p h f s (localM p (.mul a b) (s.shares.getD a.toNat []) (s.shares.getD b.toNat [])) 0).chance = s.chance.drop (f * h).toNat
    rw [(dealsS_shares _ _ _ _ _ _).2.2.1, localM_length, em]
    congr 2
    omega
  | anew a =>
    show (dealsS p h f s (List.replicate h.toNat 0) 0).chance = s.chance.drop (f * h).toNat
    rw [(dealsS_shares _ _ _ _ _ _).2.2.1, List.length_replicate, em]
  | fix _ => rfl
  | byy _ _ => rfl
  | sum _ _ => rfl
  | less _ _ => rfl
  | opn _ => rfl
theorem inn_head (hk : okL p h os = true) (io : InOk p h os ins) {i : Nat} {hd : Int} (hi : os[i]? = some (.inn hd)) (vals : List Int) :
    valM p ins (os.take i) vals (.inn hd) = ((restM os ins i).getD (hd - 1).toNat []).getD 0 0 ∧ 0 ≤ valM p ins (os.take i) vals (.inn hd) ∧ valM p ins (os.take i) vals (.inn hd) < p := by
  obtain ⟨h1, h2, r, c, e1, e2, rc, e3⟩ := in_at io hk hi
  have ra := rest_at ins h1 e1 e2
  have eg : (restM os ins i).getD (hd - 1).toNat [] = c :: r.drop (usedM (os.take i) hd + 1) := by simp only [List.getD, ra, Option.getD_some]
  show (ins.getD (hd - 1).toNat []).getD (usedM (os.take i) hd) 0 = _ ∧ 0 ≤ (ins.getD (hd - 1).toNat []).getD (usedM (os.take i) hd) 0 ∧ (ins.getD (hd - 1).toNat []).getD (usedM (os.take i) hd) 0 < p
  rw [e3, eg]
  exact ⟨rfl, rc⟩
theorem getD_app_l {α : Type} {a b : List α} {j : Nat} (d : α) (hj : j < a.length) : (a ++ b).getD j d = a.getD j d := by
  simp only [List.getD, List.getElem?_append_left hj]
theorem getD_app_r {α : Type} {a : List α} {x : α} (d : α) : (a ++ [x]).getD a.length d = x := by
  simp only [List.getD, List.getElem?_append_right (Nat.le_refl _), Nat.sub_self, List.getElem?_cons_zero, Option.getD_some]
theorem rows_all (t : Tb p h f) (w : Wt p h f W) (hk : okL p h os = true) (io : InOk p h os ins) (hl : os.length < 1000) (hc : (ch.length : Int) = needsM h f os) (rc : Rng p ch) : ∀ i, i ≤ os.length →
    (deskI p h f W ins ch os i).chance = ch.drop (needsM h f (os.take i)).toNat ∧ ∀ j : Nat, j < i → RowOf p h f ((plainI p ins os i).getD j 0) ((deskI p h f W ins ch os i).shares.getD j [])
  | 0, _ => ⟨by show ch = ch.drop (needsM h f []).toNat; rfl, fun j hj => by omega⟩
  | i + 1, h1 => by
    have tp := t.pos
    have t3 := t.h3
    have t7 := t.h7
    have f1 := t.f1
    have f2 := t.f2
    have hi : os[i]? = some os[i] := List.getElem?_eq_getElem (by omega)
    obtain ⟨ihc, ihr⟩ := rows_all t w hk io hl hc rc i (by omega)
    have dk := dsk_all (ch := ch) (f := f) (W := W) ⟨by omega, by omega⟩ ⟨by omega, by omega⟩ hk io hl w.len w.rng i (by omega)
    have oo := okL_at hk hi
    have n0 := needsM_nn (h := h) (f := f) (by omega) (by omega) (os.take i)
    have n1 := needs_nn os[i] (h := h) (f := f) (by omega) (by omega)
    have n2 := needsM_take (h := h) (f := f) hi
    have n3 := needsM_le (os := os) (h := h) (f := f) (by omega) (by omega) (i + 1)
    rw [deskI_succ hi, plainI_succ hi]
    have pl := plainI_length (p := p) (ins := ins) (os := os) i (by omega)
    have inh := fun hd (e : os[i] = .inn hd) => inn_head hk io (show os[i]? = some (.inn hd) by rw [hi, e]) (plainI p ins os i)
    generalize deskI p h f W ins ch os i = s at *
    generalize plainI p ins os i = vals at *
    have d := dk.ok (by omega) w.len w.rng
    have ok' : os[i].ok p h s.shares.length = true := by rw [dk.num]; exact oo
    refine ⟨?_, fun j hj => ?_⟩
    · show (madeS p h f s os[i]).chance = _
      rw [madeS_chance (by omega) (by omega) d _ ok', ihc, List.drop_drop, n2]
      congr 1
      omega
    · show RowOf p h f _ ((s.shares ++ [madeR p h f W s os[i]]).getD j [])
      by_cases e : j < i
      · rw [getD_app_l _ (by omega), getD_app_l _ (by rw [dk.num]; omega)]
        exact ihr j e
      · have e2 : j = i := by omega
        subst e2
        have z1 : (vals ++ [valM p ins (os.take j) vals os[j]]).getD j 0 = valM p ins (os.take j) vals os[j] := by
          have := getD_app_r (a := vals) (x := valM p ins (os.take j) vals os[j]) 0
          rwa [pl] at this
        have z2 : (s.shares ++ [madeR p h f W s os[j]]).getD j [] = madeR p h f W s os[j] := by
          have := getD_app_r (a := s.shares) (x := madeR p h f W s os[j]) []
          rwa [dk.num] at this
        rw [z1, z2]
        refine made_row t w d (by rw [ihc]; exact fun x m => rc x (List.mem_of_mem_drop m)) (fun j hj => ihr j (by rw [← dk.num]; exact hj)) os[j] ok' ?_ fun hd e => ?_
        · rw [ihc, List.length_drop]; omega
        · have := inh hd e
          rw [e]
          rw [dk.left]
          exact this
theorem plain_le {j : Nat} : ∀ i, i ≤ os.length → j < i → ∀ k, k ≤ i → j < k → (plainI p ins os i).getD j 0 = (plainI p ins os k).getD j 0
  | 0, _, h2, _, _, _ => by omega
  | i + 1, h1, h2, k, hk1, hk2 => by
    by_cases e : k = i + 1
    · rw [e]
    · have hi : os[i]? = some os[i] := List.getElem?_eq_getElem (by omega)
      rw [plainI_succ hi, getD_app_l _ (by rw [plainI_length i (by omega)]; omega)]
      exact plain_le i (by omega) (by omega) k (by omega) hk2
theorem plainM_at {i : Nat} {o : Op} (hi : os[i]? = some o) : (plainM p ins os).getD i 0 = valM p ins (os.take i) (plainI p ins os i) o := by
  have il := (List.getElem?_eq_some_iff.mp hi).1
  unfold plainM
  rw [plain_le os.length (Nat.le_refl _) il (i + 1) (by omega) (by omega), plainI_succ hi]
  have := getD_app_r (a := plainI p ins os i) (x := valM p ins (os.take i) (plainI p ins os i) o) 0
  rwa [plainI_length i (by omega)] at this
end
end VL

set_option Elab.async false
set_option linter.all false
set_option maxRecDepth 100000
set_option maxHeartbeats 4000000
namespace VL
open PySem PySem.Spec PyProof.Rows L2

theorem getD_mem {A : List Int} {k : Nat} (hk : k < A.length) : A.getD k 0 ∈ A := by
  rw [List.getD_eq_getElem?_getD, List.getElem?_eq_getElem hk]
  exact List.getElem_mem _
end VL

set_option Elab.async false
set_option linter.all false
set_option maxRecDepth 100000
set_option maxHeartbeats 4000000
namespace VL
open PySem PySem.Spec PyProof.Rows L2

end VL

set_option Elab.async false
set_option linter.all false
set_option maxRecDepth 100000
set_option maxHeartbeats 4000000
namespace VL
open PySem PySem.Spec PyProof.Rows L2

def dealersM (h : Int) : Op → List Int
  | .inn hd => [hd]
  | .mul _ _ => (List.range h.toNat).map fun (k : Nat) => 1 + (k : Int)
  | .anew _ => (List.range h.toNat).map fun (k : Nat) => 1 + (k : Int)
  | _ => []
theorem dealers_len (h f : Int) (hh : 0 ≤ h) (o : Op) : o.needs h f = f * ((dealersM h o).length : Int) := by
  cases o <;> simp [Op.needs, dealersM] <;> (first | (rw [Int.max_eq_left hh]) | skip)
def allD (h : Int) (os : List Op) : List Int := os.flatMap (dealersM h)
theorem allD_len (h f : Int) (hh : 0 ≤ h) : ∀ os : List Op, needsM h f os = f * ((allD h os).length : Int)
  | [] => by show (0 : Int) = f * ((0 : Nat) : Int); simp
  | o :: os => by
    show ((o :: os).map fun o => o.needs h f).sum = f * (((o :: os).flatMap (dealersM h)).length : Int)
    rw [List.map_cons, List.sum_cons, List.flatMap_cons, List.length_append]
    have ih := allD_len h f hh os
    unfold needsM allD at ih
    rw [ih, dealers_len h f hh o]
    rw [← Int.mul_add]
    congr 1
def usedRows (os : List Op) (ins : List (List Int)) (hs : List Int) : List (List Int) := hs.map fun hd => (ins.getD (hd - 1).toNat []).take (usedM os hd)
def lto : PyData → Int
  | .tuple [_, _, .int c, _] => c
  | _ => 0
def ownD (f : Int) (hs : List Int) : List Int → List Int → List Int
  | [], _ => []
  | d :: ds, ch => (if d ∈ hs then ch.take f.toNat else []) ++ ownD f hs ds (ch.drop f.toNat)
end VL

set_option Elab.async false
set_option linter.all false
set_option maxRecDepth 100000
set_option maxHeartbeats 4000000
namespace VL
open PySem PySem.Spec PyProof.Rows L2

def seenL (hs : List Int) (ls : List PyData) : List PyData := ls.filter fun l => decide (lto l ∈ hs)
end VL

set_option Elab.async false
set_option linter.all false
set_option maxRecDepth 100000
set_option maxHeartbeats 4000000
namespace VL
open PySem PySem.Spec PyProof.Rows L2

@[simp] theorem se_BadSteps_BadSteps : subE (Str.ofString "BadSteps") (Str.ofString "BadSteps") = true := by decide +kernel
@[simp] theorem se_BadSteps_BadInputs : subE (Str.ofString "BadSteps") (Str.ofString "BadInputs") = false := by decide +kernel
@[simp] theorem se_BadSteps_BadChance : subE (Str.ofString "BadSteps") (Str.ofString "BadChance") = false := by decide +kernel
@[simp] theorem se_BadSteps_BadHands : subE (Str.ofString "BadSteps") (Str.ofString "BadHands") = false := by decide +kernel
@[simp] theorem se_BadSteps_NoVeil : subE (Str.ofString "BadSteps") (Str.ofString "NoVeil") = false := by decide +kernel
@[simp] theorem se_BadSteps_V : subE (Str.ofString "BadSteps") (Str.ofString "VeilError") = true := by decide +kernel
@[simp] theorem se_BadInputs_BadSteps : subE (Str.ofString "BadInputs") (Str.ofString "BadSteps") = false := by decide +kernel
@[simp] theorem se_BadInputs_BadInputs : subE (Str.ofString "BadInputs") (Str.ofString "BadInputs") = true := by decide +kernel
@[simp] theorem se_BadInputs_BadChance : subE (Str.ofString "BadInputs") (Str.ofString "BadChance") = false := by decide +kernel
@[simp] theorem se_BadInputs_BadHands : subE (Str.ofString "BadInputs") (Str.ofString "BadHands") = false := by decide +kernel
@[simp] theorem se_BadInputs_NoVeil : subE (Str.ofString "BadInputs") (Str.ofString "NoVeil") = false := by decide +kernel
@[simp] theorem se_BadInputs_V : subE (Str.ofString "BadInputs") (Str.ofString "VeilError") = true := by decide +kernel
@[simp] theorem se_BadChance_BadSteps : subE (Str.ofString "BadChance") (Str.ofString "BadSteps") = false := by decide +kernel
@[simp] theorem se_BadChance_BadInputs : subE (Str.ofString "BadChance") (Str.ofString "BadInputs") = false := by decide +kernel
@[simp] theorem se_BadChance_BadChance : subE (Str.ofString "BadChance") (Str.ofString "BadChance") = true := by decide +kernel
@[simp] theorem se_BadChance_BadHands : subE (Str.ofString "BadChance") (Str.ofString "BadHands") = false := by decide +kernel
@[simp] theorem se_BadChance_NoVeil : subE (Str.ofString "BadChance") (Str.ofString "NoVeil") = false := by decide +kernel
@[simp] theorem se_BadChance_V : subE (Str.ofString "BadChance") (Str.ofString "VeilError") = true := by decide +kernel
@[simp] theorem se_BadHands_BadSteps : subE (Str.ofString "BadHands") (Str.ofString "BadSteps") = false := by decide +kernel
@[simp] theorem se_BadHands_BadInputs : subE (Str.ofString "BadHands") (Str.ofString "BadInputs") = false := by decide +kernel
@[simp] theorem se_BadHands_BadChance : subE (Str.ofString "BadHands") (Str.ofString "BadChance") = false := by decide +kernel
@[simp] theorem se_BadHands_BadHands : subE (Str.ofString "BadHands") (Str.ofString "BadHands") = true := by decide +kernel
@[simp] theorem se_BadHands_NoVeil : subE (Str.ofString "BadHands") (Str.ofString "NoVeil") = false := by decide +kernel
@[simp] theorem se_BadHands_V : subE (Str.ofString "BadHands") (Str.ofString "VeilError") = true := by decide +kernel
@[simp] theorem se_NoVeil_BadSteps : subE (Str.ofString "NoVeil") (Str.ofString "BadSteps") = false := by decide +kernel
@[simp] theorem se_NoVeil_BadInputs : subE (Str.ofString "NoVeil") (Str.ofString "BadInputs") = false := by decide +kernel
@[simp] theorem se_NoVeil_BadChance : subE (Str.ofString "NoVeil") (Str.ofString "BadChance") = false := by decide +kernel
@[simp] theorem se_NoVeil_BadHands : subE (Str.ofString "NoVeil") (Str.ofString "BadHands") = false := by decide +kernel
@[simp] theorem se_NoVeil_NoVeil : subE (Str.ofString "NoVeil") (Str.ofString "NoVeil") = true := by decide +kernel
@[simp] theorem se_NoVeil_V : subE (Str.ofString "NoVeil") (Str.ofString "VeilError") = true := by decide +kernel
@[simp] theorem catL_l (a b : List PyData) : catL (.list a) (.list b) = cIf (a.length + b.length ≤ 16777216) (.ok (SV.dl (a ++ b))) .bad := rfl
end VL

set_option Elab.async false
set_option linter.all false
set_option maxRecDepth 100000
set_option maxHeartbeats 4000000
namespace VL
open PySem PySem.Spec PyProof.Rows L2

end VL

set_option Elab.async false
set_option linter.all false
set_option maxRecDepth 100000
set_option maxHeartbeats 4000000
namespace VL
open PySem PySem.Spec PyProof.Rows L2

def numsM (p h : Int) (s : DS) : Op → List Int
  | .inn hd => [(s.left.getD (hd - 1).toNat []).getD 0 0]
  | .mul a b => localM p (.mul a b) (s.shares.getD a.toNat []) (s.shares.getD b.toNat [])
  | _ => List.replicate h.toNat 0
section
variable {p h f : Int} {W : List Int} {s : DS}
end
end VL

set_option Elab.async false
set_option linter.all false
set_option maxRecDepth 100000
set_option maxHeartbeats 4000000
namespace VL
open PySem PySem.Spec PyProof.Rows L2

section
variable {p h f : Int} {W : List Int}
theorem dealsL_app (p h f : Int) (X : List Int) : ∀ (nums c : List Int), nums.length * f.toNat ≤ c.length → dealsL p h f (c ++ X) nums = dealsL p h f c nums
  | [], _, _ => rfl
  | x :: xs, c, hl => by
    rw [List.length_cons, Nat.add_mul, Nat.one_mul] at hl
    show dealtM p h x ((c ++ X).take f.toNat) :: dealsL p h f ((c ++ X).drop f.toNat) xs = dealtM p h x (c.take f.toNat) :: dealsL p h f (c.drop f.toNat) xs
    rw [List.take_append_of_le_length (by omega), List.drop_append_of_le_length (by omega), dealsL_app p h f X xs (c.drop f.toNat) (by rw [List.length_drop]; omega)]
theorem dealsS_app (p h f : Int) (X : List Int) : ∀ (nums : List Int) (k : Nat) (s : DS), nums.length * f.toNat ≤ s.chance.length → dealsS p h f { s with chance := s.chance ++ X } nums k = { dealsS p h f s nums k with chance := (dealsS p h f s nums k).chance ++ X }
  | [], _, _, _ => rfl
  | x :: xs, k, s, hl => by
    rw [List.length_cons, Nat.add_mul, Nat.one_mul] at hl
    have e : dealS p h f ((k : Int) + 1) x { s with chance := s.chance ++ X } = { dealS p h f ((k : Int) + 1) x s with chance := (dealS p h f ((k : Int) + 1) x s).chance ++ X } := by
      unfold dealS
      dsimp only
      rw [List.take_append_of_le_length (by omega), List.drop_append_of_le_length (by omega)]
    show dealsS p h f (dealS p h f ((k : Int) + 1) x { s with chance := s.chance ++ X }) xs (k + 1) = _
    rw [e, dealsS_app p h f X xs (k + 1) _ (by
      show _ ≤ (s.chance.drop f.toNat).length
      rw [List.length_drop]; omega)]
    rfl
theorem stepD_app {s : DS} (hh : 0 ≤ h) (hf : 0 ≤ f) (d : DOk p h f W s) (o : Op) (ho : o.ok p h s.shares.length = true) (X : List Int) (hn : (o.needs h f).toNat ≤ s.chance.length) :
    stepD p h f W { s with chance := s.chance ++ X } o = { stepD p h f W s o with chance := (stepD p h f W s o).chance ++ X } := by
  have em : (f * h).toNat = h.toNat * f.toNat := by rw [Int.toNat_mul hf hh, Nat.mul_comm]
  cases o with
  | inn hd =>
    have hn' : f.toNat ≤ s.chance.length := hn
    unfold stepD madeS madeR dealS
    dsimp only
    rw [List.take_append_of_le_length hn', List.drop_append_of_le_length hn']
  | mul a b =>
    have hn' : (f * h).toNat ≤ s.chance.length := hn
    simp only [Op.ok, Bool.and_eq_true, decide_eq_true_iff] at ho
    obtain ⟨_, _, lA⟩ := share_at d ho.1
    obtain ⟨_, _, lB⟩ := share_at d ho.2
    have nl : (localM p (.mul a b) (s.shares.getD a.toNat []) (s.shares.getD b.toNat [])).length = h.toNat := by rw [localM_length]; omega
    unfold stepD madeS madeR
    dsimp only
    generalize localM p (.mul a b) (s.shares.getD a.toNat []) (s.shares.getD b.toNat []) = nums at *
    rw [dealsL_app p h f X nums s.chance (by rw [nl]; omega), dealsS_app p h f X nums 0 s (by rw [nl]; omega)]
  | anew a =>
    have hn' : (f * h).toNat ≤ s.chance.length := hn
    have nl : (List.replicate h.toNat (0 : Int)).length = h.toNat := List.length_replicate
    unfold stepD madeS madeR
    dsimp only
    generalize List.replicate h.toNat (0 : Int) = nums at *
    rw [dealsL_app p h f X nums s.chance (by rw [nl]; omega), dealsS_app p h f X nums 0 s (by rw [nl]; omega)]
  | fix _ => rfl
  | byy _ _ => rfl
  | sum _ _ => rfl
  | less _ _ => rfl
  | opn _ => rfl
end
section
variable {p h f : Int} {W : List Int} {ins : List (List Int)} {os : List Op}
theorem chance_all (hp : 0 < p ∧ p < 1000) (hh : 0 ≤ h ∧ h ≤ 7) (hf : 0 ≤ f) (hk : okL p h os = true) (io : InOk p h os ins) (hl : os.length < 1000) (wl : (W.length : Int) = h) (wr : Rng p W) {ch : List Int} : ∀ i, i ≤ os.length → (deskI p h f W ins ch os i).chance = ch.drop (needsM h f (os.take i)).toNat
  | 0, _ => rfl
  | i + 1, h1 => by
    have hi : os[i]? = some os[i] := List.getElem?_eq_getElem (by omega)
    have ihc := chance_all hp hh hf hk io hl wl wr (ch := ch) i (by omega)
    have dk := dsk_all (ch := ch) (f := f) (W := W) hp hh hk io hl wl wr i (by omega)
    have oo := okL_at hk hi
    have n0 := needsM_nn (h := h) (f := f) (by omega) hf (os.take i)
    have n1 := needs_nn os[i] (h := h) (f := f) (by omega) hf
    have n2 := needsM_take (h := h) (f := f) hi
    rw [deskI_succ hi]
    show (madeS p h f _ os[i]).chance = _
    rw [madeS_chance (by omega) hf (dk.ok (by omega) wl wr) _ (by rw [dk.num]; exact oo), ihc, List.drop_drop, n2]
    congr 1
    omega
theorem deskI_app (hp : 0 < p ∧ p < 1000) (hh : 0 ≤ h ∧ h ≤ 7) (hf : 0 ≤ f) (hk : okL p h os = true) (io : InOk p h os ins) (hl : os.length < 1000) (wl : (W.length : Int) = h) (wr : Rng p W) {A : List Int} (X : List Int) : ∀ i, i ≤ os.length → (needsM h f (os.take i)).toNat ≤ A.length →
    deskI p h f W ins (A ++ X) os i = { deskI p h f W ins A os i with chance := (deskI p h f W ins A os i).chance ++ X }
  | 0, _, _ => rfl
  | i + 1, h1, hA => by
    have hi : os[i]? = some os[i] := List.getElem?_eq_getElem (by omega)
    have n0 := needsM_nn (h := h) (f := f) (by omega) hf (os.take i)
    have n1 := needs_nn os[i] (h := h) (f := f) (by omega) hf
    have n2 := needsM_take (h := h) (f := f) hi
    have ih := deskI_app hp hh hf hk io hl wl wr X (A := A) i (by omega) (by omega)
    have dk := dsk_all (ch := A) (f := f) (W := W) hp hh hk io hl wl wr i (by omega)
    have cc := chance_all hp hh hf hk io hl wl wr (ch := A) (W := W) i (by omega)
    have oo := okL_at hk hi
    rw [deskI_succ hi, deskI_succ hi, ih]
    exact stepD_app (by omega) hf (dk.ok (by omega) wl wr) _ (by rw [dk.num]; exact oo) X (by rw [cc, List.length_drop]; omega)
end
def grow (p f : Int) (V hs ds diffs : List Int) (q : Nat) (c : Int) : Int := if ds.getD (q / f.toNat) 0 ∈ hs then c else (c + V.getD (q % f.toNat + 1) 0 * diffs.getD (q / f.toNat) 0) % p
def freshM (p f : Int) (V hs ds diffs c0 : List Int) : List Int := c0.mapIdx (grow p f V hs ds diffs)
def diffM (p h : Int) (s1 s2 : DS) (o : Op) : List Int := ((numsM p h s1 o).zip (numsM p h s2 o)).map fun x => x.2 - x.1
def freshS (p h f : Int) (V hs : List Int) (s1 s2 : DS) (o : Op) : List Int := freshM p f V hs (dealersM h o) (diffM p h s1 s2 o) (s1.chance.take (o.needs h f).toNat)
def exF (p h f : Int) (W V hs : List Int) (ins oth : List (List Int)) (ch : List Int) (os : List Op) : Nat → List Int
  | 0 => []
  | i + 1 => exF p h f W V hs ins oth ch os i ++ (match os[i]? with
    | some o => freshS p h f V hs (deskI p h f W ins ch os i) (deskI p h f W oth (exF p h f W V hs ins oth ch os i) os i) o
    | none => [])
theorem exF_succ {p h f : Int} {W V hs : List Int} {ins oth : List (List Int)} {ch : List Int} {os : List Op} {i : Nat} {o : Op} (hi : os[i]? = some o) : exF p h f W V hs ins oth ch os (i + 1) = exF p h f W V hs ins oth ch os i ++ freshS p h f V hs (deskI p h f W ins ch os i) (deskI p h f W oth (exF p h f W V hs ins oth ch os i) os i) o := by
  show exF p h f W V hs ins oth ch os i ++ (match os[i]? with
    | some o => freshS p h f V hs (deskI p h f W ins ch os i) (deskI p h f W oth (exF p h f W V hs ins oth ch os i) os i) o
    | none => []) = _
  rw [hi]
theorem freshM_length (p f : Int) (V hs ds diffs c0 : List Int) : (freshM p f V hs ds diffs c0).length = c0.length := by unfold freshM; simp
section
variable {p h f : Int} {W V hs : List Int} {ins oth : List (List Int)} {os : List Op} {ch : List Int}
theorem exF_length (hp : 0 < p ∧ p < 1000) (hh : 0 ≤ h ∧ h ≤ 7) (hf : 0 ≤ f) (hk : okL p h os = true) (io : InOk p h os ins) (hl : os.length < 1000) (wl : (W.length : Int) = h) (wr : Rng p W) (hc : needsM h f os ≤ ch.length) : ∀ i, i ≤ os.length → (exF p h f W V hs ins oth ch os i).length = (needsM h f (os.take i)).toNat
  | 0, _ => rfl
  | i + 1, h1 => by
    have hi : os[i]? = some os[i] := List.getElem?_eq_getElem (by omega)
    have n0 := needsM_nn (h := h) (f := f) (by omega) hf (os.take i)
    have n1 := needs_nn os[i] (h := h) (f := f) (by omega) hf
    have n2 := needsM_take (h := h) (f := f) hi
    have n3 := needsM_le (os := os) (h := h) (f := f) (by omega) hf (i + 1)
    have ih := exF_length hp hh hf hk io hl wl wr hc i (by omega)
    have cc := chance_all hp hh hf hk io hl wl wr (ch := ch) (W := W) i (by omega)
    rw [exF_succ hi, List.length_append, ih]
    unfold freshS
    rw [freshM_length, List.length_take, cc, List.length_drop]
    omega
theorem other_desk (hp : 0 < p ∧ p < 1000) (hh : 0 ≤ h ∧ h ≤ 7) (hf : 0 ≤ f) (hk : okL p h os = true) (io : InOk p h os ins) (io2 : InOk p h os oth) (hl : os.length < 1000) (wl : (W.length : Int) = h) (wr : Rng p W) (hc : needsM h f os ≤ ch.length) {i : Nat} {o : Op} (hi : os[i]? = some o) :
    deskI p h f W oth (exF p h f W V hs ins oth ch os (i + 1)) os (i + 1) = stepD p h f W { deskI p h f W oth (exF p h f W V hs ins oth ch os i) os i with chance := freshS p h f V hs (deskI p h f W ins ch os i) (deskI p h f W oth (exF p h f W V hs ins oth ch os i) os i) o } o := by
  have il := (List.getElem?_eq_some_iff.mp hi).1
  have el := exF_length (V := V) (hs := hs) (oth := oth) hp hh hf hk io hl wl wr hc i (by omega)
  have cc := chance_all hp hh hf hk io2 hl wl wr (ch := exF p h f W V hs ins oth ch os i) (W := W) i (by omega)
  rw [deskI_succ hi]
  congr 1
  rw [exF_succ hi, deskI_app hp hh hf hk io2 hl wl wr _ i (by omega) (by omega), cc, List.drop_of_length_le (by omega), List.nil_append]
end
end VL

set_option Elab.async false
set_option linter.all false
set_option maxRecDepth 100000
set_option maxHeartbeats 4000000
namespace VL
open PySem PySem.Spec PyProof.Rows L2

section
variable {p h f : Int} {O I1 I2 C : FV} {d1 d2 fd : SV} {hs V : List Int} {od ds0 : FV}
end
end VL

set_option Elab.async false
set_option linter.all false
set_option maxRecDepth 100000
set_option maxHeartbeats 4000000
namespace VL
open PySem PySem.Spec PyProof.Rows L2

theorem step_wpn {f g : ST} {e e' : Env} {P : Env → Prop} (h : f e = .nx e') (k : (g e').wp P) : (vSeq f g e).wp P := by
  rw [vSeq_ap, h]
  exact k
theorem step_wpw {f g : ST} {e : Env} {Q P : Env → Prop} (h : (f e).wp Q) (k : ∀ e', Q e' → (g e').wp P) : (vSeq f g e).wp P := by
  rw [vSeq_ap]
  cases z : f e with
  | nx e' => rw [z] at h; exact k e' h
  | _ => rw [z] at h; exact h.elim
section
variable {p h f : Int} {W V hs : List Int} {I1 I2 C O : FV}
theorem numsM_len (hh : 0 ≤ h) {s : DS} (d : DOk p h f W s) (o : Op) (ho : o.ok p h s.shares.length = true) : (dealersM h o).length ≤ (numsM p h s o).length := by
  cases o with
  | mul a b =>
    simp only [Op.ok, Bool.and_eq_true, decide_eq_true_iff] at ho
    obtain ⟨_, _, lA⟩ := share_at d ho.1
    obtain ⟨_, _, lB⟩ := share_at d ho.2
    show ((List.range h.toNat).map fun (k : Nat) => 1 + (k : Int)).length ≤ (localM p (.mul a b) (s.shares.getD a.toNat []) (s.shares.getD b.toNat [])).length
    rw [localM_length, List.length_map, List.length_range]
    omega
  | _ => simp [dealersM, numsM]
end
end VL

set_option Elab.async false
set_option linter.all false
set_option maxRecDepth 100000
set_option maxHeartbeats 4000000
namespace VL
open PySem PySem.Spec PyProof.Rows L2

end VL

set_option Elab.async false
set_option linter.all false
set_option maxRecDepth 100000
set_option maxHeartbeats 4000000
namespace VL
open PySem PySem.Spec PyProof.Rows L2

structure VeilP (p h f : Int) (hs V : List Int) : Prop where
  len : (V.length : Int) = f + 1
  rng : Rng p V
  one : V.getD 0 0 = 1
  nil : ∀ a ∈ hs, Cg p (peval V a) 0
  val : ∀ x, Cg p (peval V x) (vprod p hs x)
theorem pv_lin {p d x : Int} : ∀ A B D : List Int, A.length = B.length → D.length = B.length → (∀ i, i < B.length → Cg p (A.getD i 0) (B.getD i 0 + d * D.getD i 0)) → Cg p (peval A x) (peval B x + d * peval D x)
  | [], [], [], _, _, _ => by show Cg p 0 (0 + d * 0); rw [Int.mul_zero, Int.add_zero]; exact Cg.refl _ _
  | a :: A, b :: B, c :: D, h1, h2, h => by
    have ih := pv_lin (x := x) A B D (by simpa using h1) (by simpa using h2) fun i hi => by
      have := h (i + 1) (by simp; omega)
      simpa using this
    have h0 : Cg p a (b + d * c) := h 0 (by simp)
    have := h0.add ((Cg.refl p x).mul ih)
    show Cg p (a + x * peval A x) (b + x * peval B x + d * (c + x * peval D x))
    rw [show b + x * peval B x + d * (c + x * peval D x) = b + d * c + x * (peval B x + d * peval D x) by grind]
    exact this
  | [], _ :: _, _, h, _, _ => by cases h
  | _ :: _, [], _, h, _, _ => by cases h
  | [], [], _ :: _, _, h, _ => by cases h
  | _ :: _, _ :: _, [], _, h, _ => by cases h
theorem dot_lin {p c : Int} : ∀ W A B D : List Int, A.length = B.length → D.length = B.length → (∀ i, i < B.length → Cg p (A.getD i 0) (B.getD i 0 + D.getD i 0 * c)) → Cg p (dot W A) (dot W B + dot W D * c)
  | [], A, B, D, _, _, _ => by
    rw [show dot [] A = 0 by cases A <;> rfl, show dot [] B = 0 by cases B <;> rfl, show dot [] D = 0 by cases D <;> rfl, Int.zero_mul, Int.add_zero]
    exact Cg.refl _ _
  | _ :: _, [], [], [], _, _, _ => by show Cg p 0 (0 + 0 * c); rw [Int.zero_mul, Int.add_zero]; exact Cg.refl _ _
  | w :: W, a :: A, b :: B, e :: D, h1, h2, h => by
    have ih := dot_lin W A B D (by simpa using h1) (by simpa using h2) fun i hi => by
      have := h (i + 1) (by simp; omega)
      simpa using this
    have h0 : Cg p a (b + e * c) := h 0 (by simp)
    have := ((Cg.refl p w).mul h0).add ih
    show Cg p (w * a + dot W A) (w * b + dot W B + (w * e + dot W D) * c)
    rw [show w * b + dot W B + (w * e + dot W D) * c = w * (b + e * c) + (dot W B + dot W D * c) by grind]
    exact this
  | _ :: _, [], _ :: _, _, h, _, _ => by cases h
  | _ :: _, _ :: _, [], _, h, _, _ => by cases h
  | _ :: _, [], [], _ :: _, _, h, _ => by cases h
  | _ :: _, _ :: _, _ :: _, [], _, h, _ => by cases h
def piece (f : Int) (c : List Int) (m : Nat) : List Int := (c.drop (f.toNat * m)).take f.toNat
theorem rowsL_at (f : Int) : ∀ (nums c : List Int) (m : Nat), m < nums.length → (rowsL f c nums).getD m [] = nums.getD m 0 :: piece f c m
  | [], _, _, h => by cases h
  | x :: xs, c, 0, _ => by
    show x :: c.take f.toNat = x :: (c.drop (f.toNat * 0)).take f.toNat
    rw [Nat.mul_zero]; rfl
  | x :: xs, c, m + 1, h => by
    show (rowsL f (c.drop f.toNat) xs).getD m [] = xs.getD m 0 :: _
    rw [rowsL_at f xs (c.drop f.toNat) m (by simpa using h)]
    unfold piece
    rw [List.drop_drop, Nat.mul_add, Nat.mul_one, Nat.add_comm]
theorem piece_length {f : Int} {c : List Int} {m n : Nat} (hc : c.length = n * f.toNat) (hm : m < n) : (piece f c m).length = f.toNat := by
  unfold piece
  rw [List.length_take, List.length_drop, hc]
  have : (m + 1) * f.toNat ≤ n * f.toNat := Nat.mul_le_mul_right _ (by omega)
  rw [Nat.add_mul, Nat.one_mul] at this
  rw [Nat.mul_comm f.toNat m]
  omega
theorem piece_at {f : Int} {c : List Int} {m n j : Nat} (hc : c.length = n * f.toNat) (hm : m < n) (hj : j < f.toNat) : (piece f c m).getD j 0 = c.getD (f.toNat * m + j) 0 := by
  unfold piece
  simp only [List.getD_eq_getElem?_getD]
  rw [List.getElem?_take_of_lt hj, List.getElem?_drop]
section
variable {p h f : Int} {V hs ds diffs c0 : List Int}
theorem fresh_at {m j : Nat} (hf : 1 ≤ f) (hc : c0.length = ds.length * f.toNat) (hm : m < ds.length) (hj : j < f.toNat) :
    (freshM p f V hs ds diffs c0).getD (f.toNat * m + j) 0 = if ds.getD m 0 ∈ hs then c0.getD (f.toNat * m + j) 0 else (c0.getD (f.toNat * m + j) 0 + V.getD (j + 1) 0 * diffs.getD m 0) % p := by
  have hfn : 0 < f.toNat := by omega
  have hq : f.toNat * m + j < c0.length := by
    rw [hc]
    have : (m + 1) * f.toNat ≤ ds.length * f.toNat := Nat.mul_le_mul_right _ (by omega)
    rw [Nat.add_mul, Nat.one_mul, Nat.mul_comm m] at this
    omega
  have hdiv : (f.toNat * m + j) / f.toNat = m := by rw [Nat.mul_add_div hfn, Nat.div_eq_of_lt hj, Nat.add_zero]
  have hmod : (f.toNat * m + j) % f.toNat = j := by rw [Nat.mul_add_mod, Nat.mod_eq_of_lt hj]
  unfold freshM
  simp only [List.getD_eq_getElem?_getD, List.getElem?_mapIdx, List.getElem?_eq_getElem hq, Option.map_some, Option.getD_some]
  unfold grow
  rw [hdiv, hmod]
  simp only [List.getD_eq_getElem?_getD]
theorem fresh_piece {m : Nat} (hf : 1 ≤ f) (hc : c0.length = ds.length * f.toNat) (hm : m < ds.length) (hi : ds.getD m 0 ∈ hs) : piece f (freshM p f V hs ds diffs c0) m = piece f c0 m := by
  have hc' : (freshM p f V hs ds diffs c0).length = ds.length * f.toNat := by rw [freshM_length, hc]
  refine List.ext_getElem (by rw [piece_length hc' hm, piece_length hc hm]) fun j h1 h2 => ?_
  have hj : j < f.toNat := by rw [piece_length hc hm] at h2; exact h2
  have e1 := piece_at (f := f) hc' hm hj
  have e2 := piece_at (f := f) hc hm hj
  rw [fresh_at hf hc hm hj, if_pos hi, ← e2] at e1
  rw [List.getD_eq_getElem?_getD, List.getD_eq_getElem?_getD, List.getElem?_eq_getElem h1, List.getElem?_eq_getElem h2] at e1
  exact e1
theorem fresh_row (v : VeilP p h f hs V) (hf : 1 ≤ f) (hc : c0.length = ds.length * f.toNat) {m : Nat} (hm : m < ds.length) {x x' : Int} (hd : diffs.getD m 0 = x' - x) (h0 : ds.getD m 0 ∈ hs → x' = x) (y : Int) :
    Cg p (peval (x' :: piece f (freshM p f V hs ds diffs c0) m) y) (peval (x :: piece f c0 m) y + (x' - x) * peval V y) := by
  have hc' : (freshM p f V hs ds diffs c0).length = ds.length * f.toNat := by rw [freshM_length, hc]
  have l1 := piece_length hc hm
  have l2 := piece_length hc' hm
  have vl := v.len
  refine pv_lin _ _ _ (by simp [l1, l2]) (by simp [l1]; omega) fun i hi => ?_
  cases i with
  | zero =>
    show Cg p x' (x + (x' - x) * V.getD 0 0)
    rw [v.one]
    rw [show x + (x' - x) * 1 = x' by omega]
    exact Cg.refl _ _
  | succ j =>
    have hj : j < f.toNat := by simp [l1] at hi; omega
    show Cg p ((piece f (freshM p f V hs ds diffs c0) m).getD j 0) ((piece f c0 m).getD j 0 + (x' - x) * V.getD (j + 1) 0)
    rw [piece_at hc' hm hj, piece_at hc hm hj, fresh_at hf hc hm hj]
    by_cases z : ds.getD m 0 ∈ hs
    · rw [if_pos z, h0 z, Int.sub_self, Int.zero_mul, Int.add_zero]; exact Cg.refl _ _
    · rw [if_neg z, hd, Int.mul_comm (x' - x)]
      exact Cg.emod _ _
theorem fresh_rng (hp : 0 < p) (hr : Rng p c0) : Rng p (freshM p f V hs ds diffs c0) := fun x m => by
  unfold freshM at m
  obtain ⟨i, hi, e⟩ := List.mem_mapIdx.mp m
  rw [← e]
  unfold grow
  split
  · exact hr _ (List.getElem_mem _)
  · exact ⟨Int.emod_nonneg _ (by omega), Int.emod_lt_of_pos _ hp⟩
end
theorem ownD_cg (f : Int) (hs : List Int) : ∀ (ds c c' : List Int), (∀ m, m < ds.length → ds.getD m 0 ∈ hs → piece f c' m = piece f c m) → ownD f hs ds c' = ownD f hs ds c
  | [], _, _, _ => rfl
  | d :: ds, c, c', h => by
    show (if d ∈ hs then c'.take f.toNat else []) ++ ownD f hs ds (c'.drop f.toNat) = (if d ∈ hs then c.take f.toNat else []) ++ ownD f hs ds (c.drop f.toNat)
    rw [ownD_cg f hs ds (c.drop f.toNat) (c'.drop f.toNat) fun m hm hi => by
      have := h (m + 1) (by simp; omega) (by simpa using hi)
      unfold piece at this ⊢
      rw [List.drop_drop, List.drop_drop]
      rwa [Nat.mul_add, Nat.mul_one, Nat.add_comm] at this]
    congr 1
    by_cases z : d ∈ hs
    · rw [if_pos z, if_pos z]
      have := h 0 (by simp) (by simpa using z)
      unfold piece at this
      rwa [Nat.mul_zero, List.drop_zero, List.drop_zero] at this
    · rw [if_neg z, if_neg z]
theorem ownD_append (f : Int) (hs : List Int) : ∀ (a b c : List Int), ownD f hs (a ++ b) c = ownD f hs a c ++ ownD f hs b (c.drop (f.toNat * a.length))
  | [], b, c => by show ownD f hs b c = [] ++ ownD f hs b (c.drop (f.toNat * 0)); rw [Nat.mul_zero]; rfl
  | d :: a, b, c => by
    show (if d ∈ hs then c.take f.toNat else []) ++ ownD f hs (a ++ b) (c.drop f.toNat) = ((if d ∈ hs then c.take f.toNat else []) ++ ownD f hs a (c.drop f.toNat)) ++ _
    rw [ownD_append f hs a b, List.append_assoc, List.drop_drop, List.length_cons, Nat.mul_add, Nat.mul_one, Nat.add_comm f.toNat]
theorem ownD_more (f : Int) (hs : List Int) (X : List Int) : ∀ (a c : List Int), f.toNat * a.length ≤ c.length → ownD f hs a (c ++ X) = ownD f hs a c
  | [], _, _ => rfl
  | d :: a, c, hl => by
    rw [List.length_cons, Nat.mul_add, Nat.mul_one] at hl
    show (if d ∈ hs then (c ++ X).take f.toNat else []) ++ ownD f hs a ((c ++ X).drop f.toNat) = (if d ∈ hs then c.take f.toNat else []) ++ ownD f hs a (c.drop f.toNat)
    rw [List.take_append_of_le_length (by omega), List.drop_append_of_le_length (by omega), ownD_more f hs X a _ (by rw [List.length_drop]; omega)]
theorem seenL_append (hs : List Int) (a b : List PyData) : seenL hs (a ++ b) = seenL hs a ++ seenL hs b := by unfold seenL; rw [List.filter_append]
theorem seen_sent (n h hand : Int) (hs A A' : List Int) (e : ∀ k : Nat, k < h.toNat → 1 + (k : Int) ∈ hs → A'.getD k 0 = A.getD k 0) : seenL hs (sentM n h hand A') = seenL hs (sentM n h hand A) := by
  unfold seenL sentM sentI
  rw [List.filter_map, List.filter_map, List.filter_filter, List.filter_filter]
  have he : ∀ B : List Int, (fun a => ((fun l => decide (lto l ∈ hs)) ∘ fun (k : Nat) => PyData.tuple [.int n, .int hand, .int (1 + (k : Int)), .int (B.getD k 0)]) a && decide (1 + (a : Int) ≠ hand)) = fun (a : Nat) => decide (1 + (a : Int) ∈ hs) && decide (1 + (a : Int) ≠ hand) := fun B => rfl
  rw [he, he]
  refine List.map_congr_left fun k m => ?_
  obtain ⟨m1, m2⟩ := List.mem_filter.mp m
  simp only [Bool.and_eq_true, decide_eq_true_iff] at m2
  rw [e k (List.mem_range.mp m1) m2.1]
theorem seen_deals (p h f : Int) (hs : List Int) : ∀ (nums nums' c c' : List Int) (k : Nat) (s s' : DS), nums'.length = nums.length → s'.shares.length = s.shares.length → seenL hs s'.letters = seenL hs s.letters →
    (∀ m, m < nums.length → ∀ j : Nat, j < h.toNat → 1 + (j : Int) ∈ hs → peval (nums'.getD m 0 :: piece f c' m) (1 + (j : Int)) % p = peval (nums.getD m 0 :: piece f c m) (1 + (j : Int)) % p) →
    seenL hs (dealsS p h f { s' with chance := c' } nums' k).letters = seenL hs (dealsS p h f { s with chance := c } nums k).letters
  | [], [], _, _, _, _, _, _, _, e, _ => e
  | [], _ :: _, _, _, _, _, _, h, _, _, _ => by cases h
  | _ :: _, [], _, _, _, _, _, h, _, _, _ => by cases h
  | x :: xs, x' :: xs', c, c', k, s, s', hl, hn, e, hv => by
    refine seen_deals p h f hs xs xs' (c.drop f.toNat) (c'.drop f.toNat) (k + 1) (dealS p h f ((k : Int) + 1) x { s with chance := c }) (dealS p h f ((k : Int) + 1) x' { s' with chance := c' }) (by simpa using hl) hn ?_ ?_
    · show seenL hs (s'.letters ++ sentM s'.shares.length h ((k : Int) + 1) (dealtM p h x' (c'.take f.toNat))) = seenL hs (s.letters ++ sentM s.shares.length h ((k : Int) + 1) (dealtM p h x (c.take f.toNat)))
      rw [seenL_append, seenL_append, e, hn]
      congr 1
      refine seen_sent _ _ _ _ _ _ fun j hj m => ?_
      rw [getD_deal hj, getD_deal hj]
      have := hv 0 (by simp) j hj m
      unfold piece at this
      rw [Nat.mul_zero, List.drop_zero, List.drop_zero] at this
      exact this
    · intro m hm j hj mj
      have := hv (m + 1) (by simp; omega) j hj mj
      unfold piece at this ⊢
      rw [List.drop_drop, List.drop_drop]
      rw [Nat.mul_add, Nat.mul_one, Nat.add_comm (f.toNat * m)] at this
      exact this
end VL

set_option Elab.async false
set_option linter.all false
set_option maxRecDepth 100000
set_option maxHeartbeats 4000000
namespace VL
open PySem PySem.Spec PyProof.Rows L2

section
variable {p h f : Int} {W V hs : List Int}
theorem dot_nums (t : Tb p h f) (w : Wt p h f W) {va vb : Int} {A B : List Int} (lA : (A.length : Int) = h) (lB : (B.length : Int) = h) (hA : RowOf p h f va A) (hB : RowOf p h f vb B) (a b : Int) : Cg p (dot W (localM p (.mul a b) A B)) (va * vb) := by
  have f1 := t.f1
  have fh := t.fh
  obtain ⟨R, l, rr, e, sh⟩ := hA
  obtain ⟨R2, l2, rr2, e2, sh2⟩ := hB
  have nl : (localM p (.mul a b) A B).length = h.toNat := by rw [localM_length]; omega
  obtain ⟨G, gl, gv⟩ : ∃ G : List Int, G.length = f.toNat + (f + 1).toNat ∧ ∀ x, peval G x = peval R x * peval R2 x := by
    cases R with
    | nil => simp at l; omega
    | cons r R =>
      obtain ⟨G, g1, g2⟩ := mul_row R2 R r
      exact ⟨G, by rw [g1, l2]; simp at l; omega, g2⟩
  have := Cg.trans (dot_cg W (localM p (.mul a b) A B) (hw h G) (by rw [nl]; unfold hw; simp) fun k x y hx hy => by
    have hk : k < h.toNat := by rw [← nl]; exact (List.getElem?_eq_some_iff.mp hx).1
    unfold hw at hy
    rw [List.getElem?_map, List.getElem?_range hk] at hy
    cases hy
    have ex : x = (localM p (.mul a b) A B).getD k 0 := by rw [List.getD_eq_getElem?_getD, hx]; rfl
    rw [ex, getD_local (by omega) (by omega)]
    show Cg p _ (peval G (1 + (k : Int)))
    rw [gv]
    exact (Cg.emod _ _).trans ((sh k hk).mul (sh2 k hk))) (w.law G (by omega))
  rwa [gv, head_val, head_val, e, e2] at this
theorem piece_take {c : List Int} {n m : Nat} (hm : m < n) : piece f (c.take (n * f.toNat)) m = piece f c m := by
  unfold piece
  have : (m + 1) * f.toNat ≤ n * f.toNat := Nat.mul_le_mul_right _ (by omega)
  rw [Nat.add_mul, Nat.one_mul, Nat.mul_comm m] at this
  rw [List.drop_take, List.take_take, Nat.min_eq_left (by omega)]
theorem diffM_at {s1 s2 : DS} {o : Op} {m : Nat} (h1 : m < (numsM p h s1 o).length) (h2 : m < (numsM p h s2 o).length) : (diffM p h s1 s2 o).getD m 0 = (numsM p h s2 o).getD m 0 - (numsM p h s1 o).getD m 0 := by
  unfold diffM
  simp only [List.getD_eq_getElem?_getD]
  rw [List.getElem?_map, List.getElem?_eq_getElem (by rw [List.length_zip]; omega), List.getElem_zip, List.getElem?_eq_getElem h1, List.getElem?_eq_getElem h2]
  rfl
theorem getD_range1 {n m : Nat} (hm : m < n) : ((List.range n).map fun (k : Nat) => 1 + (k : Int)).getD m 0 = 1 + (m : Int) := getD_map_range _ hm
structure Pair (p h f : Int) (W V hs : List Int) (P Q : List Int) (s1 s2 : DS) : Prop where
  d1 : DOk p h f W s1
  d2 : DOk p h f W s2
  num : s1.shares.length = s2.shares.length
  r1 : ∀ j : Nat, j < s1.shares.length → RowOf p h f (P.getD j 0) (s1.shares.getD j [])
  r2 : ∀ j : Nat, j < s1.shares.length → RowOf p h f (Q.getD j 0) (s2.shares.getD j [])
  sh : ∀ j : Nat, j < s1.shares.length → ∀ k : Nat, k < h.toNat → Cg p ((s2.shares.getD j []).getD k 0) ((s1.shares.getD j []).getD k 0 + (Q.getD j 0 - P.getD j 0) * peval V (1 + (k : Int)))
theorem Pair.look {P Q : List Int} {s1 s2 : DS} (pr : Pair p h f W V hs P Q s1 s2) (v : VeilP p h f hs V) (hp : 0 < p) {j k : Nat} (hj : j < s1.shares.length) (hk : k < h.toNat) (hm : 1 + (k : Int) ∈ hs) : (s2.shares.getD j []).getD k 0 = (s1.shares.getD j []).getD k 0 := by
  have e := pr.sh j hj k hk
  have z := (Cg.refl p (Q.getD j 0 - P.getD j 0)).mul (v.nil _ hm)
  rw [Int.mul_zero] at z
  have e2 := e.trans ((Cg.refl p _).add z)
  rw [Int.add_zero] at e2
  obtain ⟨_, ra, la⟩ := share_at pr.d1 (a := (j : Int)) (by omega)
  obtain ⟨_, rb, lb⟩ := share_at pr.d2 (a := (j : Int)) (by rw [← pr.num]; omega)
  rw [show (j : Int).toNat = j by omega] at ra la rb lb
  exact e2.eq (rb _ (getD_mem (by omega))) (ra _ (getD_mem (by omega)))
theorem nums_pair (t : Tb p h f) {P Q : List Int} {s1 s2 : DS} (pr : Pair p h f W V hs P Q s1 s2) (v : VeilP p h f hs V) {o : Op} (ho : o.ok p h s1.shares.length = true) (hi : ∀ hd, o = .inn hd → hd ∈ hs → numsM p h s2 o = numsM p h s1 o) :
    (numsM p h s2 o).length = (numsM p h s1 o).length ∧ ∀ m : Nat, m < (dealersM h o).length → (dealersM h o).getD m 0 ∈ hs → (numsM p h s2 o).getD m 0 = (numsM p h s1 o).getD m 0 := by
  have tp := t.pos
  have t3 := t.h3
  cases o with
  | inn hd => exact ⟨rfl, fun m hm hmem => by
      have e : m = 0 := by have : m < 1 := hm; omega
      subst e
      rw [hi hd rfl hmem]⟩
  | mul a b =>
    simp only [Op.ok, Bool.and_eq_true, decide_eq_true_iff] at ho
    obtain ⟨_, rA, lA⟩ := share_at pr.d1 ho.1
    obtain ⟨_, rB, lB⟩ := share_at pr.d1 ho.2
    obtain ⟨_, rA2, lA2⟩ := share_at pr.d2 (a := a) (by rw [← pr.num]; exact ho.1)
    obtain ⟨_, rB2, lB2⟩ := share_at pr.d2 (a := b) (by rw [← pr.num]; exact ho.2)
    refine ⟨?_, fun m hm hmem => ?_⟩
    · show (localM p _ _ _).length = (localM p _ _ _).length
      rw [localM_length, localM_length]; omega
    · have hm' : m < h.toNat := by
        have : m < ((List.range h.toNat).map fun (k : Nat) => 1 + (k : Int)).length := hm
        simpa using this
      have hmem' : 1 + (m : Int) ∈ hs := by
        have : ((List.range h.toNat).map fun (k : Nat) => 1 + (k : Int)).getD m 0 ∈ hs := hmem
        rwa [getD_range1 hm'] at this
      show (localM p _ _ _).getD m 0 = (localM p _ _ _).getD m 0
      rw [getD_local (by omega) (by omega), getD_local (by omega) (by omega), pr.look v (by omega) (by omega) hm' hmem', pr.look v (by omega) (by omega) hm' hmem']
  | _ => exact ⟨rfl, fun m hm hmem => rfl⟩
theorem rows_pair (t : Tb p h f) {P Q : List Int} {s1 s2 : DS} (pr : Pair p h f W V hs P Q s1 s2) (v : VeilP p h f hs V) {o : Op} (ho : o.ok p h s1.shares.length = true) (hi : ∀ hd, o = .inn hd → hd ∈ hs → numsM p h s2 o = numsM p h s1 o) (hn : (o.needs h f).toNat ≤ s1.chance.length) (y : Int) :
    ∀ m : Nat, m < (dealersM h o).length → Cg p (peval ((numsM p h s2 o).getD m 0 :: piece f (freshS p h f V hs s1 s2 o) m) y) (peval ((numsM p h s1 o).getD m 0 :: piece f s1.chance m) y + ((numsM p h s2 o).getD m 0 - (numsM p h s1 o).getD m 0) * peval V y) := fun m hm => by
  have tp := t.pos
  have t3 := t.h3
  have f1 := t.f1
  obtain ⟨nl, ne⟩ := nums_pair t pr v ho hi
  have nl1 := numsM_len (by omega) pr.d1 o ho
  have ed := dealers_len h f (by omega) o
  have en : (o.needs h f).toNat = (dealersM h o).length * f.toNat := by rw [ed, Int.toNat_mul (by omega) (by omega), Nat.mul_comm, Int.toNat_natCast]
  have hc0 : (s1.chance.take (o.needs h f).toNat).length = (dealersM h o).length * f.toNat := by rw [List.length_take]; omega
  have := fresh_row (p := p) (h := h) (f := f) (V := V) (hs := hs) (ds := dealersM h o) (diffs := diffM p h s1 s2 o) v f1 hc0 hm (x := (numsM p h s1 o).getD m 0) (x' := (numsM p h s2 o).getD m 0) (diffM_at (by omega) (by omega)) (ne m hm) y
  rw [show piece f (s1.chance.take (o.needs h f).toNat) m = piece f s1.chance m by rw [en]; exact piece_take hm] at this
  exact this
theorem rowsL_getD_map (f : Int) (nums c : List Int) (y : Int) (m : Nat) (hm : m < nums.length) : ((rowsL f c nums).map fun F => peval F y).getD m 0 = peval (nums.getD m 0 :: piece f c m) y := by
  have h1 : m < (rowsL f c nums).length := by rw [rowsL_length]; exact hm
  have := rowsL_at f nums c m hm
  simp only [List.getD_eq_getElem?_getD] at this ⊢
  rw [List.getElem?_map, List.getElem?_eq_getElem h1]
  rw [List.getElem?_eq_getElem h1] at this
  show peval _ y = _
  rw [show (rowsL f c nums)[m] = _ from this]
theorem sum_pair (t : Tb p h f) {P Q : List Int} {s1 s2 : DS} (pr : Pair p h f W V hs P Q s1 s2) (v : VeilP p h f hs V) {o : Op} (ho : o.ok p h s1.shares.length = true) (hi : ∀ hd, o = .inn hd → hd ∈ hs → numsM p h s2 o = numsM p h s1 o) (hn : (o.needs h f).toNat ≤ s1.chance.length) (hd : (numsM p h s1 o).length ≤ (dealersM h o).length) (c : List Int) (y : Int) :
    Cg p (dot c ((rowsL f (freshS p h f V hs s1 s2 o) (numsM p h s2 o)).map fun F => peval F y)) (dot c ((rowsL f s1.chance (numsM p h s1 o)).map fun F => peval F y) + dot c (diffM p h s1 s2 o) * peval V y) := by
  obtain ⟨nl, ne⟩ := nums_pair t pr v ho hi
  refine dot_lin c _ _ _ (by rw [List.length_map, List.length_map, rowsL_length, rowsL_length, nl]) (by rw [List.length_map, rowsL_length]; unfold diffM; simp [nl]) fun m hm => ?_
  rw [List.length_map, rowsL_length] at hm
  rw [rowsL_getD_map f _ _ y m (by omega), rowsL_getD_map f _ _ y m hm, diffM_at (by omega) (by omega)]
  exact rows_pair t pr v ho hi hn y m (by omega)
theorem dot_diff {s1 s2 : DS} {o : Op} (c : List Int) (nl : (numsM p h s2 o).length = (numsM p h s1 o).length) : Cg p (dot c (numsM p h s2 o)) (dot c (numsM p h s1 o) + dot c (diffM p h s1 s2 o) * 1) := by
  refine dot_lin c _ _ _ nl (by unfold diffM; simp [nl]) fun m hm => ?_
  rw [diffM_at hm (by omega)]
  rw [show (numsM p h s1 o).getD m 0 + ((numsM p h s2 o).getD m 0 - (numsM p h s1 o).getD m 0) * 1 = (numsM p h s2 o).getD m 0 by omega]
  exact Cg.refl _ _
end
end VL

set_option Elab.async false
set_option linter.all false
set_option maxRecDepth 100000
set_option maxHeartbeats 4000000
namespace VL
open PySem PySem.Spec PyProof.Rows L2

theorem Cg.sub {p a b c d : Int} (h : Cg p a b) (h' : Cg p c d) : Cg p (a - c) (b - d) := by
  have := h.add ((Cg.refl p (-1)).mul h')
  rw [show a + -1 * c = a - c by omega, show b + -1 * d = b - d by omega] at this
  exact this
theorem ext_getD {A B : List Int} (hl : A.length = B.length) (h : ∀ k, k < A.length → A.getD k 0 = B.getD k 0) : A = B := by
  refine List.ext_getElem hl fun k h1 h2 => ?_
  have := h k h1
  rw [List.getD_eq_getElem?_getD, List.getElem?_eq_getElem h1, List.getD_eq_getElem?_getD, List.getElem?_eq_getElem h2] at this
  exact this
section
variable {p h f : Int} {W V hs : List Int}
theorem made_pair (t : Tb p h f) (w : Wt p h f W) {P Q : List Int} {s1 s2 : DS} (pr : Pair p h f W V hs P Q s1 s2) (v : VeilP p h f hs V) {o : Op} (ho : o.ok p h s1.shares.length = true) (hi : ∀ hd, o = .inn hd → hd ∈ hs → numsM p h s2 o = numsM p h s1 o) (hn : (o.needs h f).toNat ≤ s1.chance.length)
    {ins oth : List (List Int)} {pre : List Op} (hv1 : ∀ hd, o = .inn hd → valM p ins pre P o = (s1.left.getD (hd - 1).toNat []).getD 0 0) (hv2 : ∀ hd, o = .inn hd → valM p oth pre Q o = (s2.left.getD (hd - 1).toNat []).getD 0 0) {k : Nat} (hk : k < h.toNat) :
    Cg p ((madeR p h f W { s2 with chance := freshS p h f V hs s1 s2 o } o).getD k 0) ((madeR p h f W s1 o).getD k 0 + (valM p oth pre Q o - valM p ins pre P o) * peval V (1 + (k : Int))) := by
  have tp := t.pos
  have t3 := t.h3
  have f1 := t.f1
  cases o with
  | inn hd =>
    have e1 := hv1 hd rfl
    have e2 := hv2 hd rfl
    have := rows_pair t pr v ho hi hn (1 + (k : Int)) 0 (by show 0 < 1; omega)
    show Cg p ((dealtM p h ((s2.left.getD (hd - 1).toNat []).getD 0 0) ((freshS p h f V hs s1 s2 (.inn hd)).take f.toNat)).getD k 0) ((dealtM p h ((s1.left.getD (hd - 1).toNat []).getD 0 0) (s1.chance.take f.toNat)).getD k 0 + _)
    rw [getD_deal hk, getD_deal hk, e1, e2]
    have pz : ∀ c : List Int, piece f c 0 = c.take f.toNat := fun c => by unfold piece; rw [Nat.mul_zero, List.drop_zero]
    rw [pz, pz] at this
    exact (Cg.emod _ _).trans (this.trans ((Cg.emod _ _).symm.add (Cg.refl _ _)))
  | fix n =>
    show Cg p ((List.replicate h.toNat n).getD k 0) ((List.replicate h.toNat n).getD k 0 + (n - n) * peval V (1 + (k : Int)))
    rw [Int.sub_self, Int.zero_mul, Int.add_zero]
    exact Cg.refl _ _
  | byy a n =>
    simp only [Op.ok, Bool.and_eq_true, decide_eq_true_iff] at ho
    obtain ⟨_, _, lA⟩ := share_at pr.d1 ho.1
    obtain ⟨_, _, lA2⟩ := share_at pr.d2 (a := a) (by rw [← pr.num]; exact ho.1)
    have e := pr.sh a.toNat (by omega) k hk
    show Cg p (((s2.shares.getD a.toNat []).map fun x => x * n % p).getD k 0) (((s1.shares.getD a.toNat []).map fun x => x * n % p).getD k 0 + (Q.getD a.toNat 0 * n % p - P.getD a.toNat 0 * n % p) * peval V (1 + (k : Int)))
    rw [getD_map1 (by omega), getD_map1 (by omega)]
    have r := ((Cg.emod p ((s1.shares.getD a.toNat []).getD k 0 * n)).add (((Cg.emod p (Q.getD a.toNat 0 * n)).sub (Cg.emod p (P.getD a.toNat 0 * n))).mul (Cg.refl p (peval V (1 + (k : Int))))))
    have l := (Cg.emod p ((s2.shares.getD a.toNat []).getD k 0 * n)).trans (e.mul (Cg.refl p n))
    rw [show ((s1.shares.getD a.toNat []).getD k 0 + (Q.getD a.toNat 0 - P.getD a.toNat 0) * peval V (1 + (k : Int))) * n = (s1.shares.getD a.toNat []).getD k 0 * n + (Q.getD a.toNat 0 * n - P.getD a.toNat 0 * n) * peval V (1 + (k : Int)) by grind] at l
    exact l.trans r.symm
  | sum a b =>
    simp only [Op.ok, Bool.and_eq_true, decide_eq_true_iff] at ho
    obtain ⟨_, _, lA⟩ := share_at pr.d1 ho.1
    obtain ⟨_, _, lA2⟩ := share_at pr.d2 (a := a) (by rw [← pr.num]; exact ho.1)
    obtain ⟨_, _, lB⟩ := share_at pr.d1 ho.2
    obtain ⟨_, _, lB2⟩ := share_at pr.d2 (a := b) (by rw [← pr.num]; exact ho.2)
    have e := (pr.sh a.toNat (by omega) k hk).add (pr.sh b.toNat (by omega) k hk)
    show Cg p ((localM p (.sum a b) (s2.shares.getD a.toNat []) (s2.shares.getD b.toNat [])).getD k 0) ((localM p (.sum a b) (s1.shares.getD a.toNat []) (s1.shares.getD b.toNat [])).getD k 0 + ((Q.getD a.toNat 0 + Q.getD b.toNat 0) % p - (P.getD a.toNat 0 + P.getD b.toNat 0) % p) * peval V (1 + (k : Int)))
    rw [getD_local (by omega) (by omega), getD_local (by omega) (by omega)]
    show Cg p (((s2.shares.getD a.toNat []).getD k 0 + (s2.shares.getD b.toNat []).getD k 0) % p) (((s1.shares.getD a.toNat []).getD k 0 + (s1.shares.getD b.toNat []).getD k 0) % p + _)
    generalize (s1.shares.getD a.toNat []).getD k 0 = A at *
    generalize (s1.shares.getD b.toNat []).getD k 0 = B at *
    generalize (s2.shares.getD a.toNat []).getD k 0 = A2 at *
    generalize (s2.shares.getD b.toNat []).getD k 0 = B2 at *
    generalize Q.getD a.toNat 0 = qa at *
    generalize Q.getD b.toNat 0 = qb at *
    generalize P.getD a.toNat 0 = pa at *
    generalize P.getD b.toNat 0 = pb at *
    generalize peval V (1 + (k : Int)) = y at *
    have r := ((Cg.emod p (A + B)).add (((Cg.emod p (qa + qb)).sub (Cg.emod p (pa + pb))).mul (Cg.refl p y)))
    have l := (Cg.emod p (A2 + B2)).trans e
    rw [show A + (qa - pa) * y + (B + (qb - pb) * y) = A + B + (qa + qb - (pa + pb)) * y by grind] at l
    exact l.trans r.symm
  | less a b =>
    simp only [Op.ok, Bool.and_eq_true, decide_eq_true_iff] at ho
    obtain ⟨_, _, lA⟩ := share_at pr.d1 ho.1
    obtain ⟨_, _, lA2⟩ := share_at pr.d2 (a := a) (by rw [← pr.num]; exact ho.1)
    obtain ⟨_, _, lB⟩ := share_at pr.d1 ho.2
    obtain ⟨_, _, lB2⟩ := share_at pr.d2 (a := b) (by rw [← pr.num]; exact ho.2)
    have e := (pr.sh a.toNat (by omega) k hk).sub (pr.sh b.toNat (by omega) k hk)
    show Cg p ((localM p (.less a b) (s2.shares.getD a.toNat []) (s2.shares.getD b.toNat [])).getD k 0) ((localM p (.less a b) (s1.shares.getD a.toNat []) (s1.shares.getD b.toNat [])).getD k 0 + ((Q.getD a.toNat 0 - Q.getD b.toNat 0) % p - (P.getD a.toNat 0 - P.getD b.toNat 0) % p) * peval V (1 + (k : Int)))
    rw [getD_local (by omega) (by omega), getD_local (by omega) (by omega)]
    show Cg p (((s2.shares.getD a.toNat []).getD k 0 - (s2.shares.getD b.toNat []).getD k 0) % p) (((s1.shares.getD a.toNat []).getD k 0 - (s1.shares.getD b.toNat []).getD k 0) % p + _)
    generalize (s1.shares.getD a.toNat []).getD k 0 = A at *
    generalize (s1.shares.getD b.toNat []).getD k 0 = B at *
    generalize (s2.shares.getD a.toNat []).getD k 0 = A2 at *
    generalize (s2.shares.getD b.toNat []).getD k 0 = B2 at *
    generalize Q.getD a.toNat 0 = qa at *
    generalize Q.getD b.toNat 0 = qb at *
    generalize P.getD a.toNat 0 = pa at *
    generalize P.getD b.toNat 0 = pb at *
    generalize peval V (1 + (k : Int)) = y at *
    have r := ((Cg.emod p (A - B)).add (((Cg.emod p (qa - qb)).sub (Cg.emod p (pa - pb))).mul (Cg.refl p y)))
    have l := (Cg.emod p (A2 - B2)).trans e
    rw [show A + (qa - pa) * y - (B + (qb - pb) * y) = A - B + (qa - qb - (pa - pb)) * y by grind] at l
    exact l.trans r.symm
  | mul a b =>
    have nl := (nums_pair t pr v ho hi).1
    have nle : (numsM p h s1 (.mul a b)).length ≤ (dealersM h (.mul a b)).length := by
      simp only [Op.ok, Bool.and_eq_true, decide_eq_true_iff] at ho
      obtain ⟨_, _, lA⟩ := share_at pr.d1 ho.1
      show (localM p _ _ _).length ≤ ((List.range h.toNat).map fun (k : Nat) => 1 + (k : Int)).length
      rw [localM_length, List.length_map, List.length_range]; omega
    have sp := sum_pair t pr v ho hi hn nle W (1 + (k : Int))
    have dd := dot_diff (p := p) (h := h) (s1 := s1) (s2 := s2) (o := .mul a b) W nl
    simp only [Op.ok, Bool.and_eq_true, decide_eq_true_iff] at ho
    obtain ⟨_, _, lA⟩ := share_at pr.d1 ho.1
    obtain ⟨_, _, lA2⟩ := share_at pr.d2 (a := a) (by rw [← pr.num]; exact ho.1)
    obtain ⟨_, _, lB⟩ := share_at pr.d1 ho.2
    obtain ⟨_, _, lB2⟩ := share_at pr.d2 (a := b) (by rw [← pr.num]; exact ho.2)
    have n1 := dot_nums t w lA lB (pr.r1 a.toNat (by omega)) (pr.r1 b.toNat (by omega)) a b
    have n2 := dot_nums t w lA2 lB2 (pr.r2 a.toNat (by omega)) (pr.r2 b.toNat (by omega)) a b
    show Cg p ((summedM p h (dealsL p h f (freshS p h f V hs s1 s2 (.mul a b)) (numsM p h s2 (.mul a b))) W).getD k 0) ((summedM p h (dealsL p h f s1.chance (numsM p h s1 (.mul a b))) W).getD k 0 + (Q.getD a.toNat 0 * Q.getD b.toNat 0 % p - P.getD a.toNat 0 * P.getD b.toNat 0 % p) * peval V (1 + (k : Int)))
    rw [getD_summed hk, getD_summed hk, dealsL_col p h f hk, dealsL_col p h f hk]
    have l := (Cg.emod p _).trans ((dot_mod (p := p) W (rowsL f (freshS p h f V hs s1 s2 (.mul a b)) (numsM p h s2 (.mul a b))) (1 + (k : Int))).trans sp)
    refine l.trans ?_
    refine Cg.add (((Cg.emod p _).trans (dot_mod (p := p) W _ _)).symm) ?_
    refine Cg.mul ?_ (Cg.refl _ _)
    have e1 : Cg p (dot W (diffM p h s1 s2 (.mul a b))) (dot W (numsM p h s2 (.mul a b)) - dot W (numsM p h s1 (.mul a b))) := by
      have := (dd.symm).sub (Cg.refl p (dot W (numsM p h s1 (.mul a b))))
      rw [Int.mul_one, show dot W (numsM p h s1 (.mul a b)) + dot W (diffM p h s1 s2 (.mul a b)) - dot W (numsM p h s1 (.mul a b)) = dot W (diffM p h s1 s2 (.mul a b)) by omega] at this
      exact this
    exact e1.trans ((n2.sub n1).trans ((Cg.emod p _).sub (Cg.emod p _)).symm)
  | anew a =>
    have sp := sum_pair t pr v ho hi hn (by show (List.replicate h.toNat (0 : Int)).length ≤ ((List.range h.toNat).map fun (k : Nat) => 1 + (k : Int)).length; simp) (List.replicate h.toNat 1) (1 + (k : Int))
    have dz : diffM p h s1 s2 (.anew a) = List.replicate h.toNat 0 := by
      show (((List.replicate h.toNat (0 : Int)).zip (List.replicate h.toNat 0)).map fun x => x.2 - x.1) = _
      rw [List.zip_replicate', List.map_replicate]
      rfl
    rw [dz, dot_zero, Int.zero_mul, Int.add_zero] at sp
    simp only [Op.ok, Bool.and_eq_true, decide_eq_true_iff] at ho
    have e := pr.sh a.toNat (by omega) k hk
    show Cg p ((summedM p h (s2.shares.getD a.toNat [] :: dealsL p h f (freshS p h f V hs s1 s2 (.anew a)) (numsM p h s2 (.anew a))) (List.replicate (h + 1).toNat 1)).getD k 0) ((summedM p h (s1.shares.getD a.toNat [] :: dealsL p h f s1.chance (numsM p h s1 (.anew a))) (List.replicate (h + 1).toNat 1)).getD k 0 + (Q.getD a.toNat 0 - P.getD a.toNat 0) * peval V (1 + (k : Int)))
    rw [getD_summed hk, getD_summed hk, show (h + 1).toNat = h.toNat + 1 by omega, List.replicate_succ]
    rw [List.map_cons, List.map_cons, dealsL_col p h f hk, dealsL_col p h f hk]
    have l2 := (Cg.emod p (dot (1 :: List.replicate h.toNat 1) ((s2.shares.getD a.toNat []).getD k 0 :: (rowsL f (freshS p h f V hs s1 s2 (.anew a)) (numsM p h s2 (.anew a))).map fun F => peval F (1 + (k : Int)) % p)))
    have r2 := (Cg.emod p (dot (1 :: List.replicate h.toNat 1) ((s1.shares.getD a.toNat []).getD k 0 :: (rowsL f s1.chance (numsM p h s1 (.anew a))).map fun F => peval F (1 + (k : Int)) % p)))
    refine l2.trans (Cg.trans ?_ (r2.symm.add (Cg.refl _ _)))
    show Cg p (1 * (s2.shares.getD a.toNat []).getD k 0 + dot (List.replicate h.toNat 1) ((rowsL f (freshS p h f V hs s1 s2 (.anew a)) (numsM p h s2 (.anew a))).map fun F => peval F (1 + (k : Int)) % p)) (1 * (s1.shares.getD a.toNat []).getD k 0 + dot (List.replicate h.toNat 1) ((rowsL f s1.chance (numsM p h s1 (.anew a))).map fun F => peval F (1 + (k : Int)) % p) + (Q.getD a.toNat 0 - P.getD a.toNat 0) * peval V (1 + (k : Int)))
    have x := ((Cg.refl p 1).mul e).add ((dot_mod (p := p) (List.replicate h.toNat 1) _ _).trans (sp.trans (dot_mod (p := p) (List.replicate h.toNat 1) _ _).symm))
    rw [show 1 * ((s1.shares.getD a.toNat []).getD k 0 + (Q.getD a.toNat 0 - P.getD a.toNat 0) * peval V (1 + (k : Int))) + dot (List.replicate h.toNat 1) ((rowsL f s1.chance (numsM p h s1 (.anew a))).map fun F => peval F (1 + (k : Int)) % p) = 1 * (s1.shares.getD a.toNat []).getD k 0 + dot (List.replicate h.toNat 1) ((rowsL f s1.chance (numsM p h s1 (.anew a))).map fun F => peval F (1 + (k : Int)) % p) + (Q.getD a.toNat 0 - P.getD a.toNat 0) * peval V (1 + (k : Int)) by omega] at x
    exact x
  | opn a =>
    simp only [Op.ok, Bool.and_eq_true, decide_eq_true_iff] at ho
    exact pr.sh a.toNat (by omega) k hk
theorem row_look (t : Tb p h f) {P Q : List Int} {s1 s2 : DS} (pr : Pair p h f W V hs P Q s1 s2) (v : VeilP p h f hs V) {o : Op} (ho : o.ok p h s1.shares.length = true) (hi : ∀ hd, o = .inn hd → hd ∈ hs → numsM p h s2 o = numsM p h s1 o) (hn : (o.needs h f).toNat ≤ s1.chance.length) {m j : Nat} (hm : m < (dealersM h o).length) (hj : 1 + (j : Int) ∈ hs) :
    peval ((numsM p h s2 o).getD m 0 :: piece f (freshS p h f V hs s1 s2 o) m) (1 + (j : Int)) % p = peval ((numsM p h s1 o).getD m 0 :: piece f s1.chance m) (1 + (j : Int)) % p := by
  have e := rows_pair t pr v ho hi hn (1 + (j : Int)) m hm
  have z := (Cg.refl p ((numsM p h s2 o).getD m 0 - (numsM p h s1 o).getD m 0)).mul (v.nil _ hj)
  rw [Int.mul_zero] at z
  have e2 := e.trans ((Cg.refl p _).add z)
  rw [Int.add_zero] at e2
  exact e2.mod_eq
theorem letters_pair (t : Tb p h f) {P Q : List Int} {s1 s2 : DS} (pr : Pair p h f W V hs P Q s1 s2) (v : VeilP p h f hs V) {o : Op} (ho : o.ok p h s1.shares.length = true) (hi : ∀ hd, o = .inn hd → hd ∈ hs → numsM p h s2 o = numsM p h s1 o) (hn : (o.needs h f).toNat ≤ s1.chance.length)
    (hl : seenL hs s2.letters = seenL hs s1.letters) (hop : ∀ a, o = .opn a → Q.getD a.toNat 0 = P.getD a.toNat 0) :
    seenL hs (madeS p h f { s2 with chance := freshS p h f V hs s1 s2 o } o).letters = seenL hs (madeS p h f s1 o).letters := by
  have tp := t.pos
  have t3 := t.h3
  have nl := (nums_pair t pr v ho hi).1
  have rl := fun (m j : Nat) (hm : m < (dealersM h o).length) (hj : 1 + (j : Int) ∈ hs) => row_look t pr v ho hi hn hm hj
  cases o with
  | inn hd =>
    have r0 := fun (j : Nat) hj => rl 0 j (by show 0 < 1; omega) hj
    have pz : ∀ c : List Int, piece f c 0 = c.take f.toNat := fun c => by unfold piece; rw [Nat.mul_zero, List.drop_zero]
    show seenL hs (s2.letters ++ sentM s2.shares.length h hd (dealtM p h ((s2.left.getD (hd - 1).toNat []).getD 0 0) ((freshS p h f V hs s1 s2 (.inn hd)).take f.toNat))) = seenL hs (s1.letters ++ sentM s1.shares.length h hd (dealtM p h ((s1.left.getD (hd - 1).toNat []).getD 0 0) (s1.chance.take f.toNat)))
    rw [seenL_append, seenL_append, hl, pr.num]
    congr 1
    refine seen_sent _ _ _ _ _ _ fun j hj mj => ?_
    rw [getD_deal hj, getD_deal hj]
    have := r0 j mj
    rw [pz, pz] at this
    exact this
  | mul a b =>
    have dl : (dealersM h (.mul a b)).length = h.toNat := by show ((List.range h.toNat).map fun (k : Nat) => 1 + (k : Int)).length = _; simp
    have nle : (numsM p h s1 (.mul a b)).length ≤ h.toNat := by
      simp only [Op.ok, Bool.and_eq_true, decide_eq_true_iff] at ho
      obtain ⟨_, _, lA⟩ := share_at pr.d1 ho.1
      show (localM p _ _ _).length ≤ _
      rw [localM_length]; omega
    exact seen_deals p h f hs (numsM p h s1 (.mul a b)) (numsM p h s2 (.mul a b)) s1.chance (freshS p h f V hs s1 s2 (.mul a b)) 0 s1 s2 nl pr.num.symm hl fun m hm j hj mj => rl m j (by omega) mj
  | anew a =>
    have dl : (dealersM h (.anew a)).length = h.toNat := by show ((List.range h.toNat).map fun (k : Nat) => 1 + (k : Int)).length = _; simp
    have nle : (numsM p h s1 (.anew a)).length = h.toNat := by show (List.replicate h.toNat (0 : Int)).length = _; simp
    exact seen_deals p h f hs (numsM p h s1 (.anew a)) (numsM p h s2 (.anew a)) s1.chance (freshS p h f V hs s1 s2 (.anew a)) 0 s1 s2 nl pr.num.symm hl fun m hm j hj mj => rl m j (by omega) mj
  | opn a =>
    simp only [Op.ok, Bool.and_eq_true, decide_eq_true_iff] at ho
    obtain ⟨_, rA, lA⟩ := share_at pr.d1 ho
    obtain ⟨_, rA2, lA2⟩ := share_at pr.d2 (a := a) (by rw [← pr.num]; exact ho)
    have e : s2.shares.getD a.toNat [] = s1.shares.getD a.toNat [] := by
      refine ext_getD (by omega) fun k h1 => ?_
      have e := pr.sh a.toNat (by omega) k (by omega)
      rw [hop a rfl, Int.sub_self, Int.zero_mul, Int.add_zero] at e
      exact e.eq (rA2 _ (getD_mem (by omega))) (rA _ (getD_mem (by omega)))
    show seenL hs (s2.letters ++ opensI s2.shares.length h (s2.shares.getD a.toNat []) h.toNat) = seenL hs (s1.letters ++ opensI s1.shares.length h (s1.shares.getD a.toNat []) h.toNat)
    rw [e, pr.num, seenL_append, seenL_append, hl]
  | fix _ => exact hl
  | byy _ _ => exact hl
  | sum _ _ => exact hl
  | less _ _ => exact hl
end
end VL

set_option Elab.async false
set_option linter.all false
set_option maxRecDepth 100000
set_option maxHeartbeats 4000000
namespace VL
open PySem PySem.Spec PyProof.Rows L2

section
variable {p h f : Int} {W V hs : List Int} {ins oth : List (List Int)} {os : List Op} {ch : List Int}
theorem exF_pre : ∀ (n i : Nat), i ≤ n → ∃ X, exF p h f W V hs ins oth ch os n = exF p h f W V hs ins oth ch os i ++ X
  | 0, i, h => by
    have : i = 0 := by omega
    subst this
    exact ⟨[], by simp⟩
  | n + 1, i, hi => by
    by_cases e : i = n + 1
    · subst e; exact ⟨[], by simp⟩
    · obtain ⟨X, hX⟩ := exF_pre n i (by omega)
      show ∃ X, exF p h f W V hs ins oth ch os n ++ _ = exF p h f W V hs ins oth ch os i ++ X
      rw [hX, List.append_assoc]
      exact ⟨_, rfl⟩
theorem exF_rng (hp : 0 < p ∧ p < 1000) (hh : 0 ≤ h ∧ h ≤ 7) (hf : 0 ≤ f) (hk : okL p h os = true) (io : InOk p h os ins) (hl : os.length < 1000) (wl : (W.length : Int) = h) (wr : Rng p W) (rc : Rng p ch) : ∀ i, i ≤ os.length → Rng p (exF p h f W V hs ins oth ch os i)
  | 0, _ => fun x m => by cases m
  | i + 1, h1 => fun x m => by
    have hi : os[i]? = some os[i] := List.getElem?_eq_getElem (by omega)
    have cc := chance_all hp hh hf hk io hl wl wr (ch := ch) (W := W) i (by omega)
    rw [exF_succ hi] at m
    rcases List.mem_append.mp m with m | m
    · exact exF_rng hp hh hf hk io hl wl wr rc i (by omega) x m
    · unfold freshS at m
      exact fresh_rng hp.1 (fun y my => rc y (by rw [cc] at my; exact List.mem_of_mem_drop (List.mem_of_mem_take my))) x m
theorem used_take {hd : Int} (hu : usedRows os ins hs = usedRows os oth hs) (hm : hd ∈ hs) : (ins.getD (hd - 1).toNat []).take (usedM os hd) = (oth.getD (hd - 1).toNat []).take (usedM os hd) := List.map_inj_left.mp hu hd hm
theorem used_in {hd : Int} {i : Nat} (hi : os[i]? = some (.inn hd)) (hu : usedRows os ins hs = usedRows os oth hs) (hm : hd ∈ hs) (P Q : List Int) : valM p oth (os.take i) Q (.inn hd) = valM p ins (os.take i) P (.inn hd) := by
  have e := used_take hu hm
  have lt := used_lt hi
  show (oth.getD (hd - 1).toNat []).getD (usedM (os.take i) hd) 0 = (ins.getD (hd - 1).toNat []).getD (usedM (os.take i) hd) 0
  generalize oth.getD (hd - 1).toNat [] = A at *
  generalize ins.getD (hd - 1).toNat [] = B at *
  have := congrArg (fun l => l.getD (usedM (os.take i) hd) 0) e
  simp only [List.getD_eq_getElem?_getD] at this ⊢
  rw [List.getElem?_take_of_lt lt, List.getElem?_take_of_lt lt] at this
  exact this.symm
structure Kept (p h f : Int) (W V hs : List Int) (ins oth : List (List Int)) (ch : List Int) (os : List Op) (i : Nat) : Prop where
  pr : Pair p h f W V hs (plainI p ins os i) (plainI p oth os i) (deskI p h f W ins ch os i) (deskI p h f W oth (exF p h f W V hs ins oth ch os i) os i)
  lt : seenL hs (deskI p h f W oth (exF p h f W V hs ins oth ch os i) os i).letters = seenL hs (deskI p h f W ins ch os i).letters
  own : ownD f hs (allD h (os.take i)) (exF p h f W V hs ins oth ch os i) = ownD f hs (allD h (os.take i)) ch
theorem kept (t : Tb p h f) (w : Wt p h f W) (v : VeilP p h f hs V) (hk : okL p h os = true) (io : InOk p h os ins) (io2 : InOk p h os oth) (hl : os.length < 1000) (hc : (ch.length : Int) = needsM h f os) (rc : Rng p ch) (hu : usedRows os ins hs = usedRows os oth hs)
    (hop : ∀ i a, os[i]? = some (.opn a) → (plainM p ins os).getD i 0 = (plainM p oth os).getD i 0) : ∀ i, i ≤ os.length → Kept p h f W V hs ins oth ch os i
  | 0, _ => by
    have tp := t.pos
    have t3 := t.h3
    have t7 := t.h7
    have k1 := dsk_all (ch := ch) (f := f) (W := W) ⟨by omega, by omega⟩ ⟨by omega, by omega⟩ hk io hl w.len w.rng 0 (by omega)
    have k2 := dsk_all (ch := exF p h f W V hs ins oth ch os 0) (f := f) (W := W) ⟨by omega, by omega⟩ ⟨by omega, by omega⟩ hk io2 hl w.len w.rng 0 (by omega)
    have z : (deskI p h f W ins ch os 0).shares.length = 0 := rfl
    exact ⟨⟨k1.ok (by omega) w.len w.rng, k2.ok (by omega) w.len w.rng, rfl, fun j hj => by omega, fun j hj => by omega, fun j hj => by omega⟩, rfl, rfl⟩
  | i + 1, h1 => by
    have tp := t.pos
    have t3 := t.h3
    have t7 := t.h7
    have f1 := t.f1
    have f2 := t.f2
    have hi : os[i]? = some os[i] := List.getElem?_eq_getElem (by omega)
    have ih := kept t w v hk io io2 hl hc rc hu hop i (by omega)
    have hp : 0 < p ∧ p < 1000 := ⟨by omega, by omega⟩
    have hh : 0 ≤ h ∧ h ≤ 7 := ⟨by omega, by omega⟩
    have k1 := dsk_all (ch := ch) (f := f) (W := W) hp hh hk io hl w.len w.rng i (by omega)
    have k2 := dsk_all (ch := exF p h f W V hs ins oth ch os i) (f := f) (W := W) hp hh hk io2 hl w.len w.rng i (by omega)
    have k1' := dsk_all (ch := ch) (f := f) (W := W) hp hh hk io hl w.len w.rng (i + 1) h1
    have k2' := dsk_all (ch := exF p h f W V hs ins oth ch os (i + 1)) (f := f) (W := W) hp hh hk io2 hl w.len w.rng (i + 1) h1
    have od := other_desk (f := f) (V := V) (hs := hs) (W := W) (ch := ch) hp hh (by omega) hk io io2 hl w.len w.rng (by omega) hi
    have el := exF_length (V := V) (hs := hs) (oth := oth) (W := W) (ch := ch) hp hh (by omega : 0 ≤ f) hk io hl w.len w.rng (by omega) i (by omega)
    have eln := exF_length (V := V) (hs := hs) (oth := oth) (W := W) (ch := ch) hp hh (by omega : 0 ≤ f) hk io hl w.len w.rng (by omega) os.length (Nat.le_refl _)
    have ern := exF_rng (V := V) (hs := hs) (oth := oth) (W := W) (ch := ch) hp hh (by omega : 0 ≤ f) hk io hl w.len w.rng rc os.length (Nat.le_refl _)
    have el' := exF_length (V := V) (hs := hs) (oth := oth) (W := W) (ch := ch) hp hh (by omega : 0 ≤ f) hk io hl w.len w.rng (by omega) (i + 1) h1
    have cc := chance_all (f := f) (ch := ch) (W := W) hp hh (by omega) hk io hl w.len w.rng i (by omega)
    have n0 := needsM_nn (h := h) (f := f) (by omega) (by omega) (os.take i)
    have n1 := needs_nn os[i] (h := h) (f := f) (by omega) (by omega)
    have n2 := needsM_take (h := h) (f := f) hi
    have n3 := needsM_le (os := os) (h := h) (f := f) (by omega) (by omega) (i + 1)
    have nn := needsM_nn (h := h) (f := f) (by omega) (by omega) os
    have ef := exF_succ (p := p) (h := h) (f := f) (W := W) (V := V) (hs := hs) (ins := ins) (oth := oth) (ch := ch) hi
    have ds := deskI_succ (p := p) (h := h) (f := f) (W := W) (ins := ins) (ch := ch) hi
    have ok' : os[i].ok p h (deskI p h f W ins ch os i).shares.length = true := by rw [k1.num]; exact okL_at hk hi
    have q1 := plainI_succ (p := p) (ins := ins) hi
    have q2 := plainI_succ (p := p) (ins := oth) hi
    have pl1 := plainI_length (p := p) (ins := ins) (os := os) i (by omega)
    have pl2 := plainI_length (p := p) (ins := oth) (os := os) i (by omega)
    have inh1 := fun hd (e : os[i] = .inn hd) => inn_head hk io (show os[i]? = some (.inn hd) by rw [hi, e]) (plainI p ins os i)
    have inh2 := fun hd (e : os[i] = .inn hd) => inn_head hk io2 (show os[i]? = some (.inn hd) by rw [hi, e]) (plainI p oth os i)
    have hin : ∀ hd, os[i] = .inn hd → hd ∈ hs → numsM p h (deskI p h f W oth (exF p h f W V hs ins oth ch os i) os i) os[i] = numsM p h (deskI p h f W ins ch os i) os[i] := fun hd e m => by
      have a1 := (inh1 hd e).1
      have a2 := (inh2 hd e).1
      have u := used_in (p := p) (show os[i]? = some (.inn hd) by rw [hi, e]) hu m (plainI p ins os i) (plainI p oth os i)
      rw [e]
      show [((deskI p h f W oth (exF p h f W V hs ins oth ch os i) os i).left.getD (hd - 1).toNat []).getD 0 0] = [((deskI p h f W ins ch os i).left.getD (hd - 1).toNat []).getD 0 0]
      rw [k1.left, k2.left, ← a1, ← a2, u]
    have hn : (os[i].needs h f).toNat ≤ (deskI p h f W ins ch os i).chance.length := by rw [cc, List.length_drop]; omega
    have hopi : ∀ a, os[i] = .opn a → (plainI p oth os i).getD a.toNat 0 = (plainI p ins os i).getD a.toNat 0 := fun a e => by
      have := hop i a (by rw [hi, e])
      rw [plainM_at (show os[i]? = some (.opn a) by rw [hi, e]), plainM_at (show os[i]? = some (.opn a) by rw [hi, e])] at this
      exact this.symm
    have mp := fun k (hk : k < h.toNat) => made_pair t w ih.pr v ok' hin hn (ins := ins) (oth := oth) (pre := os.take i) (fun hd e => by rw [e, k1.left]; exact (inh1 hd e).1) (fun hd e => by rw [e, k2.left]; exact (inh2 hd e).1) hk
    have lp := letters_pair t ih.pr v ok' hin hn ih.lt hopi
    have ra1 := (rows_all t w hk io hl hc rc (i + 1) h1).2
    have ra2 : ∀ j : Nat, j < i + 1 → RowOf p h f ((plainI p oth os (i + 1)).getD j 0) ((deskI p h f W oth (exF p h f W V hs ins oth ch os (i + 1)) os (i + 1)).shares.getD j []) := fun j hj => by
      obtain ⟨X, hX⟩ := exF_pre (p := p) (h := h) (f := f) (W := W) (V := V) (hs := hs) (ins := ins) (oth := oth) (os := os) (ch := ch) os.length (i + 1) h1
      have := (rows_all t w hk io2 hl (ch := exF p h f W V hs ins oth ch os os.length) (by rw [eln, List.take_length]; omega) ern (i + 1) h1).2 j hj
      rw [hX, deskI_app hp hh (by omega) hk io2 hl w.len w.rng X (i + 1) h1 (by omega)] at this
      exact this
    have esh1 : (deskI p h f W ins ch os (i + 1)).shares = (deskI p h f W ins ch os i).shares ++ [madeR p h f W (deskI p h f W ins ch os i) os[i]] := by rw [ds]; rfl
    have esh2 : (deskI p h f W oth (exF p h f W V hs ins oth ch os (i + 1)) os (i + 1)).shares = (deskI p h f W oth (exF p h f W V hs ins oth ch os i) os i).shares ++ [madeR p h f W { deskI p h f W oth (exF p h f W V hs ins oth ch os i) os i with chance := freshS p h f V hs (deskI p h f W ins ch os i) (deskI p h f W oth (exF p h f W V hs ins oth ch os i) os i) os[i] } os[i]] := by rw [od]; rfl
    refine ⟨⟨k1'.ok (by omega) w.len w.rng, k2'.ok (by omega) w.len w.rng, by rw [k1'.num, k2'.num], fun j hj => ra1 j (by rw [k1'.num] at hj; exact hj), fun j hj => ra2 j (by rw [k1'.num] at hj; exact hj), fun j hj k hk => ?_⟩, ?_, ?_⟩
    · rw [k1'.num] at hj
      rw [esh1, esh2, q1, q2]
      by_cases e : j < i
      · rw [getD_app_l _ (by rw [k2.num]; exact e), getD_app_l _ (by rw [k1.num]; exact e), getD_app_l _ (by omega), getD_app_l _ (by omega)]
        exact ih.pr.sh j (by rw [k1.num]; exact e) k hk
      · have e2 : j = i := by omega
        subst e2
        have z1 := fun (x : List Int) => (show ((deskI p h f W ins ch os j).shares ++ [x]).getD j [] = x by
          have := getD_app_r (a := (deskI p h f W ins ch os j).shares) (x := x) []
          rwa [k1.num] at this)
        have z2 := fun (x : List Int) => (show ((deskI p h f W oth (exF p h f W V hs ins oth ch os j) os j).shares ++ [x]).getD j [] = x by
          have := getD_app_r (a := (deskI p h f W oth (exF p h f W V hs ins oth ch os j) os j).shares) (x := x) []
          rwa [k2.num] at this)
        have z3 := fun (x : Int) => (show (plainI p ins os j ++ [x]).getD j 0 = x by
          have := getD_app_r (a := plainI p ins os j) (x := x) 0
          rwa [pl1] at this)
        have z4 := fun (x : Int) => (show (plainI p oth os j ++ [x]).getD j 0 = x by
          have := getD_app_r (a := plainI p oth os j) (x := x) 0
          rwa [pl2] at this)
        rw [z1, z2, z3, z4]
        exact mp k hk
    · rw [od, ds]
      exact lp
    · have eA : allD h (os.take (i + 1)) = allD h (os.take i) ++ dealersM h os[i] := by unfold allD; rw [take_succ' hi, List.flatMap_append]; simp
      have al := allD_len h f (by omega) (os.take i)
      have aln : (needsM h f (os.take i)).toNat = f.toNat * (allD h (os.take i)).length := by rw [al, Int.toNat_mul (by omega) (by omega), Int.toNat_natCast]
      have ed := dealers_len h f (by omega) os[i]
      have en : (os[i].needs h f).toNat = (dealersM h os[i]).length * f.toNat := by rw [ed, Int.toNat_mul (by omega) (by omega), Nat.mul_comm, Int.toNat_natCast]
      rw [eA, ef, ownD_append, ownD_append, ownD_more f hs _ _ _ (by omega), ih.own]
      congr 1
      rw [List.drop_append, List.drop_of_length_le (by omega), List.nil_append, el, aln, Nat.sub_self, List.drop_zero]
      refine ownD_cg f hs _ _ _ fun m hm hmem => ?_
      unfold freshS
      rw [fresh_piece f1 (by rw [List.length_take]; omega) hm hmem, en, piece_take hm, cc, aln]
end
end VL

set_option Elab.async false
set_option linter.all false
set_option maxRecDepth 100000
set_option maxHeartbeats 4000000
namespace VL
open PySem PySem.Spec PyProof.Rows L2

section
variable {p h f : Int} {W V hs : List Int} {ins oth : List (List Int)} {os : List Op} {ch : List Int}
end
end VL

set_option Elab.async false
set_option linter.all false
set_option maxRecDepth 100000
set_option maxHeartbeats 4000000
namespace VL
open PySem PySem.Spec PyProof.Rows L2

end VL

set_option Elab.async false
set_option linter.all false
set_option maxRecDepth 100000
set_option maxHeartbeats 4000000
namespace VL
open PySem PySem.Spec PyProof.Rows L2

section
variable {ns : List Int} {p h f many way one two : Int}
end
end VL

set_option Elab.async false
set_option linter.all false
set_option maxRecDepth 100000
set_option maxHeartbeats 4000000
namespace VL
open PySem PySem.Spec PyProof.Rows L2

theorem runO_weights (p h f : Int) (t : Tb p h f) : ∃ Fs, runO S_weights [tbl p h f] = .ok (SV.dl ((heads Fs).map .int)) ∧ WtR p h Fs h.toNat := by
  have tp := t.pos
  have thp := t.hp
  have t3 := t.h3
  have t7 := t.h7
  unfold S_weights B_weights
  rw [runO_mk]
  obtain ⟨I, hI⟩ : ∃ I : Nat → Env → Prop, ∀ j e, I j e ↔ ∃ Fs s2 s3, (free s2 = true ∧ free s3 = true) ∧ WtR p h Fs j ∧ e = [.va (.f (tbl p h f)), .va (SV.dl ((heads Fs).map .int)), s2, s3, .no] := ⟨_, fun _ _ => Iff.rfl⟩
  simp (disch := first | rfl | assumption | omega | simp [*])
  refine exO_wp (Q := fun Fs r => r = .ok (SV.dl ((heads Fs).map .int)) ∧ WtR p h Fs h.toNat) (wp_for I ?_ ?_ ?_)
  · exact (hI _ _).mpr ⟨[], .no, .no, ⟨rfl, rfl⟩, ⟨rfl, fun k F hF => by simp at hF⟩, rfl⟩
  · intro j x e hx h1
    obtain ⟨Fs, s2, s3, ⟨h2, h3⟩, wr, rfl⟩ := (hI _ _).mp h1
    obtain ⟨hj, rfl⟩ := rng_get hx
    have ok := unitP_ok t (1 + (j : Int))
    have ul := unitP_length h (1 + (j : Int))
    rcases run_through p h f t (unitP h (1 + (j : Int))) (by omega) (fun q m => (ok.rng q m).1) (fun q m => by have := (ok.rng q m).2; omega) with ⟨nd, _⟩ | ⟨_, F, hF, th⟩
    · exact absurd (up_dist ok.up) nd
    · have fl : 0 < F.length := by rw [th.len, ul]; omega
      have f0 := getD0_at fl
      have hdl : ((heads Fs).map PyData.int).length < 16777216 := by unfold heads; rw [List.length_map, List.length_map, wr.len]; omega
      rw [gN_ap (t := s2) rfl h2, oW_some]
      rw [show (List.set [.va (.f (tbl p h f)), .va (SV.dl ((heads Fs).map .int)), s2, s3, .no] 2 (.va (.f (.d (.int (1 + (j : Int))))))) = [.va (.f (tbl p h f)), .va (SV.dl ((heads Fs).map .int)), .va (.f (.d (.int (1 + (j : Int))))), s3, .no] from rfl]
      have hc : ((vComp (v2 rng2 (toD (vC (.int 1))) (frD (v2 addV (toD (vFld "Table" "hands" (vVar 0))) (toD (vC (.int 1)))))) (gN 4) vYes (unO (vTup (vCons (toD (vVar 4)) (vCons (toD (frO (v1 intP (toD (vCmp .eq (vVarD 4) (vVarD 2)))))) vNil)))) [4]) [.va (.f (tbl p h f)), .va (SV.dl ((heads Fs).map .int)), .va (.f (.d (.int (1 + (j : Int))))), s3, .no]).bind frF = .ok (.d (.list (ptsP (unitP h (1 + (j : Int)))))) := by
        rw [comp_map (items := rngP 1 h.toNat) (fun x => .tuple [.int (unI x), .int (if unI x = 1 + (j : Int) then 1 else 0)])]
        · unfold ptsP unitP rngP
          rw [List.map_map, List.map_map]
          rfl
        · simp (disch := first | rfl | assumption | omega | simp [*])
        · rw [rngP_length]; omega
        · intro x hx
          obtain ⟨i, hi, rfl⟩ := rngP_mem hx
          refine ⟨_, gN_ap (t := .no) rfl rfl, ?_⟩
          by_cases q : 1 + (i : Int) = 1 + (j : Int) <;> simp (disch := first | rfl | assumption | omega | simp [*]) [q]
      rw [vSeq_ap, vSet_ap, frO_ap, hc, ofR_ok]
      simp (disch := first | rfl | assumption | omega | simp [*]) [hF, f0]
      refine (hI _ _).mpr ⟨Fs ++ [F], .va (.f (.d (.int (1 + (j : Int))))), .va (.f (.d (.list (ptsP (unitP h (1 + (j : Int))))))), ⟨rfl, rfl⟩, ⟨by rw [List.length_append, wr.len]; rfl, fun k G hG => ?_⟩, ?_⟩
      · by_cases q : k < Fs.length
        · rw [List.getElem?_append_left q] at hG; exact wr.row k G hG
        · have e : k = j := by
            have := (List.getElem?_eq_some_iff.mp hG).1
            rw [List.length_append, wr.len] at this
            rw [wr.len] at q
            simp at this
            omega
          subst e
          rw [List.getElem?_append_right (by rw [wr.len]; exact Nat.le_refl _), wr.len, Nat.sub_self] at hG
          cases hG
          exact th
      · unfold heads
        rw [List.map_append, List.map_append]
        simp [List.getElem?_eq_getElem fl]
  · intro e h1
    obtain ⟨Fs, s2, s3, _, wr, rfl⟩ := (hI _ _).mp h1
    rw [rngP_length] at wr
    refine ⟨Fs, ?_, wr⟩
    rw [vRetV_va (s := SV.dl ((heads Fs).map .int)) 1 _ rfl]
    rfl

theorem forR_nil (i : Nat) (s : SV) (g : Tgt) (b : ST) (e : Env) (h : e[i]? = some (.rf s)) : forR i s g b [] e = .nx e := if_pos h
theorem forR_cons (i : Nat) (s : SV) (g : Tgt) (b : ST) (x : PyData) (xs : List PyData) (e : Env) (h : e[i]? = some (.rf s)) : forR i s g b (x :: xs) e = (match g x e with
    | some e1 => (match b e1 with
      | .nx e2 => forR i s g b xs e2
      | _ => .bad)
    | none => .bad) := if_pos h
theorem forE_wp {i : Nat} {g : Tgt} {b : ST} {env : Env} {ns : List Int} {P : Env → Prop} (I : Nat → Env → Prop) (h : env[i]? = some (.va (SV.dl (ns.map .int)))) (h0 : I 0 (env.set i (.rf (SV.dl (ns.map .int)))))
    (hs : ∀ j x e, ns[j]? = some x → I j e → e[i]? = some (.rf (SV.dl (ns.map .int))) ∧ oW (g (.tuple [.int (j : Nat), .int x]) e) fun e1 => (b e1).wp (I (j + 1))) (he : ∀ e, I ns.length e → e[i]? = some (.rf (SV.dl (ns.map .int))) ∧ P (e.set i (.va (SV.dl (ns.map .int))))) : (vForE i g b env).wp P := by
  have key : ∀ (l : List Int) (j : Nat) (e : Env), (∀ m x, l[m]? = some x → ns[j + m]? = some x) → j + l.length = ns.length → I j e → (offR i (SV.dl (ns.map .int)) (forR i (SV.dl (ns.map .int)) g b (enumP j (l.map .int)) e)).wp P := by
    intro l
    induction l with
    | nil =>
      intro j e _ hl hj
      rw [show j = ns.length from hl] at hj
      obtain ⟨h1, h2⟩ := he e hj
      rw [show enumP j (List.map PyData.int []) = [] from rfl, forR_nil i _ g b e h1]
      unfold offR
      dsimp only
      rw [if_pos h1]
      exact h2
    | cons x xs ih =>
      intro j e hm hl hj
      obtain ⟨h1, h2⟩ := hs j x e (hm 0 x rfl) hj
      rw [show enumP j (List.map PyData.int (x :: xs)) = .tuple [.int (j : Nat), .int x] :: enumP (j + 1) (xs.map .int) from rfl, forR_cons i _ g b _ _ e h1]
      cases z : g (.tuple [.int (j : Nat), .int x]) e with
      | none => rw [z] at h2; exact h2.elim
      | some e1 =>
        rw [z] at h2
        dsimp only
        have h2' : (b e1).wp (I (j + 1)) := h2
        cases z2 : b e1 with
        | nx e2 =>
          rw [z2] at h2'
          dsimp only
          exact ih (j + 1) e2 (fun m y q => by rw [show j + 1 + m = j + (m + 1) by omega]; exact hm (m + 1) y q) (by rw [List.length_cons] at hl; omega) h2'
        | rt _ _ => rw [z2] at h2'; exact h2'.elim
        | err _ _ => rw [z2] at h2'; exact h2'.elim
        | bad => rw [z2] at h2'; exact h2'.elim
  unfold vForE
  rw [h]
  dsimp only
  rw [show intsS (SV.dl (ns.map .int)) = some ns from intsX_dl ns]
  exact key ns 0 _ (fun m x q => by rw [Nat.zero_add]; exact q) (Nat.zero_add _) h0
def totW (p : Int) (G : List Int) : List Int → Nat → Int
  | [], _ => 0
  | w :: ws, k => w * (peval G ((k : Int) + 1) % p) + totW p G ws (k + 1)
theorem totW_cg (p : Int) (G : List Int) : ∀ (ws : List Int) (k n : Nat), ws.length = n → Cg p (totW p G ws k) (dot ((List.range' k n).map fun (i : Nat) => peval G (1 + (i : Int))) ws)
  | [], k, n, h => by cases h; exact Cg.refl _ _
  | w :: ws, k, n, h => by
    cases n with
    | zero => cases h
    | succ n =>
      have ih := totW_cg p G ws (k + 1) n (Nat.succ.inj h)
      rw [List.range'_succ]
      show Cg p (w * (peval G ((k : Int) + 1) % p) + totW p G ws (k + 1)) (peval G (1 + (k : Int)) * w + dot ((List.range' (k + 1) n).map fun (i : Nat) => peval G (1 + (i : Int))) ws)
      rw [show (1 : Int) + k = k + 1 by omega]
      obtain ⟨a, ha⟩ := ih
      obtain ⟨c, hc⟩ := Cg.emod p (peval G ((k : Int) + 1))
      refine ⟨a + w * c, ?_⟩
      rw [ha]
      have : w * (peval G ((k : Int) + 1) % p) = w * (peval G ((k : Int) + 1) + p * c) := by rw [← hc]
      rw [this]
      grind
theorem totW_law {p h f : Int} (t : Tb p h f) {Fs : List (List Int)} (wr : WtR p h Fs h.toNat) (G : List Int) (hG : (G.length : Int) ≤ h) : totW p G (heads Fs) 0 % p = G.getD 0 0 % p := by
  have a := totW_cg p G (heads Fs) 0 h.toNat (heads_length wr)
  have b := wt_law t wr G hG
  unfold hw at b
  rw [List.range_eq_range'] at b
  obtain ⟨x, hx⟩ := a
  obtain ⟨y, hy⟩ := b
  rw [head_val] at hy
  rw [hx, hy, Int.add_assoc, ← Int.mul_add, Int.add_mul_emod_self_left]
def uE (ns : List Int) (p h f : Int) (s3 s4 s5 s6 s7 s8 s9 : Slot) : Env := [.va (.f (.sc ns)), .va (.f (tbl p h f)), .va (.f (.d (.int p))), s3, s4, s5, s6, s7, s8, s9, .no]
theorem sum_enum (p : Int) (G : List Int) : ∀ (ws : List Int) (k : Nat), ∃ zs : List Int, (enumP k (ws.map PyData.int)).map (fun x => PyData.int (match x with | .tuple [.int i, .int w] => w * (peval G (i + 1) % p) | _ => 0)) = zs.map .int ∧ zs.sum = totW p G ws k
  | [], k => ⟨[], rfl, rfl⟩
  | w :: ws, k => by
    obtain ⟨zs, h1, h2⟩ := sum_enum p G ws (k + 1)
    refine ⟨w * (peval G ((k : Int) + 1) % p) :: zs, ?_, ?_⟩
    · show _ :: _ = _ :: _
      rw [show (enumP (k + 1) (List.map PyData.int ws)).map _ = zs.map .int from h1]
    · rw [List.sum_cons, h2]
      rfl
end VL

set_option Elab.async false
set_option linter.all false
set_option maxRecDepth 100000
set_option maxHeartbeats 4000000
namespace VL
open PySem PySem.Spec PyProof.Rows L2

theorem pop_last {e : Env} {i : Nat} {ds : List PyData} (h : e[i]? = some (.va (SV.dl ds))) (hl : 0 < ds.length) (hd : e.map dv = e) : ∃ xs, vEx (vPopL (plN i)) e = .nx (e.set i (.va (.own xs))) := by
  refine ⟨(ds.map fun p => SV.f (.d p)).eraseIdx ((ds.map fun p => SV.f (.d p)).length - 1), ?_⟩
  have hr : rd e i = some (SV.dl ds) := by rw [rd_ap, h]; rfl
  rw [vEx_ap]
  unfold vPopL
  rw [plN_ap, hr]
  show ofO (popL e (i, [], SV.dl ds)) e _ = _
  unfold popL
  show ofO (match (ds.map fun p => SV.f (.d p))[(ds.map fun p => SV.f (.d p)).length - 1]? with
    | some y => oE y (putP e (i, [], SV.dl ds) ((ds.map fun p => SV.f (.d p)).eraseIdx ((ds.map fun p => SV.f (.d p)).length - 1)))
    | none => .bad) e _ = _
  rw [List.getElem?_eq_getElem (by rw [List.length_map]; omega)]
  dsimp only
  unfold putP
  rw [tree_va h]
  show ofO (Out.ok _ ((e.map dv).set i (.va (.own _)))) e _ = _
  rw [hd]
  rfl
theorem enum_mem : ∀ (ws : List Int) (k : Nat) (x : PyData), x ∈ enumP k (ws.map .int) → ∃ (i : Nat) (w : Int), x = .tuple [.int i, .int w] ∧ w ∈ ws
  | [], k, x, h => by cases h
  | w :: ws, k, x, h => by
    rcases List.mem_cons.mp h with q | q
    · exact ⟨k, w, q, List.mem_cons_self⟩
    · obtain ⟨i, v, a, b⟩ := enum_mem ws (k + 1) x q
      exact ⟨i, v, a, List.mem_cons_of_mem _ b⟩
theorem vForE_go {ns : List Int} {p h f : Int} (t : Tb p h f) {W : List Int} (hW : Rng p W) (G : List Int) (g : FP) (x : Int) (s6 s7 : Slot) (h6 : free s6 = true ∧ dv s6 = s6) (h7 : free s7 = true ∧ dv s7 = s7)
    (hg : ∀ s5 s6 s7, g (uE ns p h f (.rf (SV.dl (W.map .int))) (.va (.f (.d (.int x)))) s5 s6 s7 .no .no) = .ok (.d (.list (G.map .int)))) :
    (vForE 3 (gT 2 (gsC (gN 6) (gsC (gN 7) gsN)))
      (vSet 5 (frO (v2 addV (vVarD 5) (frD (v2 mulV (vVarD 7) (frD (vCall S__law_worth (aC (vVar 2) (aC g (aC (frO (v2 addV (vVarD 6) (toD (vC (.int 1))))) aN))))))))))
      (uE ns p h f (.va (SV.dl (W.map .int))) (.va (.f (.d (.int x)))) (.va (.f (.d (.int 0)))) s6 s7 .no .no)).wp fun e => ∃ s6 s7, (free s6 = true ∧ dv s6 = s6) ∧ (free s7 = true ∧ dv s7 = s7) ∧ e = uE ns p h f (.va (SV.dl (W.map .int))) (.va (.f (.d (.int x)))) (.va (.f (.d (.int (totW p G W 0))))) s6 s7 .no .no := by
  have tp := t.pos
  have thp := t.hp
  obtain ⟨I, hI⟩ : ∃ I : Nat → Env → Prop, ∀ j e, I j e ↔ ∃ y s6 s7, (free s6 = true ∧ dv s6 = s6) ∧ (free s7 = true ∧ dv s7 = s7) ∧ y + totW p G (W.drop j) j = totW p G W 0 ∧ e = uE ns p h f (.rf (SV.dl (W.map .int))) (.va (.f (.d (.int x)))) (.va (.f (.d (.int y)))) s6 s7 .no .no := ⟨_, fun _ _ => Iff.rfl⟩
  refine forE_wp I rfl ((hI _ _).mpr ⟨0, s6, s7, h6, h7, by rw [List.drop_zero]; omega, rfl⟩) ?_ ?_
  · intro j w e hj h1
    obtain ⟨y, s6, s7, h6, h7, hy, rfl⟩ := (hI _ _).mp h1
    refine ⟨rfl, ?_⟩
    have hw := hW w (List.mem_of_getElem? hj)
    have hl := (List.getElem?_eq_some_iff.mp hj).1
    rw [List.drop_eq_getElem_cons hl, (List.getElem?_eq_some_iff.mp hj).2] at hy
    have e1 : gT 2 (gsC (gN 6) (gsC (gN 7) gsN)) (.tuple [.int (j : Nat), .int w]) (uE ns p h f (.rf (SV.dl (W.map .int))) (.va (.f (.d (.int x)))) (.va (.f (.d (.int y)))) s6 s7 .no .no) = some (uE ns p h f (.rf (SV.dl (W.map .int))) (.va (.f (.d (.int x)))) (.va (.f (.d (.int y)))) (.va (.f (.d (.int j)))) (.va (.f (.d (.int w)))) .no .no) := by
      rw [gT_ap, if_pos (show ([PyData.int (j : Nat), PyData.int w] : List PyData).length = 2 from rfl), gsC_ap, gN_ap (t := s6) rfl h6.1, show (some (List.set (uE ns p h f (.rf (SV.dl (W.map .int))) (.va (.f (.d (.int x)))) (.va (.f (.d (.int y)))) s6 s7 .no .no) 6 (.va (.f (.d (.int j)))))).bind (gsC (gN 7) gsN [.int w]) = gsC (gN 7) gsN [.int w] (uE ns p h f (.rf (SV.dl (W.map .int))) (.va (.f (.d (.int x)))) (.va (.f (.d (.int y)))) (.va (.f (.d (.int j)))) s7 .no .no) from rfl, gsC_ap, gN_ap (t := s7) rfl h7.1]
      rfl
    rw [e1, oW_some]
    have hrun := run_lworth p ((j : Int) + 1) G (by omega) (by omega)
    have hgg := hg (.va (.f (.d (.int y)))) (.va (.f (.d (.int j)))) (.va (.f (.d (.int w))))
    have e2 : (vSet 5 (frO (v2 addV (vVarD 5) (frD (v2 mulV (vVarD 7) (frD (vCall S__law_worth (aC (vVar 2) (aC g (aC (frO (v2 addV (vVarD 6) (toD (vC (.int 1))))) aN))))))))))
        (uE ns p h f (.rf (SV.dl (W.map .int))) (.va (.f (.d (.int x)))) (.va (.f (.d (.int y)))) (.va (.f (.d (.int j)))) (.va (.f (.d (.int w)))) .no .no) = .nx (uE ns p h f (.rf (SV.dl (W.map .int))) (.va (.f (.d (.int x)))) (.va (.f (.d (.int (y + w * (peval G ((j : Int) + 1) % p)))))) (.va (.f (.d (.int j)))) (.va (.f (.d (.int w)))) .no .no) := by
      unfold uE at hgg ⊢
      simp (disch := first | rfl | assumption | omega | simp [*]) [hgg, hrun]
    rw [e2]
    exact (hI _ _).mpr ⟨_, .va (.f (.d (.int j))), .va (.f (.d (.int w))), ⟨rfl, rfl⟩, ⟨rfl, rfl⟩, by rw [← hy]; show _ = y + (w * (peval G ((j : Int) + 1) % p) + totW p G (W.drop (j + 1)) (j + 1)); omega, rfl⟩
  · intro e h1
    obtain ⟨y, s6, s7, h6, h7, hy, rfl⟩ := (hI _ _).mp h1
    rw [List.drop_length] at hy
    have hy' : y = totW p G W 0 := by rw [← hy]; show y = y + 0; omega
    subst hy'
    exact ⟨rfl, s6, s7, h6, h7, rfl⟩
theorem numbersM_rng' (c : Int) (many : Nat) (p : Int) (hp : 0 < p) : Rng p (numbersM c many p) := fun x m => by
  unfold numbersM at m
  obtain ⟨k, _, rfl⟩ := List.mem_map.mp m
  unfold mixM
  exact ⟨Int.emod_nonneg _ (by omega), Int.emod_lt_of_pos _ hp⟩
theorem run_law05 (ns : List Int) : run S_law_v4 [.sc ns] = .ok (.d (.bool true)) := by
  unfold S_law_v4 B_law_v4
  rw [run_mk]
  have t := tab_ok (cellAt ns 0)
  have tp := t.pos
  have t3 := t.h3
  have t7 := t.h7
  have thp := t.hp
  have hb := run_table_by (cellAt ns 0)
  generalize tabP (cellAt ns 0) = p at *
  generalize tabH (cellAt ns 0) = h at *
  generalize tabF (cellAt ns 0) = f at *
  obtain ⟨Fs, hro, wr⟩ := runO_weights p h f t
  have hrun := run_ofO hro (frF_dl _)
  have hlen := heads_length wr
  have hW := heads_rng (by omega) wr
  have hlaw : ∀ G : List Int, (G.length : Int) ≤ h → totW p G (heads Fs) 0 % p = G.getD 0 0 % p := fun G hG => totW_law t wr G hG
  clear wr
  generalize heads Fs = W at *
  have hlp : 0 < W.length := by omega
  refine step_nx (e' := [.va (.f (.sc ns)), .va (.f (tbl p h f)), .no, .no, .no, .no, .no, .no, .no, .no, .no]) (by simp (disch := first | rfl | assumption | omega | simp [*]) [hb]) ?_
  refine step_nx (e' := uE ns p h f .no .no .no .no .no .no .no) (by unfold uE; simp (disch := first | rfl | assumption | omega | simp [*])) ?_
  refine step_nx (e' := uE ns p h f (.va (SV.dl (W.map .int))) .no .no .no .no .no .no) (by unfold uE; simp (disch := first | rfl | assumption | omega | simp [*]) [vCall_raw, hro]) ?_
  refine step_nx (e' := uE ns p h f (.va (SV.dl (W.map .int))) .no .no .no .no .no .no) (by
    have hli : ((W.map PyData.int).length : Int) = h := by rw [List.length_map]; omega
    have isl : isI .list (PyData.list (W.map .int)) = true := rfl
    unfold uE; simp (disch := first | rfl | assumption | omega | simp [*]) [isl, hlen, show max h 0 = h by omega]) ?_
  have hal : (vComp (vItL (vVarD 3)) (gN 10) vYes (unO (vAnd (frO (vCall S__law_whole (aC (vVar 10) aN))) (vChain .le .lt (toD (vC (.int 0))) (vVarD 10) (vVarD 2)))) [10] (uE ns p h f (.va (SV.dl (W.map .int))) .no .no .no .no .no .no)).bind frF = .ok (.d (allT (W.map PyData.int).length)) := by
    refine comp_true ?_ (by simp; omega) fun x m => ?_
    · unfold uE; simp
    · obtain ⟨a, ma, rfl⟩ := List.mem_map.mp m
      have ra := hW a ma
      exact ⟨_, rfl, by unfold uE; simp (disch := first | rfl | assumption | omega | simp [*]) [ra.1, ra.2]⟩
  refine step_nx (e' := uE ns p h f (.va (SV.dl (W.map .int))) .no .no .no .no .no .no) (by unfold uE at hal ⊢; simp (disch := first | rfl | assumption | omega | simp [*]) [hal]) ?_
  obtain ⟨I, hI⟩ : ∃ I : Nat → Env → Prop, ∀ j e, I j e ↔ ∃ s4 s5 s6 s7, (free s4 = true ∧ dv s4 = s4) ∧ (free s5 = true ∧ dv s5 = s5) ∧ (free s6 = true ∧ dv s6 = s6) ∧ (free s7 = true ∧ dv s7 = s7) ∧ e = uE ns p h f (.va (SV.dl (W.map .int))) s4 s5 s6 s7 .no .no := ⟨_, fun _ _ => Iff.rfl⟩
  have cneq : ∀ a b : Int, Cop.h .ne (.int a) (.int b) = .ok (.d (.bool (!decide (a = b)))) := fun a b => by simp
  refine step_wp (P := fun e => ∃ j, I j e) ?_ ?_
  · have hit : v1 rng1 (toD (vFld "Table" "hands" (vVar 1))) (uE ns p h f (.va (SV.dl (W.map .int))) .no .no .no .no .no .no) = .ok (rngP 0 h.toNat) := by
      unfold uE
      simp (disch := first | rfl | assumption | omega | simp [*])
    rw [vFor_ap, hit, ofR_ok]
    refine wp_for I ((hI _ _).mpr ⟨.no, .no, .no, .no, ⟨rfl, rfl⟩, ⟨rfl, rfl⟩, ⟨rfl, rfl⟩, ⟨rfl, rfl⟩, rfl⟩) ?_ (fun e h1 => ⟨_, h1⟩)
    intro j x e hx h1
    obtain ⟨s4, s5, s6, s7, h4, h5, h6, h7, rfl⟩ := (hI _ _).mp h1
    obtain ⟨hj, rfl⟩ := rng_get hx
    rw [gN_ap (t := s4) rfl h4.1, oW_some, Int.zero_add]
    show ((vSeq _ _) (uE ns p h f (.va (SV.dl (W.map .int))) (.va (.f (.d (.int (j : Int))))) s5 s6 s7 .no .no)).wp _
    refine step_wpn (e' := uE ns p h f (.va (SV.dl (W.map .int))) (.va (.f (.d (.int (j : Int))))) (.va (.f (.d (.int 0)))) s6 s7 .no .no) ?_ ?_
    · have := h5.1
      unfold uE
      simp (disch := first | rfl | assumption | omega | simp [*])
    · have hG : ∀ s5 s6 s7, (frO (v2 addV (frD (v2 mulV (frD (vLst (vCons (toD (vC (.int 0))) vNil))) (vVarD 4))) (frD (vLst (vCons (toD (vC (.int 1))) vNil))))) (uE ns p h f (.rf (SV.dl (W.map .int))) (.va (.f (.d (.int (j : Int))))) s5 s6 s7 .no .no) = .ok (.d (.list ((List.replicate j (0 : Int) ++ [1]).map .int))) := by
        intro s5 s6 s7
        have hrep : mulV (.list [.int 0]) (.int (j : Int)) = .ok (SV.dl ((List.replicate j (0 : Int)).map .int)) := by
          rw [mulV_rep, cIf_pos ⟨by omega, by omega, by simp; omega⟩]
          congr 2
          rw [show ((j : Int)).toNat = j by omega]
          clear hj hx h1
          induction j with
          | zero => rfl
          | succ j ih => rw [List.replicate_succ, List.flatten_cons, ih, List.replicate_succ]; rfl
        rw [List.map_append]
        have hl1 : ((List.replicate j (0 : Int)).map PyData.int).length + [PyData.int 1].length ≤ 16777216 := by simp; omega
        unfold uE
        simp (disch := first | rfl | assumption | omega | simp [*]) [hrep]
      refine step_wpw (vForE_go t hW (List.replicate j (0 : Int) ++ [1]) _ (j : Int) s6 s7 h6 h7 hG) ?_
      rintro e ⟨s6, s7, h6, h7, rfl⟩
      have ht := hlaw (List.replicate j (0 : Int) ++ [1]) (by simp; omega)
      have hv : (List.replicate j (0 : Int) ++ [1]).getD 0 0 % p = if (j : Int) = 0 then 1 else 0 := by
        cases j with
        | zero =>
          have h1p : (1 : Int) % p = 1 := Int.emod_eq_of_lt (by omega) (by omega)
          simpa using h1p
        | succ j =>
          rw [if_neg (by omega), List.replicate_succ]
          show (0 : Int) % p = 0
          exact Int.zero_emod p
      rw [hv] at ht
      generalize totW p (List.replicate j (0 : Int) ++ [1]) W 0 = T at *
      have e3 : (vIfS (toT (vCmp .ne (toD (v2 modI (vVarD 5) (vVarD 2))) (frD (v1 intP (toD (vCmp .eq (vVarD 4) (toD (vC (.int 0))))))))) (vRetP (vC (.bool false))) vSkip) (uE ns p h f (.va (SV.dl (W.map .int))) (.va (.f (.d (.int (j : Int))))) (.va (.f (.d (.int T)))) s6 s7 .no .no) = .nx (uE ns p h f (.va (SV.dl (W.map .int))) (.va (.f (.d (.int (j : Int))))) (.va (.f (.d (.int T)))) s6 s7 .no .no) := by
        unfold uE
        by_cases q : (j : Int) = 0
        · rw [if_pos q] at ht
          simp (disch := first | rfl | assumption | omega | simp [*]) [ht, q]
        · rw [if_neg q] at ht
          have q' : ¬ j = 0 := by omega
          simp (disch := first | rfl | assumption | omega | simp [*]) [ht, q, q']
      rw [e3]
      exact (hI _ _).mpr ⟨_, _, s6, s7, ⟨rfl, rfl⟩, ⟨rfl, rfl⟩, h6, h7, rfl⟩
  · rintro e ⟨j0, h1⟩
    obtain ⟨s4, s5, s6, s7, h4, h5, h6, h7, rfl⟩ := (hI _ _).mp h1
    clear h1 hI hal
    have m0 := Int.emod_nonneg (cellAt ns 2) (show h ≠ 0 by omega)
    have m1 := Int.emod_lt_of_pos (cellAt ns 2) (show 0 < h by omega)
    have hno := run_numbers (cellAt ns 1) (1 + cellAt ns 2 % h) p (by omega) (by omega) (by omega)
    obtain ⟨R, hR⟩ : ∃ R, R = numbersM (cellAt ns 1) (1 + cellAt ns 2 % h).toNat p := ⟨_, rfl⟩
    have hRl : R.length = (1 + cellAt ns 2 % h).toNat := by rw [hR, numbersM_length]
    have hRr : Rng p R := by rw [hR]; exact numbersM_rng' _ _ _ (by omega)
    rw [← hR] at hno
    clear hR
    refine step_nx (e' := uE ns p h f (.va (SV.dl (W.map .int))) s4 s5 s6 s7 (.va (.f (.d (.list (R.map .int))))) .no) (by unfold uE; simp (disch := first | rfl | assumption | omega | simp [*]) [hno]) ?_
    obtain ⟨zs, hz, hs⟩ := sum_enum p R W 0
    have hcm : (vComp (vItEnum (vVarD 3)) (gT 2 (gsC (gN 6) (gsC (gN 7) gsN))) vYes (v2 mulV (vVarD 7) (frD (vCall S__law_worth (aC (vVar 2) (aC (vVar 8) (aC (frO (v2 addV (vVarD 6) (toD (vC (.int 1))))) aN)))))) [6, 7] (uE ns p h f (.va (SV.dl (W.map .int))) s4 s5 s6 s7 (.va (.f (.d (.list (R.map .int))))) .no)).bind frF = .ok (.d (.list (zs.map .int))) := by
      rw [← hz]
      refine comp_map _ ?_ ?_ ?_
      · unfold uE; simp
      · rw [enumP_length, List.length_map]; omega
      · intro x hx
        obtain ⟨i, w, rfl, hw⟩ := enum_mem W 0 x hx
        have rw' := hW w hw
        have hrun := run_lworth p ((i : Int) + 1) R (by omega) (by omega)
        refine ⟨_, rfl, ?_⟩
        unfold uE
        simp (disch := first | rfl | assumption | omega | simp [*]) [hrun]
    refine step_nx (e' := uE ns p h f (.va (SV.dl (W.map .int))) s4 (.va (.f (.d (.int (totW p R W 0))))) s6 s7 (.va (.f (.d (.list (R.map .int))))) .no) (by
      have h51 := h5.1
      have hsum := sumP_ints zs
      rw [hs] at hsum
      generalize totW p R W 0 = T at *
      unfold uE at hcm ⊢
      simp (disch := first | rfl | assumption | omega | simp [*]) [hcm, hsum]) ?_
    have hR0 := getD0_at (F := R) (by omega)
    have htl := hlaw R (by omega)
    have hRm : R.getD 0 0 ∈ R := by
      rw [List.getD_eq_getElem?_getD, List.getElem?_eq_getElem (by omega)]
      exact List.getElem_mem _
    have hRb := hRr _ hRm
    rw [Int.emod_eq_of_lt hRb.1 hRb.2] at htl
    have hix : ixP (.list (R.map .int)) (.int 0) = .ok (.d (.int (R.getD 0 0))) := by rw [ixP_l, hR0]; rfl
    generalize R.getD 0 0 = r0 at *
    generalize totW p R W 0 = T at *
    refine step_nx (e' := uE ns p h f (.va (SV.dl (W.map .int))) s4 (.va (.f (.d (.int T)))) s6 s7 (.va (.f (.d (.list (R.map .int))))) .no) (by
      unfold uE
      simp (disch := first | rfl | assumption | omega | simp [*]) [hix, htl]) ?_
    refine step_nx (e' := uE ns p h f (.va (SV.dl (W.map .int))) s4 (.va (.f (.d (.int T)))) s6 s7 (.va (.f (.d (.list (R.map .int))))) (.va (.f (.d (.list (W.map .int)))))) (by
      unfold uE
      simp (disch := first | rfl | assumption | omega | simp [*])) ?_
    obtain ⟨xs, hpop⟩ := pop_last (e := uE ns p h f (.va (SV.dl (W.map .int))) s4 (.va (.f (.d (.int T)))) s6 s7 (.va (.f (.d (.list (R.map .int))))) (.va (.f (.d (.list (W.map .int)))))) (i := 3) (ds := W.map .int) rfl (by rw [List.length_map]; omega) (by
      unfold uE
      simp only [List.map_cons, List.map_nil, h4.2, h6.2, h7.2]
      rfl)
    refine step_nx (e' := uE ns p h f (.va (.own xs)) s4 (.va (.f (.d (.int T)))) s6 s7 (.va (.f (.d (.list (R.map .int))))) (.va (.f (.d (.list (W.map .int)))))) hpop ?_
    unfold uE
    simp (disch := first | rfl | assumption | omega | simp [*]) [hrun]
theorem law05 : ∀ ns : List Int, ns.length ≤ 63 → ∃ a, S_law_v4 [.va (.f (.sc ns))] = .ret (.f (.d (.bool true))) a := fun ns _ => law_end (run_law05 ns)
end VL

set_option Elab.async false
set_option linter.all false
set_option maxRecDepth 100000
set_option maxHeartbeats 4000000

namespace K05
open PySem PySem.Spec PyProof.Rows L2 VL

def topS (i : Nat) : Stmt := PySem.Challenge.pw_veilsum_k05_weights.main.body.getD i (.Pass ⟨0, 0, 0, 0⟩)
/-- what the top has written, as the walk asks for it -/
structure Txt (K : PySem.W.Frag) (mg : Str → Option Value) : Prop where
  no : ∀ x : Str, ((["all", "bool", "enumerate", "int", "isinstance", "len", "list", "max", "min", "range", "sum", "zip"] : List Str).contains x) = true → mg x = none
  f_Table_few : FldK K mg "Table" "few"
  f_Table_hands : FldK K mg "Table" "hands"
  f_Table_prime : FldK K mg "Table" "prime"
  e_AlikePoints : ExF K mg "AlikePoints"
  e_BadTable : ExF K mg "BadTable"
  e_Nought : ExF K mg "Nought"
  g_PRIMES : GTup K mg "PRIMES" [5, 7, 11, 13, 17, 19, 23, 29, 31]
section
variable {P : Program} {w : World} {K : PySem.W.Frag} {mg : Str → Option Value} {base : Heap}
abbrev st__law_cell_at : Stmt := topS 13
abbrev N__law_cell_at : List Str := ["script", "k"]
theorem sc__law_cell_at : FnScope N__law_cell_at ["script", "k"] (defScope st__law_cell_at) := ⟨rfl, rfl, rfl, by decide +kernel, rfl, by decide +kernel, by decide +kernel⟩
theorem ok__law_cell_at (F : Sits K mg "_law_cell_at" st__law_cell_at ["script", "k"]) (T : Txt K mg)  : Def P w K mg base 1 2 "_law_cell_at" ["script", "k"] S__law_cell_at := by
  unfold S__law_cell_at B__law_cell_at
  exact def_ok F sc__law_cell_at rfl rfl fun f cdv A outer s H E hr =>
  (vss_cons (vs_if (vt_cmp .lt (hu65 hr) (vd_var (pv 1)) (vd_p (vp_lenS (T.no "len" rfl) (vp_var (pv 0)))) rfl) (vss_one (vs_retP (vp_ixS (vp_var (pv 0)) (vd_var (pv 1)) (fun _ _ => rfl)))) vss_nil)
  (vss_one (vs_retP vp_int)))
abbrev st__law_mix : Stmt := topS 14
abbrev N__law_mix : List Str := ["cell", "k", "many"]
theorem sc__law_mix : FnScope N__law_mix ["cell", "k", "many"] (defScope st__law_mix) := ⟨rfl, rfl, rfl, by decide +kernel, rfl, by decide +kernel, by decide +kernel⟩
theorem ok__law_mix (F : Sits K mg "_law_mix" st__law_mix ["cell", "k", "many"]) (T : Txt K mg)  : Def P w K mg base 1 3 "_law_mix" ["cell", "k", "many"] S__law_mix := by
  unfold S__law_mix B__law_mix
  exact def_ok F sc__law_mix rfl rfl fun f cdv A outer s H E hr =>
  (vss_one (vs_retP (vp_mod (vd_p (vp_div (vd_p (vp_mod (vd_o (vo_mul (vd_o (vo_add (vd_p (vp_mod (vd_var (pv 0)) (vd_p vp_int))) (vd_p vp_int))) (vd_o (vo_add (vd_p vp_int) (vd_o (vo_mul (vd_p vp_int) (vd_var (pv 1)))))))) (vd_p vp_int))) (vd_p vp_int))) (vd_var (pv 2)))))
abbrev st__law_numbers : Stmt := topS 17
abbrev N__law_numbers : List Str := ["cell", "many", "prime", "k"]
theorem sc__law_numbers : FnScope N__law_numbers ["cell", "many", "prime"] (defScope st__law_numbers) := ⟨rfl, rfl, rfl, by decide +kernel, rfl, by decide +kernel, by decide +kernel⟩
theorem ok__law_numbers (F : Sits K mg "_law_numbers" st__law_numbers ["cell", "many", "prime"]) (T : Txt K mg) (D__law_mix : Def P w K mg base 1 3 "_law_mix" ["cell", "k", "many"] S__law_mix) : Def P w K mg base 2 3 "_law_numbers" ["cell", "many", "prime"] S__law_numbers := by
  unfold S__law_numbers B__law_numbers
  exact def_ok F sc__law_numbers rfl rfl fun f cdv A outer s H E hr =>
  (vss_one (vs_ret (vo_comp (own := [("k", 3)]) (ts := [3]) rfl sc__law_numbers.nd (vif_vir (vif_rng1 (T.no "range" rfl) (vd_var (pv 1)))) (blkOk_by (N := N__law_numbers) (sc := defScope st__law_numbers) (by decide +kernel)) (fun _ _ _ _ _ => (vg_name sc__law_numbers.nd rfl (by first | exact .inl rfl | exact .inr rfl) (by first | exact .inl rfl | exact .inr rfl))) (fun _ _ _ _ _ => vts_nil) (fun _ _ _ _ _ => (vo_callD D__law_mix hr (by decide) takes0 (van_cons (vp_var (pv 0)) (van_cons (vp_o (vo_mul (vd_p vp_int) (vd_var (pv 3)))) (van_cons (vp_var (pv 2)) van_nil rfl) rfl) rfl))) (by decide))))
abbrev st_Table___init__ : Stmt := inClass (topS 7) 0
abbrev N_Table___init__ : List Str := ["self", "prime", "hands", "few"]
theorem sc_Table___init__ : FnScope N_Table___init__ ["self", "prime", "hands", "few"] (defScope st_Table___init__) := ⟨rfl, rfl, rfl, by decide +kernel, rfl, by decide +kernel, by decide +kernel⟩
theorem ok_Table___init__ {f : Addr} (F : SitsM K "__init__" "Table.__init__" st_Table___init__ ["self", "prime", "hands", "few"] f) (T : Txt K mg)  : ∃ fd, FnOk P w K mg base (L2.CX P w) 1 f fd ["self", "prime", "hands", "few"] (spV K mg 4 S_Table___init__) ∧ Binds K fd ["self", "prime", "hands", "few"] [] := by
  unfold S_Table___init__ B_Table___init__
  exact meth_ok F sc_Table___init__ rfl rfl fun cdv A outer s H E hr =>
  (vss_cons (vs_if (vt_w (vw_or (vt_cmp .notin (hu65 hr) (vd_var (pv 1)) (vd_p (vp_gtup T.g_PRIMES)) rfl) (vw_or (vt_not (vt_chain .le .le (hu65 hr) (vd_p vp_int) (vd_var (pv 2)) (vd_p vp_int) rfl)) (vw_or1 (vt_cmp .ge (hu65 hr) (vd_var (pv 2)) (vd_var (pv 1)) rfl))))) (vss_one (vs_raiseE T.e_BadTable rfl tk_body)) vss_nil)
  (vss_cons (vs_if (vt_w (vw_or (vt_not (vt_chain .le .le (hu65 hr) (vd_p vp_int) (vd_var (pv 3)) (vd_p vp_int) rfl)) (vw_or1 (vt_cmp .ge (hu65 hr) (vd_o (vo_mul (vd_p vp_int) (vd_var (pv 3)))) (vd_var (pv 2)) rfl)))) (vss_one (vs_raiseE T.e_BadTable rfl tk_body)) vss_nil)
  (vss_cons (vs_setF T.f_Table_prime (pv 0) (vo_p (vp_var (pv 1))) rfl)
  (vss_cons (vs_setF T.f_Table_hands (pv 0) (vo_p (vp_var (pv 2))) rfl)
  (vss_one (vs_setF T.f_Table_few (pv 0) (vo_p (vp_var (pv 3))) rfl))))))
abbrev st__law_table_by : Stmt := topS 16
abbrev N__law_table_by : List Str := ["cell", "prime", "hands", "few"]
theorem sc__law_table_by : FnScope N__law_table_by ["cell"] (defScope st__law_table_by) := ⟨rfl, rfl, rfl, by decide +kernel, rfl, by decide +kernel, by decide +kernel⟩
theorem ok__law_table_by (F : Sits K mg "_law_table_by" st__law_table_by ["cell"]) (T : Txt K mg) (C_Table : ClsOk P w K mg base 1 (3 + 1) "Table" ["self", "prime", "hands", "few"] S_Table___init__) : Def P w K mg base 3 1 "_law_table_by" ["cell"] S__law_table_by := by
  unfold S__law_table_by B__law_table_by
  exact def_ok F sc__law_table_by rfl rfl fun f cdv A outer s H E hr =>
  (vss_cons (vs_set (i := 1) sc__law_table_by.nd rfl (by first | exact .inl rfl | exact .inr rfl) (vp_ix (vd_o (vo_lst (va_cons vp_int (va_cons vp_int (va_cons vp_int (va_cons vp_int (va_cons vp_int (va_cons vp_int (va_cons vp_int (va_cons vp_int (va_cons vp_int va_nil rfl) rfl) rfl) rfl) rfl) rfl) rfl) rfl) rfl))) (vd_p (vp_mod (vd_var (pv 0)) (vd_p vp_int))) (fun _ _ => rfl)) rfl (by first | exact .inl rfl | exact .inr rfl))
  (vss_cons (vs_set (i := 2) sc__law_table_by.nd rfl (by first | exact .inl rfl | exact .inr rfl) (vp_o (vo_add (vd_p vp_int) (vd_p (vp_mod (vd_p (vp_div (vd_var (pv 0)) (vd_p vp_int))) (vd_p (vp_sub (vd_p (vp_min rfl (T.no "min" rfl) (vd_p vp_int) (vd_p (vp_sub (vd_var (pv 1)) (vd_p vp_int))))) (vd_p vp_int))))))) rfl (by first | exact .inl rfl | exact .inr rfl))
  (vss_cons (vs_set (i := 3) sc__law_table_by.nd rfl (by first | exact .inl rfl | exact .inr rfl) vp_int rfl (by first | exact .inl rfl | exact .inr rfl))
  (vss_cons (vs_if (vt_w (vw_and (vt_cmp .gt (hu65 hr) (vd_var (pv 2)) (vd_p vp_int) rfl) (vw_and1 (vt_cmp .eq (hu65 hr) (vd_p (vp_mod (vd_p (vp_div (vd_var (pv 0)) (vd_p vp_int))) (vd_p vp_int))) (vd_p vp_int) rfl)))) (vss_one (vs_set (i := 3) sc__law_table_by.nd rfl (by first | exact .inl rfl | exact .inr rfl) vp_int rfl (by first | exact .inl rfl | exact .inr rfl))) vss_nil)
  (vss_one (vs_ret (vo_makeD C_Table hr (by decide) tk_body (van_cons (vp_var (pv 1)) (van_cons (vp_var (pv 2)) (van_cons (vp_var (pv 3)) van_nil rfl) rfl) rfl))))))))
abbrev st__law_whole : Stmt := topS 15
abbrev N__law_whole : List Str := ["found"]
theorem sc__law_whole : FnScope N__law_whole ["found"] (defScope st__law_whole) := ⟨rfl, rfl, rfl, by decide +kernel, rfl, by decide +kernel, by decide +kernel⟩
theorem ok__law_whole (F : Sits K mg "_law_whole" st__law_whole ["found"]) (T : Txt K mg)  : Def P w K mg base 1 1 "_law_whole" ["found"] S__law_whole := by
  unfold S__law_whole B__law_whole
  exact def_ok F sc__law_whole rfl rfl fun f cdv A outer s H E hr =>
  (vss_one (vs_retP (vp_and (vp_isi .int boot_int (T.no "int" rfl) (T.no "isinstance" rfl) (vd_var (pv 0)) rfl (by decide) (by decide)) (vp_one (vp_not (vp_isi .bool boot_bool (T.no "bool" rfl) (T.no "isinstance" rfl) (vd_var (pv 0)) rfl (by decide) (by decide)))))))
abbrev st__law_worth : Stmt := topS 18
abbrev N__law_worth : List Str := ["prime", "row", "at", "total", "power", "number"]
theorem sc__law_worth : FnScope N__law_worth ["prime", "row", "at"] (defScope st__law_worth) := ⟨rfl, rfl, rfl, by decide +kernel, rfl, by decide +kernel, by decide +kernel⟩
theorem ok__law_worth (F : Sits K mg "_law_worth" st__law_worth ["prime", "row", "at"]) (T : Txt K mg)  : Def P w K mg base 1 3 "_law_worth" ["prime", "row", "at"] S__law_worth := by
  unfold S__law_worth B__law_worth
  exact def_ok F sc__law_worth rfl rfl fun f cdv A outer s H E hr =>
  (vss_cons (vs_set (i := 3) sc__law_worth.nd rfl (by first | exact .inl rfl | exact .inr rfl) vp_int rfl (by first | exact .inl rfl | exact .inr rfl))
  (vss_cons (vs_set (i := 4) sc__law_worth.nd rfl (by first | exact .inl rfl | exact .inr rfl) vp_int rfl (by first | exact .inl rfl | exact .inr rfl))
  (vss_cons (vs_for po_body rfl (vif_list (vp_var (pv 1))) (vg_name sc__law_worth.nd rfl (by first | exact .inl rfl | exact .inr rfl) (by first | exact .inl rfl | exact .inr rfl))
  (vss_cons (vs_set (i := 3) sc__law_worth.nd rfl (by first | exact .inl rfl | exact .inr rfl) (vp_mod (vd_o (vo_add (vd_var (pv 3)) (vd_o (vo_mul (vd_var (pv 5)) (vd_var (pv 4)))))) (vd_var (pv 0))) rfl (by first | exact .inl rfl | exact .inr rfl))
  (vss_one (vs_set (i := 4) sc__law_worth.nd rfl (by first | exact .inl rfl | exact .inr rfl) (vp_mod (vd_o (vo_mul (vd_var (pv 4)) (vd_var (pv 2)))) (vd_var (pv 0))) rfl (by first | exact .inl rfl | exact .inr rfl)))))
  (vss_one (vs_retP (vp_var (pv 3)))))))
abbrev st_back : Stmt := topS 8
abbrev N_back : List Str := ["table", "number", "found", "turn"]
theorem sc_back : FnScope N_back ["table", "number"] (defScope st_back) := ⟨rfl, rfl, rfl, by decide +kernel, rfl, by decide +kernel, by decide +kernel⟩
theorem ok_back (F : Sits K mg "back" st_back ["table", "number"]) (T : Txt K mg)  : Def P w K mg base 1 2 "back" ["table", "number"] S_back := by
  unfold S_back B_back
  exact def_ok F sc_back rfl rfl fun f cdv A outer s H E hr =>
  (vss_cons (vs_if (vt_cmp .eq (hu65 hr) (vd_var (pv 1)) (vd_p vp_int) rfl) (vss_one (vs_raiseE T.e_Nought rfl tk_body)) vss_nil)
  (vss_cons (vs_set (i := 2) sc_back.nd rfl (by first | exact .inl rfl | exact .inr rfl) vp_int rfl (by first | exact .inl rfl | exact .inr rfl))
  (vss_cons (vs_for po_body rfl (vif_rng1 (T.no "range" rfl) (vd_p (vp_sub (vd_p (vp_fld T.f_Table_prime (vp_var (pv 0)) rfl)) (vd_p vp_int)))) (vg_name sc_back.nd rfl (by first | exact .inl rfl | exact .inr rfl) (by first | exact .inl rfl | exact .inr rfl))
  (vss_one (vs_set (i := 2) sc_back.nd rfl (by first | exact .inl rfl | exact .inr rfl) (vp_mod (vd_o (vo_mul (vd_var (pv 2)) (vd_var (pv 1)))) (vd_p (vp_fld T.f_Table_prime (vp_var (pv 0)) rfl))) rfl (by first | exact .inl rfl | exact .inr rfl))))
  (vss_one (vs_retP (vp_var (pv 2)))))))
abbrev st_product : Stmt := topS 9
abbrev N_product : List Str := ["table", "row", "other", "found", "j", "one", "k", "two"]
theorem sc_product : FnScope N_product ["table", "row", "other"] (defScope st_product) := ⟨rfl, rfl, rfl, by decide +kernel, rfl, by decide +kernel, by decide +kernel⟩
theorem ok_product (F : Sits K mg "product" st_product ["table", "row", "other"]) (T : Txt K mg)  : Def P w K mg base 1 3 "product" ["table", "row", "other"] S_product := by
  unfold S_product B_product
  exact def_ok F sc_product rfl rfl fun f cdv A outer s H E hr =>
  (vss_cons (vs_setO (i := 3) sc_product.nd rfl (by first | exact .inl rfl | exact .inr rfl) (vo_mul (vd_o (vo_lst (va_cons vp_int va_nil rfl))) (vd_p (vp_max rfl (T.no "max" rfl) (vd_p vp_int) (vd_p (vp_sub (vd_o (vo_add (vd_p (vp_len (T.no "len" rfl) (vd_var (pv 1)))) (vd_p (vp_len (T.no "len" rfl) (vd_var (pv 2)))))) (vd_p vp_int)))))) rfl (by first | exact .inl rfl | exact .inr rfl))
  (vss_cons (vs_for po_body rfl (vif_enum (T.no "enumerate" rfl) (vp_var (pv 1))) (vg_tup rfl (vgs_cons (vg_name sc_product.nd rfl (by first | exact .inl rfl | exact .inr rfl) (by first | exact .inl rfl | exact .inr rfl)) (vgs_cons (vg_name sc_product.nd rfl (by first | exact .inl rfl | exact .inr rfl) (by first | exact .inl rfl | exact .inr rfl)) vgs_nil rfl) rfl) rfl rfl)
  (vss_one (vs_for po_body rfl (vif_enum (T.no "enumerate" rfl) (vp_var (pv 2))) (vg_tup rfl (vgs_cons (vg_name sc_product.nd rfl (by first | exact .inl rfl | exact .inr rfl) (by first | exact .inl rfl | exact .inr rfl)) (vgs_cons (vg_name sc_product.nd rfl (by first | exact .inl rfl | exact .inr rfl) (by first | exact .inl rfl | exact .inr rfl)) vgs_nil rfl) rfl) rfl rfl)
  (vss_one (vs_setI (vpl_name (pv 3)) (vd_o (vo_add (vd_var (pv 4)) (vd_var (pv 6)))) (vo_p (vp_mod (vd_o (vo_add (vd_p (vp_pl (vpl_ix (vpl_name (pv 3)) (vd_o (vo_add (vd_var (pv 4)) (vd_var (pv 6)))) (fun _ _ => rfl)))) (vd_o (vo_mul (vd_var (pv 5)) (vd_var (pv 7)))))) (vd_p (vp_fld T.f_Table_prime (vp_var (pv 0)) rfl)))) (fun _ => rfl) rfl rfl rfl)))))
  (vss_one (vs_retV (pv 3)))))
abbrev st_through : Stmt := topS 10
abbrev N_through : List Str := ["table", "points", "found", "j", "point", "row", "k", "other", "far", "a", "b"]
theorem sc_through : FnScope N_through ["table", "points"] (defScope st_through) := ⟨rfl, rfl, rfl, by decide +kernel, rfl, by decide +kernel, by decide +kernel⟩
theorem ok_through (F : Sits K mg "through" st_through ["table", "points"]) (T : Txt K mg) (D_back : Def P w K mg base 1 2 "back" ["table", "number"] S_back) (D_product : Def P w K mg base 1 3 "product" ["table", "row", "other"] S_product) : Def P w K mg base 2 2 "through" ["table", "points"] S_through := by
  unfold S_through B_through
  exact def_ok F sc_through rfl rfl fun f cdv A outer s H E hr =>
  (vss_cons (vs_set (i := 2) sc_through.nd rfl (by first | exact .inl rfl | exact .inr rfl) (vp_o (vo_mul (vd_o (vo_lst (va_cons vp_int va_nil rfl))) (vd_p (vp_len (T.no "len" rfl) (vd_var (pv 1)))))) rfl (by first | exact .inl rfl | exact .inr rfl))
  (vss_cons (vs_for po_body rfl (vif_enum (T.no "enumerate" rfl) (vp_var (pv 1))) (vg_tup rfl (vgs_cons (vg_name sc_through.nd rfl (by first | exact .inl rfl | exact .inr rfl) (by first | exact .inl rfl | exact .inr rfl)) (vgs_cons (vg_name sc_through.nd rfl (by first | exact .inl rfl | exact .inr rfl) (by first | exact .inl rfl | exact .inr rfl)) vgs_nil rfl) rfl) rfl rfl)
  (vss_cons (vs_set (i := 5) sc_through.nd rfl (by first | exact .inl rfl | exact .inr rfl) (vp_o (vo_lst (va_cons (vp_ix (vd_var (pv 4)) (vd_p vp_int) (fun _ _ => rfl)) va_nil rfl))) rfl (by first | exact .inl rfl | exact .inr rfl))
  (vss_cons (vs_for po_body rfl (vif_enum (T.no "enumerate" rfl) (vp_var (pv 1))) (vg_tup rfl (vgs_cons (vg_name sc_through.nd rfl (by first | exact .inl rfl | exact .inr rfl) (by first | exact .inl rfl | exact .inr rfl)) (vgs_cons (vg_name sc_through.nd rfl (by first | exact .inl rfl | exact .inr rfl) (by first | exact .inl rfl | exact .inr rfl)) vgs_nil rfl) rfl) rfl rfl)
  (vss_one (vs_if (vt_cmp .ne (hu65 hr) (vd_var (pv 6)) (vd_var (pv 3)) rfl) (vss_cons (vs_if (vt_cmp .eq (hu65 hr) (vd_p (vp_ix (vd_var (pv 7)) (vd_p vp_int) (fun _ _ => rfl))) (vd_p (vp_ix (vd_var (pv 4)) (vd_p vp_int) (fun _ _ => rfl))) rfl) (vss_one (vs_raiseE T.e_AlikePoints rfl tk_body)) vss_nil)
  (vss_cons (vs_set (i := 8) sc_through.nd rfl (by first | exact .inl rfl | exact .inr rfl) (vp_o (vo_callD D_back hr (by decide) tk_body (van_cons (vp_var (pv 0)) (van_cons (vp_mod (vd_p (vp_sub (vd_p (vp_ix (vd_var (pv 4)) (vd_p vp_int) (fun _ _ => rfl))) (vd_p (vp_ix (vd_var (pv 7)) (vd_p vp_int) (fun _ _ => rfl))))) (vd_p (vp_fld T.f_Table_prime (vp_var (pv 0)) rfl))) van_nil rfl) rfl))) rfl (by first | exact .inl rfl | exact .inr rfl))
  (vss_one (vs_set (i := 5) sc_through.nd rfl (by first | exact .inl rfl | exact .inr rfl) (vp_o (vo_callD D_product hr (by decide) tk_body (van_cons (vp_var (pv 0)) (van_cons (vp_var (pv 5)) (van_cons (vp_o (vo_lst (va_cons (vp_mod (vd_o (vo_mul (vd_p (vp_neg (vd_p (vp_ix (vd_var (pv 7)) (vd_p vp_int) (fun _ _ => rfl))))) (vd_var (pv 8)))) (vd_p (vp_fld T.f_Table_prime (vp_var (pv 0)) rfl))) (va_cons (vp_var (pv 8)) va_nil rfl) rfl))) van_nil rfl) rfl) rfl))) rfl (by first | exact .inl rfl | exact .inr rfl))))) vss_nil)))
  (vss_one (vs_setLcF (i := 2) (own := [("a", 9), ("b", 10)]) (ts := [9, 10]) rfl sc_through.nd rfl rfl (sw_true rfl rfl rfl (by decide +kernel)) (vir_zip (T.no "zip" rfl) (vd_var (pv 2)) (vd_var (pv 5))) (blkOk_by (N := N_through) (sc := defScope st_through) (by decide +kernel)) (fun _ _ _ _ _ => (vg_tup rfl (vgs_cons (vg_name sc_through.nd rfl (by first | exact .inl rfl | exact .inr rfl) (by first | exact .inl rfl | exact .inr rfl)) (vgs_cons (vg_name sc_through.nd rfl (by first | exact .inl rfl | exact .inr rfl) (by first | exact .inl rfl | exact .inr rfl)) vgs_nil rfl) rfl) rfl rfl)) (fun _ _ _ _ _ => vts_nil) (fun _ _ _ _ _ => (vo_p (vp_mod (vd_o (vo_add (vd_var (pv 9)) (vd_var (pv 10)))) (vd_p (vp_fld T.f_Table_prime (vp_var (pv 0)) rfl))))) (by decide))))))
  (vss_one (vs_retP (vp_var (pv 2))))))
abbrev st_weights : Stmt := topS 11
abbrev N_weights : List Str := ["table", "found", "hand", "points", "other"]
theorem sc_weights : FnScope N_weights ["table"] (defScope st_weights) := ⟨rfl, rfl, rfl, by decide +kernel, rfl, by decide +kernel, by decide +kernel⟩
theorem ok_weights (F : Sits K mg "weights" st_weights ["table"]) (T : Txt K mg) (D_through : Def P w K mg base 2 2 "through" ["table", "points"] S_through) : Def P w K mg base 3 1 "weights" ["table"] S_weights := by
  unfold S_weights B_weights
  exact def_ok F sc_weights rfl rfl fun f cdv A outer s H E hr =>
  (vss_cons (vs_setO (i := 1) sc_weights.nd rfl (by first | exact .inl rfl | exact .inr rfl) (vo_lst va_nil) rfl (by first | exact .inl rfl | exact .inr rfl))
  (vss_cons (vs_for po_body rfl (vif_rng2 (T.no "range" rfl) (vd_p vp_int) (vd_o (vo_add (vd_p (vp_fld T.f_Table_hands (vp_var (pv 0)) rfl)) (vd_p vp_int)))) (vg_name sc_weights.nd rfl (by first | exact .inl rfl | exact .inr rfl) (by first | exact .inl rfl | exact .inr rfl))
  (vss_cons (vs_setLcF (i := 3) (own := [("other", 4)]) (ts := [4]) rfl sc_weights.nd rfl rfl (sw_true rfl rfl rfl (by decide +kernel)) (vif_vir (vif_rng2 (T.no "range" rfl) (vd_p vp_int) (vd_o (vo_add (vd_p (vp_fld T.f_Table_hands (vp_var (pv 0)) rfl)) (vd_p vp_int))))) (blkOk_by (N := N_weights) (sc := defScope st_weights) (by decide +kernel)) (fun _ _ _ _ _ => (vg_name sc_weights.nd rfl (by first | exact .inl rfl | exact .inr rfl) (by first | exact .inl rfl | exact .inr rfl))) (fun _ _ _ _ _ => vts_nil) (fun _ _ _ _ _ => (vo_p (vp_tup (va_cons (vp_var (pv 4)) (va_cons (vp_o (vo_int (T.no "int" rfl) (vd_p (vp_cmp .eq (hu65 hr) (vd_var (pv 4)) (vd_var (pv 2)) rfl)))) va_nil rfl) rfl)))) (by decide))
  (vss_one (vs_ex (ve_app (vpl_name (pv 1)) (vo_p (vp_ix (vd_o (vo_callD D_through hr (by decide) tk_body (van_cons (vp_var (pv 0)) (van_cons (vp_var (pv 3)) van_nil rfl) rfl))) (vd_p vp_int) (fun _ _ => rfl))))))))
  (vss_one (vs_retV (pv 1)))))
abbrev st_law : Stmt := topS 19
abbrev N_law : List Str := ["script", "table", "prime", "found", "power", "total", "k", "weight", "row", "kept", "x"]
theorem sc_law : FnScope N_law ["script"] (defScope st_law) := ⟨rfl, rfl, rfl, by decide +kernel, rfl, by decide +kernel, by decide +kernel⟩
theorem ok_law {f : Addr} {fd : FuncData} (F : Fun K "law" "law" st_law f fd) (T : Txt K mg) (D__law_cell_at : Def P w K mg base 1 2 "_law_cell_at" ["script", "k"] S__law_cell_at) (D__law_numbers : Def P w K mg base 2 3 "_law_numbers" ["cell", "many", "prime"] S__law_numbers) (D__law_table_by : Def P w K mg base 3 1 "_law_table_by" ["cell"] S__law_table_by) (D__law_whole : Def P w K mg base 1 1 "_law_whole" ["found"] S__law_whole) (D__law_worth : Def P w K mg base 1 3 "_law_worth" ["prime", "row", "at"] S__law_worth) (D_weights : Def P w K mg base 3 1 "weights" ["table"] S_weights) : FnOk P w K mg base (L2.CX P w) 4 f fd ["script"] (spV K mg 1 S_law_v4) := by
  unfold S_law_v4 B_law_v4
  exact fn_ok F sc_law rfl rfl fun cdv A outer s H E hr =>
  (vss_cons (vs_set (i := 1) sc_law.nd rfl (by first | exact .inl rfl | exact .inr rfl) (vp_o (vo_callD D__law_table_by hr (by decide) tk_body (van_cons (vp_o (vo_callD D__law_cell_at hr (by decide) tk_body (van_cons (vp_var (pv 0)) (van_cons vp_int van_nil rfl) rfl))) van_nil rfl))) rfl (by first | exact .inl rfl | exact .inr rfl))
  (vss_cons (vs_set (i := 2) sc_law.nd rfl (by first | exact .inl rfl | exact .inr rfl) (vp_fld T.f_Table_prime (vp_var (pv 1)) rfl) rfl (by first | exact .inl rfl | exact .inr rfl))
  (vss_cons (vs_setO (i := 3) sc_law.nd rfl (by first | exact .inl rfl | exact .inr rfl) (vo_callD D_weights hr (by decide) tk_body (van_cons (vp_var (pv 1)) van_nil rfl)) rfl (by first | exact .inl rfl | exact .inr rfl))
  (vss_cons (vs_if (vt_w (vw_or (vt_not (vt_p (vp_isi .list boot_list (T.no "list" rfl) (T.no "isinstance" rfl) (vd_var (pv 3)) rfl (by decide) (by decide)))) (vw_or1 (vt_cmp .ne (hu65 hr) (vd_p (vp_plen (T.no "len" rfl) (vpl_name (pv 3)))) (vd_p (vp_fld T.f_Table_hands (vp_var (pv 1)) rfl)) rfl)))) (vss_one (vs_retP vp_bl)) vss_nil)
  (vss_cons (vs_if (vt_not (vt_p (vp_all rfl (T.no "all" rfl) (vd_o (vo_comp (own := [("x", 10)]) (ts := [10]) rfl sc_law.nd (vir_list (vd_var (pv 3))) (blkOk_by (N := N_law) (sc := defScope st_law) (by decide +kernel)) (fun _ _ _ _ _ => (vg_name sc_law.nd rfl (by first | exact .inl rfl | exact .inr rfl) (by first | exact .inl rfl | exact .inr rfl))) (fun _ _ _ _ _ => vts_nil) (fun _ _ _ _ _ => (vo_p (vp_and (vp_o (vo_callD D__law_whole hr (by decide) takes0 (van_cons (vp_var (pv 10)) van_nil rfl))) (vp_one (vp_chain .le .lt (hu65 hr) (vd_p vp_int) (vd_var (pv 10)) (vd_var (pv 2)) rfl))))) (by decide)))))) (vss_one (vs_retP vp_bl)) vss_nil)
  (vss_cons (vs_for po_body rfl (vif_rng1 (T.no "range" rfl) (vd_p (vp_fld T.f_Table_hands (vp_var (pv 1)) rfl))) (vg_name sc_law.nd rfl (by first | exact .inl rfl | exact .inr rfl) (by first | exact .inl rfl | exact .inr rfl))
  (vss_cons (vs_set (i := 5) sc_law.nd rfl (by first | exact .inl rfl | exact .inr rfl) vp_int rfl (by first | exact .inl rfl | exact .inr rfl))
  (vss_cons (vs_forE po_body rfl (T.no "enumerate" rfl) (pv 3) (vg_tup rfl (vgs_cons (vg_name sc_law.nd rfl (by first | exact .inl rfl | exact .inr rfl) (by first | exact .inl rfl | exact .inr rfl)) (vgs_cons (vg_name sc_law.nd rfl (by first | exact .inl rfl | exact .inr rfl) (by first | exact .inl rfl | exact .inr rfl)) vgs_nil rfl) rfl) rfl rfl)
  (vss_one (vs_set (i := 5) sc_law.nd rfl (by first | exact .inl rfl | exact .inr rfl) (vp_o (vo_add (vd_var (pv 5)) (vd_o (vo_mul (vd_var (pv 7)) (vd_o (vo_callD D__law_worth hr (by decide) tk_body (van_cons (vp_var (pv 2)) (van_cons (vp_o (vo_add (vd_o (vo_mul (vd_o (vo_lst (va_cons vp_int va_nil rfl))) (vd_var (pv 4)))) (vd_o (vo_lst (va_cons vp_int va_nil rfl))))) (van_cons (vp_o (vo_add (vd_var (pv 6)) (vd_p vp_int))) van_nil rfl) rfl) rfl))))))) rfl (by first | exact .inl rfl | exact .inr rfl))))
  (vss_one (vs_if (vt_cmp .ne (hu65 hr) (vd_p (vp_mod (vd_var (pv 5)) (vd_var (pv 2)))) (vd_o (vo_int (T.no "int" rfl) (vd_p (vp_cmp .eq (hu65 hr) (vd_var (pv 4)) (vd_p vp_int) rfl)))) rfl) (vss_one (vs_retP vp_bl)) vss_nil)))))
  (vss_cons (vs_set (i := 8) sc_law.nd rfl (by first | exact .inl rfl | exact .inr rfl) (vp_o (vo_callD D__law_numbers hr (by decide) tk_body (van_cons (vp_o (vo_callD D__law_cell_at hr (by decide) tk_body (van_cons (vp_var (pv 0)) (van_cons vp_int van_nil rfl) rfl))) (van_cons (vp_o (vo_add (vd_p vp_int) (vd_p (vp_mod (vd_o (vo_callD D__law_cell_at hr (by decide) tk_body (van_cons (vp_var (pv 0)) (van_cons vp_int van_nil rfl) rfl))) (vd_p (vp_fld T.f_Table_hands (vp_var (pv 1)) rfl)))))) (van_cons (vp_var (pv 2)) van_nil rfl) rfl) rfl))) rfl (by first | exact .inl rfl | exact .inr rfl))
  (vss_cons (vs_set (i := 5) sc_law.nd rfl (by first | exact .inl rfl | exact .inr rfl) (vp_sum rfl (T.no "sum" rfl) (vd_o (vo_comp (own := [("k", 6), ("weight", 7)]) (ts := [6, 7]) rfl sc_law.nd (vir_enum (T.no "enumerate" rfl) (vd_var (pv 3))) (blkOk_by (N := N_law) (sc := defScope st_law) (by decide +kernel)) (fun _ _ _ _ _ => (vg_tup rfl (vgs_cons (vg_name sc_law.nd rfl (by first | exact .inl rfl | exact .inr rfl) (by first | exact .inl rfl | exact .inr rfl)) (vgs_cons (vg_name sc_law.nd rfl (by first | exact .inl rfl | exact .inr rfl) (by first | exact .inl rfl | exact .inr rfl)) vgs_nil rfl) rfl) rfl rfl)) (fun _ _ _ _ _ => vts_nil) (fun _ _ _ _ _ => (vo_mul (vd_var (pv 7)) (vd_o (vo_callD D__law_worth hr (by decide) takes0 (van_cons (vp_var (pv 2)) (van_cons (vp_var (pv 8)) (van_cons (vp_o (vo_add (vd_var (pv 6)) (vd_p vp_int))) van_nil rfl) rfl) rfl))))) (by decide)))) rfl (by first | exact .inl rfl | exact .inr rfl))
  (vss_cons (vs_if (vt_cmp .ne (hu65 hr) (vd_p (vp_mod (vd_var (pv 5)) (vd_var (pv 2)))) (vd_p (vp_ix (vd_var (pv 8)) (vd_p vp_int) (fun _ _ => rfl))) rfl) (vss_one (vs_retP vp_bl)) vss_nil)
  (vss_cons (vs_set (i := 9) sc_law.nd rfl (by first | exact .inl rfl | exact .inr rfl) (vp_o (vo_list (T.no "list" rfl) (vd_var (pv 3)))) rfl (by first | exact .inl rfl | exact .inr rfl))
  (vss_cons (vs_ex (ve_popL (vpl_name (pv 3))))
  (vss_one (vs_retP (vp_cmp .eq (hu65 hr) (vd_o (vo_callD D_weights hr (by decide) tk_body (van_cons (vp_var (pv 1)) van_nil rfl))) (vd_var (pv 9)) rfl))))))))))))))
end
theorem all_mk {l : PySem.W.OpenLaw} {w : World} {K : PySem.W.Frag} {h : Heap} {mg : Str → Option Value} {fa CTable EAlikePoints EBadTable ENought f1 f2 f3 f4 f5 f6 f7 f8 f9 f10 f11 f12 gPRIMES : Addr} (X : K.In h) (G : h.Ns mainGlobals mg) (hfa : mg "law" = some (.ref fa))
    {od1 an1 od2 an2 od3 an3 od4 an4 od5 an5 od6 an6 od7 an7 od8 an8 od9 an9 od10 an10 od11 an11 od12 an12 : Option Addr} {sl1 sl2 sl3 sl4 sl5 sl6 sl7 sl8 sl9 sl10 sl11 sl12 : Array (Option Value)} {oc1 kV1 dc1 pm1 cd1 ct1 oc2 kV2 dc2 pm2 cd2 ct2 oc3 kV3 dc3 pm3 cd3 ct3 oc4 kV4 dc4 pm4 cd4 ct4 oc5 kV5 dc5 pm5 cd5 ct5 oc6 kV6 dc6 pm6 cd6 ct6 oc7 kV7 dc7 pm7 cd7 ct7 oc8 kV8 dc8 pm8 cd8 ct8 oc9 kV9 dc9 pm9 cd9 ct9 oc10 kV10 dc10 pm10 cd10 ct10 oc11 kV11 dc11 pm11 cd11 ct11 oc12 kV12 dc12 pm12 cd12 ct12 : Value} {odGPRIMES : Option Addr} {nGPRIMES : Nat} {slGPRIMES : Array (Option Value)} {tPRIMES0 tPRIMES1 tPRIMES2 tPRIMES3 tPRIMES4 tPRIMES5 tPRIMES6 tPRIMES7 tPRIMES8 : Tok}
    (a_Table : PySem.W.nsIn K mainGlobals "Table" = some (some (.ref CTable))) (pg_Table : PySem.W.plainGet K CTable Str.empty = true) (hd_Table : PySem.W.hasDictIn K CTable = true) (po_Table : PySem.W.plainOver K CTable = true)
    (sa_Table : PySem.W.findIn K (.ref CTable) "__setattr__" = some (some (.builtin "object.__setattr__"))) (mk_Table : PySem.W.makesIn K CTable = true) (kc_Table : PySem.W.keepIn K (.ref CTable) = true) (n_Table_few : PySem.W.findIn K (.ref CTable) "few" = some none)
    (n_Table_hands : PySem.W.findIn K (.ref CTable) "hands" = some none) (n_Table_prime : PySem.W.findIn K (.ref CTable) "prime" = some none) (a_AlikePoints : PySem.W.nsIn K mainGlobals "AlikePoints" = some (some (.ref EAlikePoints))) (x_AlikePoints : PySem.W.excIn K EAlikePoints [.type "ValueError", .type "Exception", .type "BaseException", .type "object"] "ValueError.__new__" = true)
    (k_AlikePoints : PySem.W.keepIn K (.ref EAlikePoints) = true) (s_AlikePoints : PySem.W.subIn K (.ref EAlikePoints) (.type "BaseException") = some true) (t_AlikePoints : PySem.W.typeIn K (.ref EAlikePoints) = some (.type "type")) (a_BadTable : PySem.W.nsIn K mainGlobals "BadTable" = some (some (.ref EBadTable)))
    (x_BadTable : PySem.W.excIn K EBadTable [.type "ValueError", .type "Exception", .type "BaseException", .type "object"] "ValueError.__new__" = true) (k_BadTable : PySem.W.keepIn K (.ref EBadTable) = true) (s_BadTable : PySem.W.subIn K (.ref EBadTable) (.type "BaseException") = some true) (t_BadTable : PySem.W.typeIn K (.ref EBadTable) = some (.type "type"))
    (a_Nought : PySem.W.nsIn K mainGlobals "Nought" = some (some (.ref ENought))) (x_Nought : PySem.W.excIn K ENought [.type "ValueError", .type "Exception", .type "BaseException", .type "object"] "ValueError.__new__" = true) (k_Nought : PySem.W.keepIn K (.ref ENought) = true) (s_Nought : PySem.W.subIn K (.ref ENought) (.type "BaseException") = some true)
    (t_Nought : PySem.W.typeIn K (.ref ENought) = some (.type "type")) (z_all : PySem.W.nsIn K mainGlobals "all" = some none) (z_bool : PySem.W.nsIn K mainGlobals "bool" = some none) (z_enumerate : PySem.W.nsIn K mainGlobals "enumerate" = some none)
    (z_int : PySem.W.nsIn K mainGlobals "int" = some none) (z_isinstance : PySem.W.nsIn K mainGlobals "isinstance" = some none) (z_len : PySem.W.nsIn K mainGlobals "len" = some none) (z_list : PySem.W.nsIn K mainGlobals "list" = some none)
    (z_max : PySem.W.nsIn K mainGlobals "max" = some none) (z_min : PySem.W.nsIn K mainGlobals "min" = some none) (z_range : PySem.W.nsIn K mainGlobals "range" = some none) (z_sum : PySem.W.nsIn K mainGlobals "sum" = some none)
    (z_zip : PySem.W.nsIn K mainGlobals "zip" = some none) (a_PRIMES : PySem.W.nsIn K mainGlobals "PRIMES" = some (some (.ref gPRIMES))) (l_PRIMES : K.lookup gPRIMES = some ⟨.type "tuple", odGPRIMES, .seq #[.int 5 tPRIMES0, .int 7 tPRIMES1, .int 11 tPRIMES2, .int 13 tPRIMES3, .int 17 tPRIMES4, .int 19 tPRIMES5, .int 23 tPRIMES6, .int 29 tPRIMES7, .int 31 tPRIMES8] nGPRIMES, slGPRIMES⟩) (a1 : PySem.W.nsIn K mainGlobals "_law_cell_at" = some (some (.ref f1)))
    (l1 : K.lookup f1 = some ⟨oc1, od1, .func (PySem.W.fnOf "_law_cell_at" "_law_cell_at" (defArgs st__law_cell_at) (defBody st__law_cell_at) (defScope st__law_cell_at) .none kV1 dc1 pm1 an1 cd1 ct1), sl1⟩) (c1 : PySem.W.codeIn K cd1 "_law_cell_at" = true) (k1 : PySem.W.keepIn K (.ref f1) = true) (a2 : PySem.W.nsIn K mainGlobals "_law_mix" = some (some (.ref f2)))
    (l2 : K.lookup f2 = some ⟨oc2, od2, .func (PySem.W.fnOf "_law_mix" "_law_mix" (defArgs st__law_mix) (defBody st__law_mix) (defScope st__law_mix) .none kV2 dc2 pm2 an2 cd2 ct2), sl2⟩) (c2 : PySem.W.codeIn K cd2 "_law_mix" = true) (k2 : PySem.W.keepIn K (.ref f2) = true) (a3 : PySem.W.nsIn K mainGlobals "_law_numbers" = some (some (.ref f3)))
    (l3 : K.lookup f3 = some ⟨oc3, od3, .func (PySem.W.fnOf "_law_numbers" "_law_numbers" (defArgs st__law_numbers) (defBody st__law_numbers) (defScope st__law_numbers) .none kV3 dc3 pm3 an3 cd3 ct3), sl3⟩) (c3 : PySem.W.codeIn K cd3 "_law_numbers" = true) (k3 : PySem.W.keepIn K (.ref f3) = true) (a4 : PySem.W.findIn K (.ref CTable) "__init__" = some (some (.ref f4)))
    (i4 : PySem.W.isFn K (.ref f4) = true) (l4 : K.lookup f4 = some ⟨oc4, od4, .func (PySem.W.fnOf "__init__" "Table.__init__" (defArgs st_Table___init__) (defBody st_Table___init__) (defScope st_Table___init__) .none kV4 dc4 pm4 an4 cd4 ct4), sl4⟩) (c4 : PySem.W.codeIn K cd4 "Table.__init__" = true) (k4 : PySem.W.keepIn K (.ref f4) = true)
    (a5 : PySem.W.nsIn K mainGlobals "_law_table_by" = some (some (.ref f5))) (l5 : K.lookup f5 = some ⟨oc5, od5, .func (PySem.W.fnOf "_law_table_by" "_law_table_by" (defArgs st__law_table_by) (defBody st__law_table_by) (defScope st__law_table_by) .none kV5 dc5 pm5 an5 cd5 ct5), sl5⟩) (c5 : PySem.W.codeIn K cd5 "_law_table_by" = true) (k5 : PySem.W.keepIn K (.ref f5) = true)
    (a6 : PySem.W.nsIn K mainGlobals "_law_whole" = some (some (.ref f6))) (l6 : K.lookup f6 = some ⟨oc6, od6, .func (PySem.W.fnOf "_law_whole" "_law_whole" (defArgs st__law_whole) (defBody st__law_whole) (defScope st__law_whole) .none kV6 dc6 pm6 an6 cd6 ct6), sl6⟩) (c6 : PySem.W.codeIn K cd6 "_law_whole" = true) (k6 : PySem.W.keepIn K (.ref f6) = true)
    (a7 : PySem.W.nsIn K mainGlobals "_law_worth" = some (some (.ref f7))) (l7 : K.lookup f7 = some ⟨oc7, od7, .func (PySem.W.fnOf "_law_worth" "_law_worth" (defArgs st__law_worth) (defBody st__law_worth) (defScope st__law_worth) .none kV7 dc7 pm7 an7 cd7 ct7), sl7⟩) (c7 : PySem.W.codeIn K cd7 "_law_worth" = true) (k7 : PySem.W.keepIn K (.ref f7) = true)
    (a8 : PySem.W.nsIn K mainGlobals "back" = some (some (.ref f8))) (l8 : K.lookup f8 = some ⟨oc8, od8, .func (PySem.W.fnOf "back" "back" (defArgs st_back) (defBody st_back) (defScope st_back) .none kV8 dc8 pm8 an8 cd8 ct8), sl8⟩) (c8 : PySem.W.codeIn K cd8 "back" = true) (k8 : PySem.W.keepIn K (.ref f8) = true)
    (a9 : PySem.W.nsIn K mainGlobals "product" = some (some (.ref f9))) (l9 : K.lookup f9 = some ⟨oc9, od9, .func (PySem.W.fnOf "product" "product" (defArgs st_product) (defBody st_product) (defScope st_product) .none kV9 dc9 pm9 an9 cd9 ct9), sl9⟩) (c9 : PySem.W.codeIn K cd9 "product" = true) (k9 : PySem.W.keepIn K (.ref f9) = true)
    (a10 : PySem.W.nsIn K mainGlobals "through" = some (some (.ref f10))) (l10 : K.lookup f10 = some ⟨oc10, od10, .func (PySem.W.fnOf "through" "through" (defArgs st_through) (defBody st_through) (defScope st_through) .none kV10 dc10 pm10 an10 cd10 ct10), sl10⟩) (c10 : PySem.W.codeIn K cd10 "through" = true) (k10 : PySem.W.keepIn K (.ref f10) = true)
    (a11 : PySem.W.nsIn K mainGlobals "weights" = some (some (.ref f11))) (l11 : K.lookup f11 = some ⟨oc11, od11, .func (PySem.W.fnOf "weights" "weights" (defArgs st_weights) (defBody st_weights) (defScope st_weights) .none kV11 dc11 pm11 an11 cd11 ct11), sl11⟩) (c11 : PySem.W.codeIn K cd11 "weights" = true) (k11 : PySem.W.keepIn K (.ref f11) = true)
    (a12 : PySem.W.nsIn K mainGlobals "law" = some (some (.ref f12))) (l12 : K.lookup f12 = some ⟨oc12, od12, .func (PySem.W.fnOf "law" "law" (defArgs st_law) (defBody st_law) (defScope st_law) .none kV12 dc12 pm12 an12 cd12 ct12), sl12⟩) (c12 : PySem.W.codeIn K cd12 "law" = true) (k12 : PySem.W.keepIn K (.ref f12) = true)
    : ∃ fd : FuncData, (∀ (s : Shared) (v : Value), BindsTo s fd ⟨[v], []⟩ [("script", v)]) ∧ ∀ base : Heap, K.In base → base.Ns mainGlobals mg → FnOk l.prog w K mg base (L2.CX l.prog w) 4 fa fd ["script"] (spLaw K) := by
  have e := hfa.symm.trans (PySem.W.mg_of X G a12)
  cases e
  have T : Txt K mg := {
    no := fun x h => by
      have m := List.mem_of_elem_eq_true h
      simp only [List.mem_cons, List.not_mem_nil, or_false] at m
      rcases m with rfl | rfl | rfl | rfl | rfl | rfl | rfl | rfl | rfl | rfl | rfl | rfl
      · exact PySem.W.mg_none_of X G z_all
      · exact PySem.W.mg_none_of X G z_bool
      · exact PySem.W.mg_none_of X G z_enumerate
      · exact PySem.W.mg_none_of X G z_int
      · exact PySem.W.mg_none_of X G z_isinstance
      · exact PySem.W.mg_none_of X G z_len
      · exact PySem.W.mg_none_of X G z_list
      · exact PySem.W.mg_none_of X G z_max
      · exact PySem.W.mg_none_of X G z_min
      · exact PySem.W.mg_none_of X G z_range
      · exact PySem.W.mg_none_of X G z_sum
      · exact PySem.W.mg_none_of X G z_zip
    f_Table_few := fun C m => by
      have e := m.symm.trans (PySem.W.mg_of X G a_Table)
      cases e
      exact ⟨⟨pg_Table, hd_Table, po_Table, sa_Table⟩, n_Table_few⟩
    f_Table_hands := fun C m => by
      have e := m.symm.trans (PySem.W.mg_of X G a_Table)
      cases e
      exact ⟨⟨pg_Table, hd_Table, po_Table, sa_Table⟩, n_Table_hands⟩
    f_Table_prime := fun C m => by
      have e := m.symm.trans (PySem.W.mg_of X G a_Table)
      cases e
      exact ⟨⟨pg_Table, hd_Table, po_Table, sa_Table⟩, n_Table_prime⟩
    e_AlikePoints := ⟨_, PySem.W.mg_of X G a_AlikePoints, x_AlikePoints, k_AlikePoints, s_AlikePoints, t_AlikePoints⟩
    e_BadTable := ⟨_, PySem.W.mg_of X G a_BadTable, x_BadTable, k_BadTable, s_BadTable, t_BadTable⟩
    e_Nought := ⟨_, PySem.W.mg_of X G a_Nought, x_Nought, k_Nought, s_Nought, t_Nought⟩
    g_PRIMES := ⟨_, PySem.W.mg_of X G a_PRIMES, fun _ => .inr ⟨_, _, _, l_PRIMES, rfl, rfl, by show 9 ≤ sizeLine; rw [sizeLine_eq]; decide, .cons ⟨_, rfl⟩ (.cons ⟨_, rfl⟩ (.cons ⟨_, rfl⟩ (.cons ⟨_, rfl⟩ (.cons ⟨_, rfl⟩ (.cons ⟨_, rfl⟩ (.cons ⟨_, rfl⟩ (.cons ⟨_, rfl⟩ (.cons ⟨_, rfl⟩ .nil))))))))⟩⟩ }
  have F1 := fun_mk (st := st__law_cell_at) l1 c1 k1
  have b1 := F1.binds (ps := ["script", "k"]) fun _ _ _ _ _ _ us hl => match us, hl with | [_, _], _ => rfl
  have s1 : Sits K mg "_law_cell_at" st__law_cell_at ["script", "k"] := ⟨_, _, F1, PySem.W.mg_of X G a1, b1⟩
  have F2 := fun_mk (st := st__law_mix) l2 c2 k2
  have b2 := F2.binds (ps := ["cell", "k", "many"]) fun _ _ _ _ _ _ us hl => match us, hl with | [_, _, _], _ => rfl
  have s2 : Sits K mg "_law_mix" st__law_mix ["cell", "k", "many"] := ⟨_, _, F2, PySem.W.mg_of X G a2, b2⟩
  have F3 := fun_mk (st := st__law_numbers) l3 c3 k3
  have b3 := F3.binds (ps := ["cell", "many", "prime"]) fun _ _ _ _ _ _ us hl => match us, hl with | [_, _, _], _ => rfl
  have s3 : Sits K mg "_law_numbers" st__law_numbers ["cell", "many", "prime"] := ⟨_, _, F3, PySem.W.mg_of X G a3, b3⟩
  have F4 := fun_mk (st := st_Table___init__) l4 c4 k4
  have b4 := F4.binds (ps := ["self", "prime", "hands", "few"]) fun _ _ _ _ _ _ us hl => match us, hl with | [_, _, _, _], _ => rfl
  have s4 : SitsM K "__init__" "Table.__init__" st_Table___init__ ["self", "prime", "hands", "few"] f4 := ⟨_, F4, b4⟩
  have F5 := fun_mk (st := st__law_table_by) l5 c5 k5
  have b5 := F5.binds (ps := ["cell"]) fun _ _ _ _ _ _ us hl => match us, hl with | [_], _ => rfl
  have s5 : Sits K mg "_law_table_by" st__law_table_by ["cell"] := ⟨_, _, F5, PySem.W.mg_of X G a5, b5⟩
  have F6 := fun_mk (st := st__law_whole) l6 c6 k6
  have b6 := F6.binds (ps := ["found"]) fun _ _ _ _ _ _ us hl => match us, hl with | [_], _ => rfl
  have s6 : Sits K mg "_law_whole" st__law_whole ["found"] := ⟨_, _, F6, PySem.W.mg_of X G a6, b6⟩
  have F7 := fun_mk (st := st__law_worth) l7 c7 k7
  have b7 := F7.binds (ps := ["prime", "row", "at"]) fun _ _ _ _ _ _ us hl => match us, hl with | [_, _, _], _ => rfl
  have s7 : Sits K mg "_law_worth" st__law_worth ["prime", "row", "at"] := ⟨_, _, F7, PySem.W.mg_of X G a7, b7⟩
  have F8 := fun_mk (st := st_back) l8 c8 k8
  have b8 := F8.binds (ps := ["table", "number"]) fun _ _ _ _ _ _ us hl => match us, hl with | [_, _], _ => rfl
  have s8 : Sits K mg "back" st_back ["table", "number"] := ⟨_, _, F8, PySem.W.mg_of X G a8, b8⟩
  have F9 := fun_mk (st := st_product) l9 c9 k9
  have b9 := F9.binds (ps := ["table", "row", "other"]) fun _ _ _ _ _ _ us hl => match us, hl with | [_, _, _], _ => rfl
  have s9 : Sits K mg "product" st_product ["table", "row", "other"] := ⟨_, _, F9, PySem.W.mg_of X G a9, b9⟩
  have F10 := fun_mk (st := st_through) l10 c10 k10
  have b10 := F10.binds (ps := ["table", "points"]) fun _ _ _ _ _ _ us hl => match us, hl with | [_, _], _ => rfl
  have s10 : Sits K mg "through" st_through ["table", "points"] := ⟨_, _, F10, PySem.W.mg_of X G a10, b10⟩
  have F11 := fun_mk (st := st_weights) l11 c11 k11
  have b11 := F11.binds (ps := ["table"]) fun _ _ _ _ _ _ us hl => match us, hl with | [_], _ => rfl
  have s11 : Sits K mg "weights" st_weights ["table"] := ⟨_, _, F11, PySem.W.mg_of X G a11, b11⟩
  have F12 := fun_mk (st := st_law) l12 c12 k12
  refine ⟨PySem.W.fnOf "law" "law" (defArgs st_law) (defBody st_law) (defScope st_law) .none kV12 dc12 pm12 an12 cd12 ct12, fun s v => .of_eq rfl, fun base _ _ => ?_⟩
  have D__law_cell_at := ok__law_cell_at (P := l.prog) (w := w) (base := base) s1 T 
  have D__law_mix := ok__law_mix (P := l.prog) (w := w) (base := base) s2 T 
  have D__law_numbers := ok__law_numbers (P := l.prog) (w := w) (base := base) s3 T D__law_mix
  obtain ⟨fm4, G4, bm4⟩ := ok_Table___init__ (P := l.prog) (w := w) (base := base) s4 T 
  have C_Table : ClsOk l.prog w K mg base 1 (3 + 1) "Table" ["self", "prime", "hands", "few"] S_Table___init__ := ⟨_, _, _, ⟨mk_Table, a4, i4, kc_Table⟩, G4, PySem.W.mg_of X G a_Table, bm4⟩
  have D__law_table_by := ok__law_table_by (P := l.prog) (w := w) (base := base) s5 T C_Table
  have D__law_whole := ok__law_whole (P := l.prog) (w := w) (base := base) s6 T 
  have D__law_worth := ok__law_worth (P := l.prog) (w := w) (base := base) s7 T 
  have D_back := ok_back (P := l.prog) (w := w) (base := base) s8 T 
  have D_product := ok_product (P := l.prog) (w := w) (base := base) s9 T 
  have D_through := ok_through (P := l.prog) (w := w) (base := base) s10 T D_back D_product
  have D_weights := ok_weights (P := l.prog) (w := w) (base := base) s11 T D_through
  exact law_ok (ok_law F12 T D__law_cell_at D__law_numbers D__law_table_by D__law_whole D__law_worth D_weights) VL.law05
end K05
open PySem PySem.W PyProof.Rows
set_option maxRecDepth 100000 in
set_option maxHeartbeats 0 in
theorem PySem.Challenge.cw_veilsum_k05_weights_holds : PySem.Challenge.rw_veilsum_k05_weights.Holds := by
  w_on; o_law; k_head; (case hw => w_witness2)
  k_fill
  refine L2.walk_of (l := PySem.Challenge.rw_veilsum_k05_weights) (n := 63) (k := 4) (x := "script") (CX := fun w => L2.CX PySem.Challenge.rw_veilsum_k05_weights.prog w) (sp := fun w => VL.spLaw _) rfl (by decide) rfl ⟨rfl, by decide, by decide⟩ (fun w h Y => PySem.W.kIn_of Y) ?F (fun _ _ a ns hl _ hS => ⟨a, ns, rfl, hS, hl, fun _ => rfl⟩) (fun _ _ _ _ _ h => by obtain ⟨_, _, _, _, _, _, _, _, _, _, _, _, z⟩ := h; exact z.elim)
  case F =>
    intro w mg fa h KX G hmg
    refine' K05.all_mk KX G hmg ?a_Table ?pg_Table ?hd_Table ?po_Table ?sa_Table ?mk_Table ?kc_Table ?n_Table_few ?n_Table_hands ?n_Table_prime ?a_AlikePoints ?x_AlikePoints ?k_AlikePoints ?s_AlikePoints ?t_AlikePoints ?a_BadTable ?x_BadTable ?k_BadTable ?s_BadTable ?t_BadTable ?a_Nought ?x_Nought ?k_Nought ?s_Nought ?t_Nought ?z_all ?z_bool ?z_enumerate ?z_int ?z_isinstance ?z_len ?z_list ?z_max ?z_min ?z_range ?z_sum ?z_zip ?a_PRIMES ?l_PRIMES ?a1 ?l1 ?c1 ?k1 ?a2 ?l2 ?c2 ?k2 ?a3 ?l3 ?c3 ?k3 ?a4 ?i4 ?l4 ?c4 ?k4 ?a5 ?l5 ?c5 ?k5 ?a6 ?l6 ?c6 ?k6 ?a7 ?l7 ?c7 ?k7 ?a8 ?l8 ?c8 ?k8 ?a9 ?l9 ?c9 ?k9 ?a10 ?l10 ?c10 ?k10 ?a11 ?l11 ?c11 ?k11 ?a12 ?l12 ?c12 ?k12
    (case a_Table => k_is)
    (case pg_Table => k_is)
    (case hd_Table => k_is)
    (case po_Table => k_is)
    (case sa_Table => k_is)
    (case mk_Table => k_is)
    (case kc_Table => k_is)
    (case n_Table_few => k_is)
    (case n_Table_hands => k_is)
    (case n_Table_prime => k_is)
    (case a_AlikePoints => k_is)
    (case x_AlikePoints => k_exc)
    (case k_AlikePoints => k_is)
    (case s_AlikePoints => k_is)
    (case t_AlikePoints => k_is)
    (case a_BadTable => k_is)
    (case x_BadTable => k_exc)
    (case k_BadTable => k_is)
    (case s_BadTable => k_is)
    (case t_BadTable => k_is)
    (case a_Nought => k_is)
    (case x_Nought => k_exc)
    (case k_Nought => k_is)
    (case s_Nought => k_is)
    (case t_Nought => k_is)
    (case z_all => k_is)
    (case z_bool => k_is)
    (case z_enumerate => k_is)
    (case z_int => k_is)
    (case z_isinstance => k_is)
    (case z_len => k_is)
    (case z_list => k_is)
    (case z_max => k_is)
    (case z_min => k_is)
    (case z_range => k_is)
    (case z_sum => k_is)
    (case z_zip => k_is)
    (case a_PRIMES => k_is)
    (case l_PRIMES => k_is)
    (case a1 => k_is)
    (case l1 => k_is)
    (case c1 => k_is)
    (case k1 => k_is)
    (case a2 => k_is)
    (case l2 => k_is)
    (case c2 => k_is)
    (case k2 => k_is)
    (case a3 => k_is)
    (case l3 => k_is)
    (case c3 => k_is)
    (case k3 => k_is)
    (case a4 => k_is)
    (case i4 => k_is)
    (case l4 => k_is)
    (case c4 => k_is)
    (case k4 => k_is)
    (case a5 => k_is)
    (case l5 => k_is)
    (case c5 => k_is)
    (case k5 => k_is)
    (case a6 => k_is)
    (case l6 => k_is)
    (case c6 => k_is)
    (case k6 => k_is)
    (case a7 => k_is)
    (case l7 => k_is)
    (case c7 => k_is)
    (case k7 => k_is)
    (case a8 => k_is)
    (case l8 => k_is)
    (case c8 => k_is)
    (case k8 => k_is)
    (case a9 => k_is)
    (case l9 => k_is)
    (case c9 => k_is)
    (case k9 => k_is)
    (case a10 => k_is)
    (case l10 => k_is)
    (case c10 => k_is)
    (case k10 => k_is)
    (case a11 => k_is)
    (case l11 => k_is)
    (case c11 => k_is)
    (case k11 => k_is)
    (case a12 => k_is)
    (case l12 => k_is)
    (case c12 => k_is)
    (case k12 => k_is)
