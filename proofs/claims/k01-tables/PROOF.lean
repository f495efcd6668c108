import PyProof.Rows.All
import Wide.All
import OpenK.AllK
import Wide.FinOn
import HandS.ForMost
import HandS.ForExc
import HandS.Deep
import HandS.Zip
import HandS.SortInts
import HandS.SetFor
import HandS.IsInst
import HandS.ExcIs
import HandS.HotCalls
import HandS.ExcCtx
import HandS.TupAny
import HandS.Conv
import HandS.More
import HandS.Style
import HandS.TryMany
import PySem.Challenge.RW_veilsum_k01_tables
set_option Elab.async false
set_option linter.all false
set_option maxRecDepth 100000
set_option maxHeartbeats 4000000
namespace VL
open PySem PySem.Spec PyProof.Rows L2

inductive FV where
  | d (p : PyData)
  | ob (c : Str) (fs : List (Str × PyData))
  | sc (ns : List Int)
inductive SV where
  | f (x : FV)
  | own (xs : List SV)
  | otup (xs : List SV)
  | obj (c : Str) (fs : List (Str × SV))
inductive Slot where
  | no
  | va (s : SV)
  | rf (s : SV)
  | vw (s : SV)
abbrev Env := List Slot

inductive Res (α : Type) where
  | ok (a : α)
  | err (c : Str)
  | bad
def Res.bind {α β : Type} : Res α → (α → Res β) → Res β
  | .ok a, k => k a
  | .err c, _ => .err c
  | .bad, _ => .bad
inductive Out (α : Type) where
  | ok (a : α) (e : Env)
  | err (c : Str)
  | bad
inductive Flow where
  | nx (e : Env)
  | rt (v : SV) (e : Env)
  | err (c : Str) (e : Env)
  | bad

mutual
inductive Dq (K : PySem.W.Frag) (G : Hp) : V → PyData → Prop
  | non : Dq K G .non .none
  | bl (b : Bool) : Dq K G (.bl b) (.bool b)
  | int (i : Int) : Dq K G (.int i) (.int i)
  | str (x : Str) : Dq K G (.str x) (.str x)
  | lst {a : Addr} {xs : List V} {ds : List PyData} : G a = some (.lst xs) → Dqs K G xs ds → Dq K G (.ref a) (.list ds)
  | tup {a : Addr} {xs : List V} {ds : List PyData} : SqT K G a xs → Dqs K G xs ds → Dq K G (.ref a) (.tuple ds)
inductive Dqs (K : PySem.W.Frag) (G : Hp) : List V → List PyData → Prop
  | nil : Dqs K G [] []
  | cons {v : V} {vs : List V} {d : PyData} {ds : List PyData} : Dq K G v d → Dqs K G vs ds → Dqs K G (v :: vs) (d :: ds)
end
inductive Dqf (K : PySem.W.Frag) (G : Hp) : List (Str × V) → List (Str × PyData) → Prop
  | nil : Dqf K G [] []
  | cons {n : Str} {v : V} {vs : List (Str × V)} {d : PyData} {ds : List (Str × PyData)} : Dq K G v d → Dqf K G vs ds → Dqf K G ((n, v) :: vs) ((n, d) :: ds)
inductive Fq (K : PySem.W.Frag) (mg : Str → Option Value) (G : Hp) : V → FV → Prop
  | d {v : V} {p : PyData} : Dq K G v p → Fq K mg G v (.d p)
  | ob {a C dx : Addr} {c : Str} {vs : List (Str × V)} {fs : List (Str × PyData)} : mg c = some (.ref C) → G a = some (.ins C dx vs) → Dqf K G vs fs → Fq K mg G (.ref a) (.ob c fs)
  | sc {a : Addr} {ns : List Int} : SqL K G a (ns.map V.int) → Fq K mg G (.ref a) (.sc ns)
mutual
inductive Ow (K : PySem.W.Frag) (mg : Str → Option Value) (G H : Hp) : V → SV → List Addr → Prop
  | f {v : V} {x : FV} : Fq K mg G v x → Ow K mg G H v (.f x) []
  | own {a : Addr} {vs : List V} {xs : List SV} {r : List Addr} : H a = some (.lst vs) → Ows K mg G H vs xs r → Ow K mg G H (.ref a) (.own xs) (a :: r)
  | otup {a : Addr} {vs : List V} {xs : List SV} {r : List Addr} : H a = some (.tup vs) → Ows K mg G H vs xs r → Ow K mg G H (.ref a) (.otup xs) (a :: r)
  | obj {a C dx : Addr} {c : Str} {vs : List (Str × V)} {fs : List (Str × SV)} {r : List Addr} : mg c = some (.ref C) → H a = some (.ins C dx vs) → Owf K mg G H vs fs r → Ow K mg G H (.ref a) (.obj c fs) (a :: r)
inductive Ows (K : PySem.W.Frag) (mg : Str → Option Value) (G H : Hp) : List V → List SV → List Addr → Prop
  | nil : Ows K mg G H [] [] []
  | cons {v : V} {vs : List V} {x : SV} {xs : List SV} {r rs : List Addr} : Ow K mg G H v x r → Ows K mg G H vs xs rs → Ows K mg G H (v :: vs) (x :: xs) (r ++ rs)
inductive Owf (K : PySem.W.Frag) (mg : Str → Option Value) (G H : Hp) : List (Str × V) → List (Str × SV) → List Addr → Prop
  | nil : Owf K mg G H [] [] []
  | cons {n : Str} {v : V} {vs : List (Str × V)} {x : SV} {xs : List (Str × SV)} {r rs : List Addr} : Ow K mg G H v x r → Owf K mg G H vs xs rs → Owf K mg G H ((n, v) :: vs) ((n, x) :: xs) (r ++ rs)
end

section
variable {K : PySem.W.Frag} {mg : Str → Option Value} {G G' H H' : Hp}
theorem sqt_mono {a : Addr} {xs : List V} (e : Same G G') (h : SqT K G a xs) : SqT K G' a xs := by
  rcases h with (h | ⟨o, h⟩) | h
  · exact .inl (.inl (e _ _ h))
  · exact .inl (.inr ⟨o, e _ _ h⟩)
  · exact .inr h
mutual
theorem Dq.mono (e : Same G G') : ∀ {v : V} {p : PyData}, Dq K G v p → Dq K G' v p
  | _, _, .non => .non
  | _, _, .bl b => .bl b
  | _, _, .int i => .int i
  | _, _, .str x => .str x
  | _, _, .lst h t => .lst (e _ _ h) (Dqs.mono e t)
  | _, _, .tup h t => .tup (sqt_mono e h) (Dqs.mono e t)
theorem Dqs.mono (e : Same G G') : ∀ {v : List V} {p : List PyData}, Dqs K G v p → Dqs K G' v p
  | _, _, .nil => .nil
  | _, _, .cons h t => .cons (Dq.mono e h) (Dqs.mono e t)
end
theorem Dqf.mono (e : Same G G') {v : List (Str × V)} {p : List (Str × PyData)} (h : Dqf K G v p) : Dqf K G' v p := by
  induction h with
  | nil => exact .nil
  | cons h t ih => exact .cons (h.mono e) ih
theorem Fq.mono (e : Same G G') {v : V} {x : FV} (h : Fq K mg G v x) : Fq K mg G' v x := by
  cases h with
  | d h => exact .d (h.mono e)
  | ob m h t => exact .ob m (e _ _ h) (t.mono e)
  | sc h => exact .sc (e.seq h)
mutual
theorem Dq.dp : ∀ {v : V} {p : PyData}, Dq K G v p → Dp K G v p
  | _, _, .non => .non
  | _, _, .bl b => .bl b
  | _, _, .int i => .int i
  | _, _, .str x => .str x
  | _, _, .lst h t => .lst (.inl (.inl h)) (Dqs.dp t)
  | _, _, .tup h t => .tup h (Dqs.dp t)
theorem Dqs.dp : ∀ {v : List V} {p : List PyData}, Dqs K G v p → DpAll K G v p
  | _, _, .nil => .nil
  | _, _, .cons h t => .cons (Dq.dp h) (Dqs.dp t)
end
inductive Dr (K : PySem.W.Frag) (G H : Hp) : V → PyData → Prop
  | fz {v : V} {p : PyData} : Dq K G v p → Dr K G H v p
  | top {a : Addr} {vs : List V} {ds : List PyData} : H a = some (.lst vs) → Dqs K G vs ds → Dr K G H (.ref a) (.list ds)
theorem Dr.lst {a : V} {ds : List PyData} (s : Same G H) (h : Dr K G H a (.list ds)) : ∃ b vs, a = .ref b ∧ H b = some (.lst vs) ∧ Dqs K G vs ds := by
  cases h with
  | fz h => cases h with
    | lst h t => exact ⟨_, _, rfl, s _ _ h, t⟩
  | top h t => exact ⟨_, _, rfl, h, t⟩
theorem Dr.dp {v : V} {p : PyData} (s : Same G H) (h : Dr K G H v p) : Dp K H v p := by
  cases h with
  | fz h => exact (h.mono s).dp
  | top h t => exact .lst (.inl (.inl h)) (t.mono s).dp
theorem Dr.mono {v : V} {p : PyData} (g : Same G G') (e : Same H H') (h : Dr K G H v p) : Dr K G' H' v p := by
  cases h with
  | fz h => exact .fz (h.mono g)
  | top h t => exact .top (e _ _ h) (t.mono g)
theorem Dqs.length {vs : List V} {ds : List PyData} (h : Dqs K G vs ds) : vs.length = ds.length := by
  induction ds generalizing vs with
  | nil => cases h; rfl
  | cons d ds ih => cases h with | cons h t => simp [ih t]
theorem Dqs.get {vs : List V} {ds : List PyData} {i : Nat} {d : PyData} (h : Dqs K G vs ds) (e : ds[i]? = some d) : ∃ v, vs[i]? = some v ∧ Dq K G v d := by
  induction ds generalizing vs i with
  | nil => simp at e
  | cons x ds ih =>
    cases h with
    | cons h t =>
      cases i with
      | zero => simp at e; subst e; exact ⟨_, rfl, h⟩
      | succ i => simpa using ih t (by simpa using e)
theorem Dqs.append {vs ws : List V} {ds es : List PyData} (h : Dqs K G vs ds) (h' : Dqs K G ws es) : Dqs K G (vs ++ ws) (ds ++ es) := by
  induction ds generalizing vs with
  | nil => cases h; exact h'
  | cons d ds ih => cases h with | cons h t => exact .cons h (ih t)
theorem Dqs.take {vs : List V} {ds : List PyData} (h : Dqs K G vs ds) (n : Nat) : Dqs K G (vs.take n) (ds.take n) := by
  induction ds generalizing vs n with
  | nil => cases h; simp; exact .nil
  | cons d ds ih =>
    cases h with
    | cons h t =>
      cases n with
      | zero => exact .nil
      | succ n => exact .cons h (ih t n)
theorem Dqs.drop {vs : List V} {ds : List PyData} (h : Dqs K G vs ds) (n : Nat) : Dqs K G (vs.drop n) (ds.drop n) := by
  induction ds generalizing vs n with
  | nil => cases h; simp; exact .nil
  | cons d ds ih =>
    cases h with
    | cons h t =>
      cases n with
      | zero => exact .cons h t
      | succ n => exact ih t n
theorem Dqs.bools {vs : List V} {ns : List Bool} (h : Dqs K G vs (ns.map PyData.bool)) : vs = ns.map V.bl := by
  induction ns generalizing vs with
  | nil => cases h; rfl
  | cons n ns ih => cases h with | cons h t => cases h; simp [ih t]
theorem Dqs.of_ints (ns : List Int) : Dqs K G (ns.map V.int) (ns.map PyData.int) := by
  induction ns with
  | nil => exact .nil
  | cons n ns ih => exact .cons (.int n) ih

mutual
theorem Ow.mono (g : Same G G') : ∀ {v : V} {x : SV} {r : List Addr}, Ow K mg G H v x r → (∀ a ∈ r, H' a = H a) → Ow K mg G' H' v x r
  | _, _, _, .f h, _ => .f (h.mono g)
  | _, _, _, .own h t, e => .own ((e _ List.mem_cons_self).trans h) (Ows.mono g t fun a m => e a (List.mem_cons_of_mem _ m))
  | _, _, _, .otup h t, e => .otup ((e _ List.mem_cons_self).trans h) (Ows.mono g t fun a m => e a (List.mem_cons_of_mem _ m))
  | _, _, _, .obj m h t, e => .obj m ((e _ List.mem_cons_self).trans h) (Owf.mono g t fun a m => e a (List.mem_cons_of_mem _ m))
theorem Ows.mono (g : Same G G') : ∀ {v : List V} {x : List SV} {r : List Addr}, Ows K mg G H v x r → (∀ a ∈ r, H' a = H a) → Ows K mg G' H' v x r
  | _, _, _, .nil, _ => .nil
  | _, _, _, .cons h t, e => .cons (Ow.mono g h fun a m => e a (List.mem_append_left _ m)) (Ows.mono g t fun a m => e a (List.mem_append_right _ m))
theorem Owf.mono (g : Same G G') : ∀ {v : List (Str × V)} {x : List (Str × SV)} {r : List Addr}, Owf K mg G H v x r → (∀ a ∈ r, H' a = H a) → Owf K mg G' H' v x r
  | _, _, _, .nil, _ => .nil
  | _, _, _, .cons h t, e => .cons (Ow.mono g h fun a m => e a (List.mem_append_left _ m)) (Owf.mono g t fun a m => e a (List.mem_append_right _ m))
end
mutual
theorem Ow.there : ∀ {v : V} {x : SV} {r : List Addr}, Ow K mg G H v x r → ∀ a ∈ r, ∃ o, H a = some o
  | _, _, _, .f h, _, m => by cases m
  | _, _, _, .own h t, a, m => by
    rcases List.mem_cons.mp m with rfl | m
    · exact ⟨_, h⟩
    · exact Ows.there t a m
  | _, _, _, .otup h t, a, m => by
    rcases List.mem_cons.mp m with rfl | m
    · exact ⟨_, h⟩
    · exact Ows.there t a m
  | _, _, _, .obj _ h t, a, m => by
    rcases List.mem_cons.mp m with rfl | m
    · exact ⟨_, h⟩
    · exact Owf.there t a m
theorem Ows.there : ∀ {v : List V} {x : List SV} {r : List Addr}, Ows K mg G H v x r → ∀ a ∈ r, ∃ o, H a = some o
  | _, _, _, .nil, _, m => by cases m
  | _, _, _, .cons h t, a, m => by
    rcases List.mem_append.mp m with m | m
    · exact Ow.there h a m
    · exact Ows.there t a m
theorem Owf.there : ∀ {v : List (Str × V)} {x : List (Str × SV)} {r : List Addr}, Owf K mg G H v x r → ∀ a ∈ r, ∃ o, H a = some o
  | _, _, _, .nil, _, m => by cases m
  | _, _, _, .cons h t, a, m => by
    rcases List.mem_append.mp m with m | m
    · exact Ow.there h a m
    · exact Owf.there t a m
end
theorem Ow.same {v : V} {x : SV} {r : List Addr} (g : Same G G') (e : Same H H') (h : Ow K mg G H v x r) : Ow K mg G' H' v x r :=
  h.mono g fun a m => by
    obtain ⟨o, q⟩ := h.there a m
    rw [q]; exact e a o q

mutual
def SV.frz : SV → Option PyData
  | .f (.d p) => some p
  | .f _ => none
  | .own xs => (SV.frzs xs).map .list
  | .otup xs => (SV.frzs xs).map .tuple
  | .obj _ _ => none
def SV.frzs : List SV → Option (List PyData)
  | [] => some []
  | x :: xs => match SV.frz x, SV.frzs xs with
    | some p, some ps => some (p :: ps)
    | _, _ => none
end
def SV.frzf : List (Str × SV) → Option (List (Str × PyData))
  | [] => some []
  | (n, x) :: xs => match SV.frz x, SV.frzf xs with
    | some p, some ps => some ((n, p) :: ps)
    | _, _ => none
def SV.frz? : SV → Option FV
  | .f x => some x
  | .own xs => (SV.frzs xs).map fun ps => .d (.list ps)
  | .otup xs => (SV.frzs xs).map fun ps => .d (.tuple ps)
  | .obj c fs => (SV.frzf fs).map fun ps => .ob c ps
end
end VL

set_option Elab.async false
set_option linter.all false
set_option maxRecDepth 100000
set_option maxHeartbeats 4000000
namespace VL
open PySem PySem.Spec PyProof.Rows L2
section
variable {K : PySem.W.Frag} {mg : Str → Option Value} {G G' H H' : Hp}
mutual
theorem Ow.frozen (g : Same G G') : ∀ {v : V} {x : SV} {r : List Addr} {p : PyData}, Ow K mg G H v x r → (∀ a ∈ r, ∀ o, H a = some o → G' a = some o) → SV.frz x = some p → Dq K G' v p
  | _, _, _, _, .f (.d h), _, q => by
    cases (show some _ = some _ from q)
    exact h.mono g
  | _, _, _, _, .f (.ob _ _ _), _, q => by cases (show none = some _ from q)
  | _, _, _, _, .f (.sc _), _, q => by cases (show none = some _ from q)
  | _, .own xs, _, _, .own h t, e, q => by
    have q' : (SV.frzs xs).map PyData.list = some _ := q
    cases z : SV.frzs xs with
    | none => rw [z] at q'; cases q'
    | some ps =>
      rw [z] at q'
      cases q'
      exact .lst (e _ List.mem_cons_self _ h) (Ows.frozen g t (fun a m => e a (List.mem_cons_of_mem _ m)) z)
  | _, .otup xs, _, _, .otup h t, e, q => by
    have q' : (SV.frzs xs).map PyData.tuple = some _ := q
    cases z : SV.frzs xs with
    | none => rw [z] at q'; cases q'
    | some ps =>
      rw [z] at q'
      cases q'
      exact .tup (SqT.of (e _ List.mem_cons_self _ h)) (Ows.frozen g t (fun a m => e a (List.mem_cons_of_mem _ m)) z)
  | _, _, _, _, .obj _ _ _, _, q => by cases (show none = some _ from q)
theorem Ows.frozen (g : Same G G') : ∀ {v : List V} {x : List SV} {r : List Addr} {p : List PyData}, Ows K mg G H v x r → (∀ a ∈ r, ∀ o, H a = some o → G' a = some o) → SV.frzs x = some p → Dqs K G' v p
  | _, _, _, _, .nil, _, q => by
    cases (show some [] = some _ from q)
    exact .nil
  | _, x :: xs, _, _, .cons h t, e, q => by
    unfold SV.frzs at q
    split at q
    · rename_i p ps h1 h2
      cases q
      exact .cons (Ow.frozen g h (fun a m => e a (List.mem_append_left _ m)) h1) (Ows.frozen g t (fun a m => e a (List.mem_append_right _ m)) h2)
    · cases q
end
theorem Owf.frozen (g : Same G G') : ∀ {v : List (Str × V)} {x : List (Str × SV)} {r : List Addr} {p : List (Str × PyData)}, Owf K mg G H v x r → (∀ a ∈ r, ∀ o, H a = some o → G' a = some o) → SV.frzf x = some p → Dqf K G' v p
  | _, _, _, _, .nil, _, q => by
    cases (show some [] = some _ from q)
    exact .nil
  | _, (n, x) :: xs, _, _, .cons h t, e, q => by
    unfold SV.frzf at q
    split at q
    · rename_i p ps h1 h2
      cases q
      exact .cons (h.frozen g (fun a m => e a (List.mem_append_left _ m)) h1) (Owf.frozen g t (fun a m => e a (List.mem_append_right _ m)) h2)
    · cases q
theorem Ow.frozenF (g : Same G G') {v : V} {x : SV} {r : List Addr} {y : FV} (h : Ow K mg G H v x r) (e : ∀ a ∈ r, ∀ o, H a = some o → G' a = some o) (q : SV.frz? x = some y) : Fq K mg G' v y := by
  cases h with
  | f h =>
    cases (show some _ = some _ from q)
    exact h.mono g
  | @own a vs xs r h t =>
    have q' : (SV.frzs xs).map (fun ps => FV.d (PyData.list ps)) = some _ := q
    cases z : SV.frzs xs with
    | none => rw [z] at q'; cases q'
    | some ps =>
      rw [z] at q'
      cases q'
      exact .d (.lst (e _ List.mem_cons_self _ h) (Ows.frozen g t (fun a m => e a (List.mem_cons_of_mem _ m)) z))
  | @otup a vs xs r h t =>
    have q' : (SV.frzs xs).map (fun ps => FV.d (PyData.tuple ps)) = some _ := q
    cases z : SV.frzs xs with
    | none => rw [z] at q'; cases q'
    | some ps =>
      rw [z] at q'
      cases q'
      exact .d (.tup (SqT.of (e _ List.mem_cons_self _ h)) (Ows.frozen g t (fun a m => e a (List.mem_cons_of_mem _ m)) z))
  | @obj a C dx c vs fs r m h t =>
    have q' : (SV.frzf fs).map (fun ps => FV.ob c ps) = some _ := q
    cases z : SV.frzf fs with
    | none => rw [z] at q'; cases q'
    | some ps =>
      rw [z] at q'
      cases q'
      exact .ob m (e _ List.mem_cons_self _ h) (t.frozen g (fun a m => e a (List.mem_cons_of_mem _ m)) z)
def gu (G H : Hp) (r : List Addr) : Hp := fun a => if a ∈ r then H a else G a
theorem gu_in {r : List Addr} {a : Addr} (h : a ∈ r) : gu G H r a = H a := by unfold gu; rw [if_pos h]
theorem gu_out {r : List Addr} {a : Addr} (h : a ∉ r) : gu G H r a = G a := by unfold gu; rw [if_neg h]
theorem gu_same {r : List Addr} (s : Same G H) : Same G (gu G H r) := fun a o e => by
  by_cases m : a ∈ r
  · rw [gu_in m]; exact s a o e
  · rw [gu_out m]; exact e
theorem gu_sub {r : List Addr} (s : Same G H) : Same (gu G H r) H := fun a o e => by
  by_cases m : a ∈ r
  · rw [gu_in m] at e; exact e
  · rw [gu_out m] at e; exact s a o e

def slotOk (K : PySem.W.Frag) (mg : Str → Option Value) (G H : Hp) (pv : V) (o : Option (Option V)) (fp : List Addr) : Slot → Prop
  | .no => fp = []
  | .va s => ∃ v, o = some (some v) ∧ Ow K mg G H v s fp
  | .rf s => o = some (some pv) ∧ Ow K mg G H pv s fp
  | .vw s => fp = [] ∧ ∃ v r, o = some (some v) ∧ Ow K mg G H v s r
structure RS (K : PySem.W.Frag) (mg : Str → Option Value) (G : Hp) (σ : L2.St) (env : Env) (H : Hp) (fp : Nat → List Addr) (pv : Nat → V) : Prop where
  len : env.length = σ.length
  rel : ∀ i s, env[i]? = some s → slotOk K mg G H (pv i) σ[i]? (fp i) s
  nil : ∀ i, env.length ≤ i → fp i = []
  sub : Same G H
  out : ∀ i, ∀ a ∈ fp i, G a = none
  nd : ∀ i, (fp i).Nodup
  dj : ∀ i j a, a ∈ fp i → a ∈ fp j → i = j
structure Ext (G H G' H' : Hp) : Prop where
  g : Same G G'
  h : Same H H'
  s : Same G' H'
  n : ∀ a o, G' a = some o → G a = some o ∨ H a = none
theorem Ext.refl (s : Same G H) : Ext G H G H := ⟨Same.refl _, Same.refl _, s, fun _ _ e => .inl e⟩
theorem none_back (e : Same H H') {a : Addr} (h : H' a = none) : H a = none := e.free h
theorem Ext.trans {G2 H2 : Hp} (x : Ext G H G' H') (y : Ext G' H' G2 H2) : Ext G H G2 H2 := ⟨x.g.trans y.g, x.h.trans y.h, y.s, fun a o e => by
  rcases y.n a o e with q | q
  · exact x.n a o q
  · exact .inr (none_back x.h q)⟩
theorem Ext.new {p : Addr} {o : HO} (s : Same G H) (hp : H p = none) : Ext G H (upd G p o) (upd H p o) where
  g := fun a u e => by rw [upd_ne (ne_of_none (s _ _ e) hp)]; exact e
  h := fun a u e => by rw [upd_ne (ne_of_none e hp)]; exact e
  s := fun a u e => by
    by_cases q : a = p
    · subst q; rw [upd_same] at e ⊢; exact e
    · rw [upd_ne q] at e ⊢; exact s _ _ e
  n := fun a u e => by
    by_cases q : a = p
    · subst q; exact .inr hp
    · rw [upd_ne q] at e; exact .inl e
theorem Ext.newO {p : Addr} {o : HO} (s : Same G H) (hp : H p = none) : Ext G H G (upd H p o) where
  g := Same.refl _
  h := fun a u e => by rw [upd_ne (ne_of_none e hp)]; exact e
  s := fun a u e => by rw [upd_ne (ne_of_none (s _ _ e) hp)]; exact s _ _ e
  n := fun _ _ e => .inl e
theorem slotOk.mono {pv : V} {o : Option (Option V)} {fp : List Addr} {s : Slot} (g : Same G G') (e : Same H H') (h : slotOk K mg G H pv o fp s) : slotOk K mg G' H' pv o fp s := by
  cases s with
  | no => exact h
  | va s => obtain ⟨v, e1, q⟩ := h; exact ⟨v, e1, q.same g e⟩
  | rf s => obtain ⟨e1, q⟩ := h; exact ⟨e1, q.same g e⟩
  | vw p => obtain ⟨e0, v, r, e1, q⟩ := h; exact ⟨e0, v, r, e1, q.same g e⟩
theorem slotOk.there {pv : V} {o : Option (Option V)} {fp : List Addr} {s : Slot} (h : slotOk K mg G H pv o fp s) : ∀ a ∈ fp, ∃ u, H a = some u := by
  cases s with
  | no => intro a m; rw [show fp = [] from h] at m; cases m
  | va s => obtain ⟨v, e1, q⟩ := h; exact q.there
  | rf s => obtain ⟨e1, q⟩ := h; exact q.there
  | vw p => obtain ⟨e0, v, r, e1, q⟩ := h; intro a m; rw [e0] at m; cases m
variable {σ σ' : L2.St} {env : Env} {fp : Nat → List Addr} {pv : Nat → V}
theorem RS.there (h : RS K mg G σ env H fp pv) (i : Nat) : ∀ a ∈ fp i, ∃ u, H a = some u := by
  intro a m
  by_cases hi : i < env.length
  · exact (h.rel i _ (List.getElem?_eq_getElem hi)).there a m
  · rw [h.nil i (by omega)] at m; cases m
theorem RS.ext (h : RS K mg G σ env H fp pv) (x : Ext G H G' H') : RS K mg G' σ env H' fp pv where
  len := h.len
  rel := fun i s e => (h.rel i s e).mono x.g x.h
  nil := h.nil
  sub := x.s
  out := fun i a m => by
    cases q : G' a with
    | none => rfl
    | some o =>
      rcases x.n a o q with z | z
      · rw [h.out i a m] at z; cases z
      · obtain ⟨u, hu⟩ := h.there i a m
        rw [hu] at z; cases z
  nd := h.nd
  dj := h.dj
theorem RS.same (h : RS K mg G σ env H fp pv) (e : Same H H') : RS K mg G σ env H' fp pv :=
  h.ext ⟨Same.refl _, e, h.sub.trans e, fun _ _ q => .inl q⟩

def ErrW (mg : Str → Option Value) (W : WX) (σ : L2.St) (H : Hp) (c : Str) : Prop := ∀ C H', mg c = some (.ref C) → Same H H' → W (.ref C) none σ H'
def PostR {α : Type} (mg : Str → Option Value) (W : WX) (σ : L2.St) (H : Hp) (k : α → Prop) : Res α → Prop
  | .ok a => k a
  | .err c => ErrW mg W σ H c
  | .bad => False
abbrev FP := Env → Res FV
abbrev FD := Env → Res PyData
abbrev FO := Env → Res SV
abbrev FT := Env → Res Bool
def tP (K : PySem.W.Frag) (mg : Str → Option Value) (W : WX) (f : FP) : TE := fun σ H Q => ∃ G env fp pv, RS K mg G σ env H fp pv ∧
  PostR mg W σ H (fun x => ∀ v G' H', Ext G H G' H' → Fq K mg G' v x → Q v H') (f env)
def tD (K : PySem.W.Frag) (mg : Str → Option Value) (W : WX) (f : FD) : TE := fun σ H Q => ∃ G env fp pv, RS K mg G σ env H fp pv ∧
  PostR mg W σ H (fun x => ∀ v G' H', Ext G H G' H' → Dr K G' H' v x → Q v H') (f env)
def tO (K : PySem.W.Frag) (mg : Str → Option Value) (W : WX) (f : FO) : TE := fun σ H Q => ∃ G env fp pv, RS K mg G σ env H fp pv ∧
  PostR mg W σ H (fun x => ∀ v G' H' r, Ext G H G' H' → Ow K mg G' H' v x r → r.Nodup → (∀ a ∈ r, H a = none ∧ G' a = none) → Q v H') (f env)
def tT (K : PySem.W.Frag) (mg : Str → Option Value) (W : WX) (f : FT) : TT := fun σ H Q => ∃ G env fp pv, RS K mg G σ env H fp pv ∧
  PostR mg W σ H (fun x => ∀ G' H', Ext G H G' H' → Q x H') (f env)
def tA (K : PySem.W.Frag) (mg : Str → Option Value) (W : WX) (f : Env → Res (List PyData)) : TA := fun σ H Q => ∃ G env fp pv, RS K mg G σ env H fp pv ∧
  PostR mg W σ H (fun xs => ∀ vs G' H', Ext G H G' H' → Dqs K G' vs xs → Q vs H') (f env)
inductive Fqs (K : PySem.W.Frag) (mg : Str → Option Value) (G : Hp) : List V → List FV → Prop
  | nil : Fqs K mg G [] []
  | cons {v : V} {vs : List V} {x : FV} {xs : List FV} : Fq K mg G v x → Fqs K mg G vs xs → Fqs K mg G (v :: vs) (x :: xs)
theorem Fqs.mono (g : Same G G') {vs : List V} {xs : List FV} (h : Fqs K mg G vs xs) : Fqs K mg G' vs xs := by
  induction h with
  | nil => exact .nil
  | cons h t ih => exact .cons (h.mono g) ih
theorem ErrW.mono {W : WX} {c : Str} (e : Same H H') (h : ErrW mg W σ H c) : ErrW mg W σ H' c := fun C H2 m s => h C H2 m (e.trans s)
theorem PostR.imp {α : Type} {W : WX} {k k' : α → Prop} {r : Res α} (h : PostR mg W σ H k r) (e : Same H H') (q : ∀ a, k a → k' a) : PostR mg W σ H' k' r := by
  cases r with
  | ok a => exact q a h
  | err c => exact h.mono e
  | bad => exact h
theorem PostR.seq {α β : Type} {W : WX} {k : α → Prop} {j : β → Prop} {r : Res α} {g : α → Res β} (h : PostR mg W σ H j (r.bind g)) (q : ∀ a, PostR mg W σ H j (g a) → k a) : PostR mg W σ H k r := by
  cases r with
  | ok a => exact q a h
  | err c => exact h
  | bad => exact h
end

section
variable {X : Cx} {e : Expr} {es : List Expr}
theorem pe_imp {t t' : TE} (h : PE X e t) (q : ∀ σ H Q, t' σ H Q → t σ H Q) : PE X e t' := ⟨fun pins s σ H Q I w => h.run pins s σ H Q I (q σ H Q w)⟩
theorem pt_imp {t t' : TT} (h : PT X e t) (q : ∀ σ H Q, t' σ H Q → t σ H Q) : PT X e t' := ⟨fun pins s σ H Q I w => h.run pins s σ H Q I (q σ H Q w)⟩
theorem pa_imp {t t' : TA} (h : PA X es t) (q : ∀ σ H Q, t' σ H Q → t σ H Q) : PA X es t' := ⟨fun pos pins s σ H Q I w => h.run pos pins s σ H Q I (q σ H Q w)⟩
theorem ps_imp {st : Stmt} {t t' : TS} (h : PS X st t) (q : ∀ D σ H, t' D σ H → t D σ H) : PS X st t' := ⟨fun pins s σ H D I w => h.run pins s σ H D I (q D σ H w)⟩
theorem pss_imp {st : List Stmt} {t t' : TS} (h : PSs X st t) (q : ∀ D σ H, t' D σ H → t D σ H) : PSs X st t' := ⟨fun pins s σ H D I w => h.run pins s σ H D I (q D σ H w)⟩
theorem pi_imp {tg : Expr} {t t' : TI} (h : PI X tg e t) (q : ∀ σ H R, t' σ H R → t σ H R) : PI X tg e t' := ⟨fun pins s σ H R I w => h.run pins s σ H R I (q σ H R w)⟩
theorem pg_imp {t t' : TG} (h : PG X e t) (q : ∀ v σ H Q, t' v σ H Q → t v σ H Q) : PG X e t' := ⟨fun pins s σ H v u Q I r w => h.run pins s σ H v u Q I r (q v σ H Q w)⟩
abbrev VP (X : Cx) (W : WX) (e : Expr) (f : FP) : Prop := PE X e (tP X.K X.mg W f)
abbrev VD (X : Cx) (W : WX) (e : Expr) (f : FD) : Prop := PE X e (tD X.K X.mg W f)
abbrev VO (X : Cx) (W : WX) (e : Expr) (f : FO) : Prop := PE X e (tO X.K X.mg W f)
abbrev VT (X : Cx) (W : WX) (e : Expr) (f : FT) : Prop := PT X e (tT X.K X.mg W f)
abbrev VA (X : Cx) (W : WX) (es : List Expr) (f : Env → Res (List PyData)) : Prop := PA X es (tA X.K X.mg W f)
end
end VL

set_option Elab.async false
set_option linter.all false
set_option maxRecDepth 100000
set_option maxHeartbeats 4000000
namespace VL
open PySem PySem.Spec PyProof.Rows L2
section
variable {X : Cx} {W : WX} {a b c e : Expr} {es : List Expr} {pos : Pos}

def SV.leafs : List SV → Option (List PyData)
  | [] => some []
  | .f (.d p) :: xs => (SV.leafs xs).map (p :: ·)
  | _ :: _ => none
def SV.dl (ds : List PyData) : SV := .own (ds.map fun p => .f (.d p))
theorem leafs_dq {K : PySem.W.Frag} {mg : Str → Option Value} {G H : Hp} : ∀ {vs : List V} {xs : List SV} {r : List Addr} {ds : List PyData}, Ows K mg G H vs xs r → SV.leafs xs = some ds → Dqs K G vs ds
  | _, _, _, _, .nil, q => by
    cases (show some [] = some _ from q)
    exact .nil
  | _, x :: xs, _, _, .cons h t, q => by
    match x, h, q with
    | .f (.d p), .f (.d h), q =>
      have q' : (SV.leafs xs).map (p :: ·) = some _ := q
      cases z : SV.leafs xs with
      | none => rw [z] at q'; cases q'
      | some ds => rw [z] at q'; cases q'; exact .cons h (leafs_dq t z)
    | .f (.ob _ _), _, q => cases (show none = some _ from q)
    | .f (.sc _), _, q => cases (show none = some _ from q)
    | .own _, _, q => cases (show none = some _ from q)
    | .otup _, _, q => cases (show none = some _ from q)
    | .obj _ _, _, q => cases (show none = some _ from q)
theorem leafs_map (ds : List PyData) : SV.leafs (ds.map fun p => .f (.d p)) = some ds := by
  induction ds with
  | nil => rfl
  | cons d ds ih => show (SV.leafs _).map _ = _; rw [ih]; rfl
theorem frzs_map (ds : List PyData) : SV.frzs (ds.map fun p => .f (.d p)) = some ds := by
  induction ds with
  | nil => rfl
  | cons d ds ih =>
    show (match SV.frz (.f (.d d)), SV.frzs (ds.map fun p => .f (.d p)) with | some p, some ps => some (p :: ps) | _, _ => none) = _
    rw [ih]
    rfl
theorem frz?_dl (ds : List PyData) : SV.frz? (SV.dl ds) = some (.d (.list ds)) := by
  show (SV.frzs _).map _ = _
  rw [frzs_map]; rfl
theorem frz_dl (ds : List PyData) : SV.frz (SV.dl ds) = some (.list ds) := by
  show (SV.frzs _).map _ = _
  rw [frzs_map]; rfl
theorem ows_of {K : PySem.W.Frag} {mg : Str → Option Value} {G H : Hp} : ∀ {vs : List V} {ds : List PyData}, Dqs K G vs ds → Ows K mg G H vs (ds.map fun p => .f (.d p)) []
  | _, _, .nil => .nil
  | _, _, .cons h t => .cons (r := []) (rs := []) (.f (.d h)) (ows_of t)
theorem ow_dl {K : PySem.W.Frag} {mg : Str → Option Value} {G H : Hp} {p : Addr} {vs : List V} {ds : List PyData} (h : H p = some (.lst vs)) (t : Dqs K G vs ds) : Ow K mg G H (.ref p) (SV.dl ds) [p] := .own h (ows_of t)
theorem new_dl {K : PySem.W.Frag} {mg : Str → Option Value} {G H : Hp} {vs : List V} {ds : List PyData} {Q : VK} (s : Same G H) (t : Dqs K G vs ds)
    (q : ∀ v G' H' r, Ext G H G' H' → Ow K mg G' H' v (SV.dl ds) r → r.Nodup → (∀ a ∈ r, H a = none ∧ G' a = none) → Q v H') : ∀ p, H p = none → Q (.ref p) (upd H p (.lst vs)) := fun p hp =>
  q _ G _ [p] (Ext.newO s hp) (ow_dl upd_same t) (by simp) fun a m => by
    have e : a = p := by simpa using m
    subst e
    exact ⟨hp, none_back s hp⟩
theorem new_tup {K : PySem.W.Frag} {mg : Str → Option Value} {G H : Hp} {vs : List V} {ds : List PyData} {Q : VK} (s : Same G H) (t : Dqs K G vs ds)
    (q : ∀ v G' H', Ext G H G' H' → Fq K mg G' v (.d (.tuple ds)) → Q v H') : ∀ p, H p = none → Q (.ref p) (upd H p (.tup vs)) := fun p hp =>
  q _ _ _ (Ext.new s hp) (.d (.tup (SqT.of upd_same) (t.mono (Ext.new s hp).g)))

def toD (f : FP) : FD := fun env => (f env).bind fun | .d p => .ok p | _ => .bad
def frO (f : FO) : FP := fun env => (f env).bind fun s => match s.frz? with | some x => .ok x | none => .bad
def frD (f : FO) : FD := fun env => (f env).bind fun s => match s.frz with | some x => .ok x | none => .bad
def unO (f : FP) : FO := fun env => (f env).bind fun x => .ok (.f x)
theorem vd_p {f : FP} (h : VP X W e f) : VD X W e (toD f) := pe_imp h fun σ H Q ⟨G, env, fp, pv, rs, w⟩ => ⟨G, env, fp, pv, rs, PostR.seq w fun x w v G' H' ex fq => by
  match x, fq, w with
  | .d p, .d q, w => exact w v G' H' ex (.fz q)
  | .ob _ _, _, w => exact w.elim
  | .sc _, _, w => exact w.elim⟩
theorem vp_o {f : FO} (h : VO X W e f) : VP X W e (frO f) := pe_imp h fun σ H Q ⟨G, env, fp, pv, rs, w⟩ => ⟨G, env, fp, pv, rs, PostR.seq w fun s w v G' H' r ex ow nd fr => by
  cases z : s.frz? with
  | none => rw [z] at w; exact w.elim
  | some x =>
    rw [z] at w
    have g : Same G' (gu G' H' r) := gu_same ex.s
    refine w v (gu G' H' r) H' ⟨ex.g.trans g, ex.h, gu_sub ex.s, fun a o e => ?_⟩ (ow.frozenF g (fun a m o e => by rw [gu_in m]; exact e) z)
    by_cases m : a ∈ r
    · exact .inr (fr a m).1
    · rw [gu_out m] at e; exact ex.n a o e⟩
theorem vd_o {f : FO} (h : VO X W e f) : VD X W e (frD f) := pe_imp h fun σ H Q ⟨G, env, fp, pv, rs, w⟩ => ⟨G, env, fp, pv, rs, PostR.seq w fun s w v G' H' r ex ow nd fr => by
  cases z : s.frz with
  | none => rw [z] at w; exact w.elim
  | some x =>
    rw [z] at w
    have g : Same G' (gu G' H' r) := gu_same ex.s
    refine w v (gu G' H' r) H' ⟨ex.g.trans g, ex.h, gu_sub ex.s, fun a o e => ?_⟩ (.fz (ow.frozen g (fun a m o e => by rw [gu_in m]; exact e) z))
    by_cases m : a ∈ r
    · exact .inr (fr a m).1
    · rw [gu_out m] at e; exact ex.n a o e⟩
theorem vo_p {f : FP} (h : VP X W e f) : VO X W e (unO f) := pe_imp h fun σ H Q ⟨G, env, fp, pv, rs, w⟩ => ⟨G, env, fp, pv, rs, PostR.seq w fun x w v G' H' ex fq =>
  w v G' H' [] ex (.f fq) .nil (fun _ m => by cases m)⟩

def vVar (i : Nat) : FP := fun env => match env[i]? with | some (.va (.f x)) => .ok x | some (.rf (.f x)) => .ok x | some (.vw (.f x)) => .ok x | _ => .bad
def vVarD (i : Nat) : FD := fun env => match env[i]? with
  | some (.va (.f (.d p))) => .ok p
  | some (.rf (.f (.d p))) => .ok p
  | some (.va (.own xs)) => match SV.leafs xs with | some ds => .ok (.list ds) | none => .bad
  | some (.rf (.own xs)) => match SV.leafs xs with | some ds => .ok (.list ds) | none => .bad
  | some (.vw (.f (.d p))) => .ok p
  | some (.vw (.own xs)) => match SV.leafs xs with | some ds => .ok (.list ds) | none => .bad
  | _ => .bad
theorem vp_var {i : Nat} (h : PE X e (tVar i)) : VP X W e (vVar i) := pe_imp h fun σ H Q ⟨G, env, fp, pv, rs, w⟩ => by
  unfold vVar at w
  split at w
  · rename_i x e1
    obtain ⟨v, e2, q⟩ := rs.rel i _ e1
    generalize fp i = r at q
    cases q with
    | f q => exact ⟨v, e2, w v G H (Ext.refl rs.sub) q⟩
  · rename_i x e1
    obtain ⟨e2, q⟩ := rs.rel i _ e1
    generalize fp i = r at q
    generalize pv i = u at e2 q
    cases q with
    | f q => exact ⟨_, e2, w _ G H (Ext.refl rs.sub) q⟩
  · rename_i x e1
    obtain ⟨_, v, r, e2, q⟩ := rs.rel i _ e1
    cases q with
    | f q => exact ⟨_, e2, w _ G H (Ext.refl rs.sub) q⟩
  · exact w.elim
theorem vd_var {i : Nat} (h : PE X e (tVar i)) : VD X W e (vVarD i) := pe_imp h fun σ H Q ⟨G, env, fp, pv, rs, w⟩ => by
  unfold vVarD at w
  split at w
  · rename_i x e1
    obtain ⟨v, e2, q⟩ := rs.rel i _ e1
    generalize fp i = r at q
    cases q with
    | f q => cases q with | d q => exact ⟨v, e2, w v G H (Ext.refl rs.sub) (.fz q)⟩
  · rename_i x e1
    obtain ⟨e2, q⟩ := rs.rel i _ e1
    generalize fp i = r at q
    generalize pv i = u at e2 q
    cases q with
    | f q => cases q with | d q => exact ⟨_, e2, w _ G H (Ext.refl rs.sub) (.fz q)⟩
  · rename_i xs e1
    obtain ⟨v, e2, q⟩ := rs.rel i _ e1
    generalize fp i = r at q
    cases z : SV.leafs xs with
    | none => rw [z] at w; exact w.elim
    | some ds =>
      rw [z] at w
      cases q with
      | own h t => exact ⟨_, e2, w _ G H (Ext.refl rs.sub) (.top h (leafs_dq t z))⟩
  · rename_i xs e1
    obtain ⟨e2, q⟩ := rs.rel i _ e1
    generalize fp i = r at q
    generalize pv i = u at e2 q
    cases z : SV.leafs xs with
    | none => rw [z] at w; exact w.elim
    | some ds =>
      rw [z] at w
      cases q with
      | own h t => exact ⟨_, e2, w _ G H (Ext.refl rs.sub) (.top h (leafs_dq t z))⟩
  · rename_i x e1
    obtain ⟨_, v, r, e2, q⟩ := rs.rel i _ e1
    cases q with
    | f q => cases q with | d q => exact ⟨v, e2, w v G H (Ext.refl rs.sub) (.fz q)⟩
  · rename_i xs e1
    obtain ⟨_, v, r, e2, q⟩ := rs.rel i _ e1
    cases z : SV.leafs xs with
    | none => rw [z] at w; exact w.elim
    | some ds =>
      rw [z] at w
      cases q with
      | own h t => exact ⟨_, e2, w _ G H (Ext.refl rs.sub) (.top h (leafs_dq t z))⟩
  · exact w.elim
def vC (p : PyData) : FP := fun _ => .ok (.d p)
theorem vp_c {v : V} {p : PyData} (h : PE X e (tC v)) (q : ∀ G, Dq X.K G v p) : VP X W e (vC p) := pe_imp h fun σ H Q ⟨G, env, fp, pv, rs, w⟩ => w v G H (Ext.refl rs.sub) (.d (q G))
theorem vp_int {i : Int} {j} : VP X W (.Constant (.int i) j pos) (vC (.int i)) := vp_c pe_int fun _ => .int i
theorem vp_bl {i : Bool} {j} : VP X W (.Constant (.bool i) j pos) (vC (.bool i)) := vp_c pe_bl fun _ => .bl i
theorem vp_non {j} : VP X W (.Constant .none j pos) (vC .none) := vp_c pe_non fun _ => .non
def v2 {α : Type} (h : PyData → PyData → Res α) (f g : FD) : Env → Res α := fun env => (f env).bind fun x => (g env).bind fun y => h x y
theorem tD_bin {α : Type} {h : PyData → PyData → Res α} {f g : FD} {r : R2} {ta tb : TE} {σ : L2.St} {H : Hp} {Q : VK} {j : Hp → Hp → α → Prop} {G : Hp} {env : Env} {fp : Nat → List Addr} {pv : Nat → V}
    (ea : ta = tD X.K X.mg W f) (eb : tb = tD X.K X.mg W g) (rs : RS X.K X.mg G σ env H fp pv)
    (w : PostR X.mg W σ H (j G H) (v2 h f g env)) (jm : ∀ {G H G' H' x}, Ext G H G' H' → j G H x → j G' H' x)
    (hr : ∀ x y vx vy G H, Same G H → Dr X.K G H vx x → Dr X.K G H vy y → PostR X.mg W σ H (j G H) (h x y) → r vx vy H Q) : tOp r ta tb σ H Q := by
  subst ea eb
  refine ⟨G, env, fp, pv, rs, PostR.seq w fun x w vx G1 H1 e1 q1 => ⟨G1, env, fp, pv, rs.ext e1, ?_⟩⟩
  refine PostR.imp (PostR.seq (k := fun y => PostR X.mg W σ H (j G H) (h x y)) w fun y w => w) e1.h fun y w vy G2 H2 e2 q2 => ?_
  exact hr x y vx vy G2 H2 e2.s (q1.mono e2.g e2.h) q2 (PostR.imp w (e1.h.trans e2.h) fun z q => jm (e1.trans e2) q)
def jP (K : PySem.W.Frag) (mg : Str → Option Value) (Q : VK) (G H : Hp) (x : FV) : Prop := ∀ v G' H', Ext G H G' H' → Fq K mg G' v x → Q v H'
def jO (K : PySem.W.Frag) (mg : Str → Option Value) (Q : VK) (G H : Hp) (x : SV) : Prop := ∀ v G' H' r, Ext G H G' H' → Ow K mg G' H' v x r → r.Nodup → (∀ a ∈ r, H a = none ∧ G' a = none) → Q v H'
theorem jP.ext {Q : VK} {G H G' H' : Hp} {x : FV} (e : Ext G H G' H') (h : jP X.K X.mg Q G H x) : jP X.K X.mg Q G' H' x := fun v G2 H2 e2 q => h v G2 H2 (e.trans e2) q
theorem jO.ext {Q : VK} {G H G' H' : Hp} {x : SV} (e : Ext G H G' H') (h : jO X.K X.mg Q G H x) : jO X.K X.mg Q G' H' x := fun v G2 H2 r e2 q nd fr => h v G2 H2 r (e.trans e2) q nd fun a m => ⟨none_back e.h (fr a m).1, (fr a m).2⟩
theorem vp_op {op : Operator} {r : R2} {h : PyData → PyData → Res FV} {f g : FD} (ho : OpR X (binaryOp op) r) (ha : VD X W a f) (hb : VD X W b g)
    (hr : ∀ σ Q x y vx vy G H, Same G H → Dr X.K G H vx x → Dr X.K G H vy y → PostR X.mg W σ H (jP X.K X.mg Q G H) (h x y) → r vx vy H Q) : VP X W (.BinOp a op b pos) (v2 h f g) :=
  pe_imp (pe_op ho ha hb) fun σ H Q ⟨G, env, fp, pv, rs, w⟩ => tD_bin (j := jP X.K X.mg Q) rfl rfl rs w jP.ext (hr σ Q)
theorem vo_op {op : Operator} {r : R2} {h : PyData → PyData → Res SV} {f g : FD} (ho : OpR X (binaryOp op) r) (ha : VD X W a f) (hb : VD X W b g)
    (hr : ∀ σ Q x y vx vy G H, Same G H → Dr X.K G H vx x → Dr X.K G H vy y → PostR X.mg W σ H (jO X.K X.mg Q G H) (h x y) → r vx vy H Q) : VO X W (.BinOp a op b pos) (v2 h f g) :=
  pe_imp (pe_op ho ha hb) fun σ H Q ⟨G, env, fp, pv, rs, w⟩ => tD_bin (j := jO X.K X.mg Q) rfl rfl rs w jO.ext (hr σ Q)
theorem vp_cm {op : CmpOp} {r : R2} {h : PyData → PyData → Res FV} {f g : FD} (ho : OpR X (compareOp op) r) (ha : VD X W a f) (hb : VD X W b g) (hm : behindInMarks op b = false)
    (hr : ∀ σ Q x y vx vy G H, Same G H → Dr X.K G H vx x → Dr X.K G H vy y → PostR X.mg W σ H (jP X.K X.mg Q G H) (h x y) → r vx vy H Q) : VP X W (.Compare a [op] [b] pos) (v2 h f g) :=
  pe_imp (pe_cmpR ho ha hb hm) fun σ H Q ⟨G, env, fp, pv, rs, w⟩ => tD_bin (j := jP X.K X.mg Q) rfl rfl rs w jP.ext (hr σ Q)
noncomputable def cIf {α : Type} (c : Prop) (a b : α) : α := @ite α c (Classical.propDecidable c) a b
theorem cIf_pos {α : Type} {c : Prop} {a b : α} (h : c) : cIf c a b = a := by unfold cIf; rw [if_pos h]
theorem cIf_neg {α : Type} {c : Prop} {a b : α} (h : ¬ c) : cIf c a b = b := by unfold cIf; rw [if_neg h]

def iI (i : Int) : Res FV := .ok (.d (.int i))
def iB (b : Bool) : Res FV := .ok (.d (.bool b))
def subI : PyData → PyData → Res FV
  | .int i, .int j => iI (i - j)
  | _, _ => .bad
noncomputable def modI : PyData → PyData → Res FV
  | .int i, .int j => cIf (0 < j) (iI (i % j)) .bad
  | _, _ => .bad
noncomputable def divI : PyData → PyData → Res FV
  | .int i, .int j => cIf (0 < j ∧ j < 1073741824) (iI (i / j)) .bad
  | _, _ => .bad
theorem Dr.int {K : PySem.W.Frag} {G H : Hp} {v : V} {i : Int} (h : Dr K G H v (.int i)) : v = .int i := by
  cases h with | fz h => cases h; rfl
theorem Dr.bool {K : PySem.W.Frag} {G H : Hp} {v : V} {i : Bool} (h : Dr K G H v (.bool i)) : v = .bl i := by
  cases h with | fz h => cases h; rfl
theorem Dr.str {K : PySem.W.Frag} {G H : Hp} {v : V} {i : Str} (h : Dr K G H v (.str i)) : v = .str i := by
  cases h with | fz h => cases h; rfl
theorem Dr.non {K : PySem.W.Frag} {G H : Hp} {v : V} (h : Dr K G H v .none) : v = .non := by
  cases h with | fz h => cases h; rfl
theorem jP.int {Q : VK} {G H : Hp} {i : Int} (s : Same G H) (h : jP X.K X.mg Q G H (.d (.int i))) : Q (.int i) H := h _ G H (Ext.refl s) (.d (.int i))
theorem jP.bool {Q : VK} {G H : Hp} {i : Bool} (s : Same G H) (h : jP X.K X.mg Q G H (.d (.bool i))) : Q (.bl i) H := h _ G H (Ext.refl s) (.d (.bl i))
theorem vp_sub {f g : FD} (ha : VD X W a f) (hb : VD X W b g) : VP X W (.BinOp a .Sub b pos) (v2 subI f g) := vp_op op_sub ha hb fun σ Q x y vx vy G H s hx hy w => by
  unfold subI at w
  split at w
  · exact ⟨_, _, hx.int, hy.int, jP.int s w⟩
  · exact w.elim
theorem vp_mod {f g : FD} (ha : VD X W a f) (hb : VD X W b g) : VP X W (.BinOp a .Mod b pos) (v2 modI f g) := vp_op op_mod ha hb fun σ Q x y vx vy G H s hx hy w => by
  unfold modI cIf at w
  split at w
  · split at w
    · rename_i h
      exact ⟨_, _, hx.int, hy.int, h, jP.int s w⟩
    · exact w.elim
  · exact w.elim
theorem vp_div {f g : FD} (ha : VD X W a f) (hb : VD X W b g) : VP X W (.BinOp a .FloorDiv b pos) (v2 divI f g) := vp_op op_fdiv ha hb fun σ Q x y vx vy G H s hx hy w => by
  unfold divI cIf at w
  split at w
  · split at w
    · rename_i h
      exact ⟨_, _, hx.int, hy.int, h, jP.int s w⟩
    · exact w.elim
  · exact w.elim
noncomputable def addV : PyData → PyData → Res SV
  | .int i, .int j => .ok (.f (.d (.int (i + j))))
  | .list xs, .list ys => cIf (xs.length + ys.length ≤ 16777216) (.ok (SV.dl (xs ++ ys))) .bad
  | .tuple xs, .tuple ys => cIf (xs.length + ys.length ≤ 16777216) (.ok (.f (.d (.tuple (xs ++ ys))))) .bad
  | _, _ => .bad
theorem jO.f {Q : VK} {G H : Hp} {x : FV} (h : jO X.K X.mg Q G H (.f x)) : jP X.K X.mg Q G H x := fun v G' H' e q => h v G' H' [] e (.f q) .nil (fun _ m => by cases m)
theorem sl_eq : sizeLine = 16777216 := sizeLine_eq
theorem Dr.tup {K : PySem.W.Frag} {G H : Hp} {v : V} {ds : List PyData} (h : Dr K G H v (.tuple ds)) : ∃ a vs, v = .ref a ∧ SqT K G a vs ∧ Dqs K G vs ds := by
  cases h with | fz h => cases h with | tup h t => exact ⟨_, _, rfl, h, t⟩
theorem vo_add {f g : FD} (ha : VD X W a f) (hb : VD X W b g) : VO X W (.BinOp a .Add b pos) (v2 addV f g) := vo_op (OpR.or op_add (OpR.or op_cat op_catA)) ha hb fun σ Q x y vx vy G H s hx hy w => by
  unfold addV cIf at w
  split at w
  · exact .inl ⟨_, _, hx.int, hy.int, jP.int s (jO.f w)⟩
  · split at w
    · rename_i xs ys hl
      obtain ⟨p1, v1, e1, h1, t1⟩ := hx.lst s
      obtain ⟨p2, v2, e2, h2, t2⟩ := hy.lst s
      exact .inr (.inl ⟨p1, p2, v1, v2, e1, e2, h1, h2, by rw [t1.length, t2.length, sl_eq]; exact hl, new_dl s (t1.append t2) w⟩)
    · exact w.elim
  · split at w
    · rename_i xs ys hl
      obtain ⟨p1, v1, e1, h1, t1⟩ := hx.tup
      obtain ⟨p2, v2, e2, h2, t2⟩ := hy.tup
      have w' := jO.f w
      refine .inr (.inr ⟨p1, p2, v1, v2, e1, e2, sqt_mono s h1, sqt_mono s h2, by rw [t1.length, t2.length, sl_eq]; exact hl, fun z => ?_, fun _ z => ?_, fun _ _ => new_tup s (t1.append t2) w'⟩)
      · subst z
        cases t1
        exact w' _ G H (Ext.refl s) (.d (.tup h2 t2))
      · subst z
        cases t2
        exact w' _ G H (Ext.refl s) (.d (.tup h1 (by rw [List.append_nil]; exact t1)))
    · exact w.elim
  · exact w.elim
noncomputable def mulV : PyData → PyData → Res SV
  | .int i, .int j => cIf ((-18446744073709551616 < i ∧ i < 18446744073709551616) ∨ (-18446744073709551616 < j ∧ j < 18446744073709551616)) (.ok (.f (.d (.int (i * j))))) .bad
  | .list xs, .int k => cIf (0 ≤ k ∧ k < 1000000 ∧ xs.length * k.toNat ≤ 16777216) (.ok (SV.dl (List.replicate k.toNat xs).flatten)) .bad
  | _, _ => .bad
theorem Dqs.rep {K : PySem.W.Frag} {G : Hp} {vs : List V} {ds : List PyData} (h : Dqs K G vs ds) : ∀ n : Nat, Dqs K G (List.replicate n vs).flatten (List.replicate n ds).flatten
  | 0 => .nil
  | n + 1 => by
    rw [List.replicate_succ, List.replicate_succ, List.flatten_cons, List.flatten_cons]
    exact h.append (Dqs.rep h n)
theorem vo_mul {f g : FD} (ha : VD X W a f) (hb : VD X W b g) : VO X W (.BinOp a .Mult b pos) (v2 mulV f g) := vo_op (OpR.or op_mul op_rep) ha hb fun σ Q x y vx vy G H s hx hy w => by
  unfold mulV cIf at w
  split at w
  · split at w
    · rename_i h
      exact .inl ⟨_, _, hx.int, hy.int, h.imp (fun q => ⟨by have := q.1; omega, by have := q.2; omega⟩) (fun q => ⟨by have := q.1; omega, by have := q.2; omega⟩), jP.int s (jO.f w)⟩
    · exact w.elim
  · split at w
    · rename_i xs k hl
      obtain ⟨p1, v1, e1, h1, t1⟩ := hx.lst s
      exact .inr ⟨p1, k, v1, e1, hy.int, h1, by omega, by omega, by rw [t1.length, sl_eq]; exact hl.2.2, new_dl s (t1.rep k.toNat) w⟩
    · exact w.elim
  · exact w.elim
def negI : PyData → Res FV
  | .int i => iI (-i)
  | _ => .bad
def v1 {α : Type} (h : PyData → Res α) (f : FD) : Env → Res α := fun env => (f env).bind fun x => h x
def ltI (r : Int → Int → Bool) : PyData → PyData → Res FV
  | .int i, .int j => iB (r i j)
  | _, _ => .bad
theorem rI0_ok {r : Int → Int → Bool} {σ : L2.St} {Q : VK} {x y : PyData} {vx vy : V} {G H : Hp} (s : Same G H) (hx : Dr X.K G H vx x) (hy : Dr X.K G H vy y) (w : PostR X.mg W σ H (jP X.K X.mg Q G H) (ltI r x y)) : rI0 (fun i j => .bl (r i j)) vx vy H Q := by
  unfold ltI at w
  split at w
  · exact ⟨_, _, hx.int, hy.int, jP.bool s w⟩
  · exact w.elim
def eqP (x y : PyData) : Res FV := if SeqAt.shaped x = true ∧ SeqAt.shaped y = true then iB (PyData.eqv x y) else .bad
def neP (x y : PyData) : Res FV := if SeqAt.shaped x = true ∧ SeqAt.shaped y = true then iB (!PyData.eqv x y) else .bad
theorem eqP_ok {σ : L2.St} {Q : VK} {x y : PyData} {vx vy : V} {G H : Hp} (s : Same G H) (hx : Dr X.K G H vx x) (hy : Dr X.K G H vy y) (w : PostR X.mg W σ H (jP X.K X.mg Q G H) (eqP x y)) : rEqD X.K vx vy H Q := by
  unfold eqP at w
  split at w
  · rename_i h
    exact ⟨x, y, hx.dp s, hy.dp s, h.1, h.2, jP.bool s w⟩
  · exact w.elim
theorem neP_ok {σ : L2.St} {Q : VK} {x y : PyData} {vx vy : V} {G H : Hp} (s : Same G H) (hx : Dr X.K G H vx x) (hy : Dr X.K G H vy y) (w : PostR X.mg W σ H (jP X.K X.mg Q G H) (neP x y)) : rNeD X.K vx vy H Q := by
  unfold neP at w
  split at w
  · rename_i h
    exact ⟨x, y, hx.dp s, hy.dp s, h.1, h.2, jP.bool s w⟩
  · exact w.elim
def flatP : PyData → Bool
  | .none => true
  | .bool _ => true
  | .int _ => true
  | .str _ => true
  | _ => false
def toV : PyData → V
  | .none => .non
  | .bool b => .bl b
  | .int i => .int i
  | .str s => .str s
  | _ => .flt 0
theorem Dq.flat {K : PySem.W.Frag} {G : Hp} {v : V} {p : PyData} (h : Dq K G v p) (f : flatP p = true) : v = toV p ∧ flatV v = true := by
  cases h with
  | non => exact ⟨rfl, rfl⟩
  | bl b => exact ⟨rfl, rfl⟩
  | int b => exact ⟨rfl, rfl⟩
  | str b => exact ⟨rfl, rfl⟩
  | lst _ _ => cases f
  | tup _ _ => cases f
theorem Dr.flat {K : PySem.W.Frag} {G H : Hp} {v : V} {p : PyData} (h : Dr K G H v p) (f : flatP p = true) : v = toV p ∧ flatV v = true := by
  cases h with
  | fz h => exact h.flat f
  | top _ _ => cases f
theorem Dqs.flat {K : PySem.W.Frag} {G : Hp} : ∀ {vs : List V} {ds : List PyData}, Dqs K G vs ds → ds.all flatP = true → vs = ds.map toV ∧ vs.all flatV = true
  | _, _, .nil, _ => ⟨rfl, rfl⟩
  | _, _, .cons h t, f => by
    rw [List.all_cons, Bool.and_eq_true] at f
    obtain ⟨e1, f1⟩ := h.flat f.1
    obtain ⟨e2, f2⟩ := Dqs.flat t f.2
    exact ⟨by rw [List.map_cons, ← e1, ← e2], by rw [List.all_cons, f1, f2]; rfl⟩
def inB (neg b : Bool) : Res FV := iB (if neg then !b else b)
def inP (neg : Bool) (x y : PyData) : Res FV := match y with
  | .list ds => if flatP x = true ∧ ds.all flatP = true then inB neg (inV (toV x) (ds.map toV)) else if SeqAt.shaped x = true ∧ SeqAt.shaped (.list ds) = true then inB neg (ds.any fun z => PyData.eqv z x) else .bad
  | .tuple ds => if flatP x = true ∧ ds.all flatP = true then inB neg (inV (toV x) (ds.map toV)) else .bad
  | _ => .bad
theorem inP_ok {neg : Bool} {σ : L2.St} {Q : VK} {x y : PyData} {vx vy : V} {G H : Hp} (s : Same G H) (hx : Dr X.K G H vx x) (hy : Dr X.K G H vy y) (w : PostR X.mg W σ H (jP X.K X.mg Q G H) (inP neg x y)) :
    rIn X.K neg vx vy H Q ∨ (∃ d ds, Dp X.K H vx d ∧ Dp X.K H vy (.list ds) ∧ SeqAt.shaped d = true ∧ SeqAt.shaped (.list ds) = true ∧ Q (.bl (if neg then !(ds.any fun z => PyData.eqv z d) else ds.any fun z => PyData.eqv z d)) H) := by
  unfold inP at w
  split at w
  · rename_i ds
    split at w
    · rename_i hf
      obtain ⟨e1, f1⟩ := hx.flat hf.1
      obtain ⟨p, vs, e2, h2, t2⟩ := hy.lst s
      obtain ⟨e3, f3⟩ := t2.flat hf.2
      refine .inl ⟨p, vs, e2, .inl (SqL.of h2), f1, f3, ?_⟩
      rw [e1, e3]
      exact jP.bool s w
    · split at w
      · rename_i hs
        exact .inr ⟨x, ds, hx.dp s, hy.dp s, hs.1, hs.2, jP.bool s w⟩
      · exact w.elim
  · rename_i ds
    split at w
    · rename_i hf
      obtain ⟨e1, f1⟩ := hx.flat hf.1
      obtain ⟨p, vs, e2, h2, t2⟩ := hy.tup
      obtain ⟨e3, f3⟩ := t2.flat hf.2
      refine .inl ⟨p, vs, e2, .inr (sqt_mono s h2), f1, f3, ?_⟩
      rw [e1, e3]
      exact jP.bool s w
    · exact w.elim
  · exact w.elim
inductive Cop where
  | lt | le | gt | ge | eq | ne | isin | notin
  deriving DecidableEq
def Cop.op : Cop → CmpOp
  | .lt => .Lt | .le => .LtE | .gt => .Gt | .ge => .GtE | .eq => .Eq | .ne => .NotEq | .isin => .In | .notin => .NotIn
def Cop.h : Cop → PyData → PyData → Res FV
  | .lt => ltI fun i j => decide (i < j)
  | .le => ltI fun i j => decide (i ≤ j)
  | .gt => ltI fun i j => decide (j < i)
  | .ge => ltI fun i j => decide (j ≤ i)
  | .eq => eqP
  | .ne => neP
  | .isin => inP false
  | .notin => inP true
def Cop.r (K : PySem.W.Frag) : Cop → R2
  | .lt => rI0 fun i j => .bl (decide (i < j))
  | .le => rI0 fun i j => .bl (decide (i ≤ j))
  | .gt => rI0 fun i j => .bl (decide (j < i))
  | .ge => rI0 fun i j => .bl (decide (j ≤ i))
  | .eq => rEqD K
  | .ne => rNeD K
  | .isin => fun x y H Q => rIn K false x y H Q ∨ rInD K x y H Q
  | .notin => fun x y H Q => rIn K true x y H Q ∨ rNotInD K x y H Q
theorem cop_or (hu : X.A.units + 65 < cLine) : ∀ c : Cop, OpR X (compareOp c.op) (c.r X.K)
  | .lt => op_lt
  | .le => op_le
  | .gt => op_gt
  | .ge => op_ge
  | .eq => op_eqD (by omega)
  | .ne => op_neD (by omega)
  | .isin => OpR.or op_in_seq (op_inD hu)
  | .notin => OpR.or op_notIn_seq (op_notInD hu)
theorem cop_ok {σ : L2.St} {Q : VK} {x y : PyData} {vx vy : V} {G H : Hp} (s : Same G H) (hx : Dr X.K G H vx x) (hy : Dr X.K G H vy y) : ∀ c : Cop, PostR X.mg W σ H (jP X.K X.mg Q G H) (c.h x y) → c.r X.K vx vy H Q
  | .lt, w => rI0_ok s hx hy w
  | .le, w => rI0_ok s hx hy w
  | .gt, w => rI0_ok s hx hy w
  | .ge, w => rI0_ok s hx hy w
  | .eq, w => eqP_ok s hx hy w
  | .ne, w => neP_ok s hx hy w
  | .isin, w => by
    rcases inP_ok s hx hy w with q | ⟨d, ds, h1, h2, h3, h4, q⟩
    · exact .inl q
    · exact .inr ⟨d, ds, h1, h2, h3, h4, q⟩
  | .notin, w => by
    rcases inP_ok s hx hy w with q | ⟨d, ds, h1, h2, h3, h4, q⟩
    · exact .inl q
    · exact .inr ⟨d, ds, h1, h2, h3, h4, q⟩
def vCmp (c : Cop) (f g : FD) : FP := v2 c.h f g
theorem vp_cmp (c : Cop) {f g : FD} (hu : X.A.units + 65 < cLine) (ha : VD X W a f) (hb : VD X W b g) (hm : behindInMarks c.op b = false) : VP X W (.Compare a [c.op] [b] pos) (vCmp c f g) :=
  vp_cm (cop_or hu c) ha hb hm fun σ Q x y vx vy G H s hx hy w => cop_ok s hx hy c w
end
end VL

set_option Elab.async false
set_option linter.all false
set_option maxRecDepth 100000
set_option maxHeartbeats 4000000
namespace VL
open PySem PySem.Spec PyProof.Rows L2
section
variable {X : Cx} {W : WX} {a b c e : Expr} {es : List Expr} {pos : Pos}

def toT (f : FP) : FT := fun env => (f env).bind fun | .d (.bool b) => .ok b | _ => .bad
theorem tT_tP {f : FP} {σ : L2.St} {H : Hp} {Q : Bool → Hp → Prop} (h : tT X.K X.mg W (toT f) σ H Q) : tP X.K X.mg W f σ H fun x H' => ∃ k, x = .bl k ∧ Q k H' := by
  obtain ⟨G, env, fp, pv, rs, w⟩ := h
  refine ⟨G, env, fp, pv, rs, PostR.seq w fun x w v G' H' ex q => ?_⟩
  match x, q, w with
  | .d (.bool k), .d q, w => cases q; exact ⟨k, rfl, w G' H' ex⟩
  | .d .none, _, w => exact w.elim
  | .d (.int _), _, w => exact w.elim
  | .d (.str _), _, w => exact w.elim
  | .d (.list _), _, w => exact w.elim
  | .d (.tuple _), _, w => exact w.elim
  | .d (.dict _), _, w => exact w.elim
  | .ob _ _, _, w => exact w.elim
  | .sc _, _, w => exact w.elim
theorem vp_cmp_imp {c : Cop} {f g : FD} {σ : L2.St} {H : Hp} {Q : VK} (w : tP X.K X.mg W (vCmp c f g) σ H Q) : tOp (c.r X.K) (tD X.K X.mg W f) (tD X.K X.mg W g) σ H Q := by
  obtain ⟨G, env, fp, pv, rs, w⟩ := w
  exact tD_bin (j := jP X.K X.mg Q) rfl rfl rs w jP.ext fun x y vx vy G H s hx hy w => cop_ok s hx hy c w
theorem vt_cmp (c : Cop) {f g : FD} (hu : X.A.units + 65 < cLine) (ha : VD X W a f) (hb : VD X W b g) (hm : behindInMarks c.op b = false) : VT X W (.Compare a [c.op] [b] pos) (toT (vCmp c f g)) :=
  pt_imp (pt_cmpR (cop_or hu c) ha hb hm) fun σ H Q w => vp_cmp_imp (tT_tP w)
def vChain (c c' : Cop) (f g h : FD) : FP := fun env => (f env).bind fun x => (g env).bind fun y => (c.h x y).bind fun
  | .d (.bool true) => (h env).bind fun z => c'.h y z
  | .d (.bool false) => iB false
  | _ => .bad
theorem vp_chain_imp {c c' : Cop} {f g h : FD} {σ : L2.St} {H : Hp} {Q : VK} (w : tP X.K X.mg W (vChain c c' f g h) σ H Q) : tChain (c.r X.K) (c'.r X.K) (tD X.K X.mg W f) (tD X.K X.mg W g) (tD X.K X.mg W h) σ H Q := by
  obtain ⟨G, env, fp, pv, rs, w⟩ := w
  refine ⟨G, env, fp, pv, rs, PostR.seq w fun x w vx G1 H1 e1 q1 => ⟨G1, env, fp, pv, rs.ext e1, ?_⟩⟩
  refine PostR.imp (PostR.seq (k := fun y => PostR X.mg W σ H (jP X.K X.mg Q G H) ((c.h x y).bind _)) w fun y w => w) e1.h fun y w vy G2 H2 e2 q2 => ?_
  have q1' := q1.mono e2.g e2.h
  show c.r X.K vx vy H2 _
  refine cop_ok (W := W) (σ := σ) e2.s q1' q2 c ?_
  refine PostR.imp (PostR.seq (k := fun z => PostR X.mg W σ H (jP X.K X.mg Q G H) _) w fun z w => w) (e1.h.trans e2.h) fun z w v G3 H3 e3 q3 => ?_
  · match z, q3, w with
    | .d (.bool true), .d q3, w =>
      cases q3
      refine ⟨true, rfl, ?_⟩
      show tD X.K X.mg W h σ H3 _
      refine ⟨G3, env, fp, pv, (rs.ext (e1.trans e2)).ext e3, ?_⟩
      refine PostR.imp (PostR.seq (k := fun z => PostR X.mg W σ H (jP X.K X.mg Q G H) (c'.h y z)) w fun y w => w) ((e1.h.trans e2.h).trans e3.h) fun z w vz G4 H4 e4 q4 => ?_
      exact cop_ok e4.s ((q2.mono e3.g e3.h).mono e4.g e4.h) q4 c' (PostR.imp w (((e1.h.trans e2.h).trans e3.h).trans e4.h) fun z q => jP.ext (((e1.trans e2).trans e3).trans e4) q)
    | .d (.bool false), .d q3, w =>
      cases q3
      exact ⟨false, rfl, jP.bool e3.s (jP.ext ((e1.trans e2).trans e3) w)⟩
    | .d .none, _, w => exact w.elim
    | .d (.int _), _, w => exact w.elim
    | .d (.str _), _, w => exact w.elim
    | .d (.list _), _, w => exact w.elim
    | .d (.tuple _), _, w => exact w.elim
    | .d (.dict _), _, w => exact w.elim
    | .ob _ _, _, w => exact w.elim
    | .sc _, _, w => exact w.elim
theorem vp_chain (k k' : Cop) {f g h : FD} (hu : X.A.units + 65 < cLine) (ha : VD X W a f) (hb : VD X W b g) (hc : VD X W c h) (hm : lastMarks [k.op, k'.op] [b, c] = false) : VP X W (.Compare a [k.op, k'.op] [b, c] pos) (vChain k k' f g h) :=
  pe_imp (pe_chain (cop_or hu k) (cop_or hu k') ha hb hc hm) fun σ H Q w => vp_chain_imp w
theorem vt_chain (k k' : Cop) {f g h : FD} (hu : X.A.units + 65 < cLine) (ha : VD X W a f) (hb : VD X W b g) (hc : VD X W c h) (hm : lastMarks [k.op, k'.op] [b, c] = false) : VT X W (.Compare a [k.op, k'.op] [b, c] pos) (toT (vChain k k' f g h)) :=
  pt_imp (pt_chain (cop_or hu k) (cop_or hu k') ha hb hc hm) fun σ H Q w => vp_chain_imp (tT_tP w)
abbrev VW (X : Cx) (W : WX) (e : Expr) (f : FT) : Prop := PW X e (tT X.K X.mg W f)
theorem pw_imp {t t' : TT} (h : PW X e t) (q : ∀ σ H Q, t' σ H Q → t σ H Q) : PW X e t' := ⟨fun wh pins s σ H Q I w => h.run wh pins s σ H Q I (q σ H Q w)⟩
def vAndT (f g : FT) : FT := fun env => (f env).bind fun b => if b = true then g env else .ok false
def vOrT (f g : FT) : FT := fun env => (f env).bind fun b => if b = true then .ok true else g env
def vNotT (f : FT) : FT := fun env => (f env).bind fun b => .ok (!b)
theorem vw_or1 {f : FT} (h : VT X W a f) : VW X W (.BoolOp .Or [a] pos) f := pw_or1 h
theorem vw_or {f g : FT} {rest : List Expr} (ha : VT X W a f) (hb : VW X W (.BoolOp .Or (b :: rest) pos) g) : VW X W (.BoolOp .Or (a :: b :: rest) pos) (vOrT f g) :=
  pw_imp (pw_or ha hb) fun σ H Q ⟨G, env, fp, pv, rs, w⟩ => ⟨G, env, fp, pv, rs, PostR.seq w fun k w G1 H1 e1 => by
    cases k with
    | true => exact w G1 H1 e1
    | false => exact ⟨G1, env, fp, pv, rs.ext e1, PostR.imp w e1.h fun z w G2 H2 e2 => w G2 H2 (e1.trans e2)⟩⟩
theorem vt_w {f : FT} (h : VW X W e f) : VT X W e f := h.pt
theorem vt_not {f : FT} (h : VT X W a f) : VT X W (.UnaryOp .Not a pos) (vNotT f) := pt_imp (pt_not h) fun σ H Q ⟨G, env, fp, pv, rs, w⟩ => ⟨G, env, fp, pv, rs, PostR.seq w fun k w G1 H1 e1 => w G1 H1 e1⟩
def bB {α : Type} (k : Bool → Res α) : FV → Res α
  | .d (.bool b) => k b
  | _ => .bad
def vAnd (f g : FP) : FP := fun env => (f env).bind (bB fun b => if b = true then g env else iB false)
def vOr (f g : FP) : FP := fun env => (f env).bind (bB fun b => if b = true then iB true else g env)
def vNot (f : FP) : FP := fun env => (f env).bind (bB fun b => iB (!b))
theorem bB_ok {α : Type} {K : PySem.W.Frag} {mg : Str → Option Value} {G H : Hp} {σ : L2.St} {v : V} {x : FV} {k : Bool → Res α} {j : α → Prop} (q : Fq K mg G v x) (w : PostR mg W σ H j (bB k x)) : ∃ b, v = .bl b ∧ PostR mg W σ H j (k b) := by
  match x, q, w with
  | .d (.bool b), .d q, w => cases q; exact ⟨b, rfl, w⟩
  | .d .none, _, w => exact w.elim
  | .d (.int _), _, w => exact w.elim
  | .d (.str _), _, w => exact w.elim
  | .d (.list _), _, w => exact w.elim
  | .d (.tuple _), _, w => exact w.elim
  | .d (.dict _), _, w => exact w.elim
  | .ob _ _, _, w => exact w.elim
  | .sc _, _, w => exact w.elim
theorem vp_one {op} {f : FP} (h : VP X W a f) : VP X W (.BoolOp op [a] pos) f := pe_one h
theorem vp_and {f g : FP} {rest : List Expr} (ha : VP X W a f) (hb : VP X W (.BoolOp .And (b :: rest) pos) g) : VP X W (.BoolOp .And (a :: b :: rest) pos) (vAnd f g) :=
  pe_imp (pe_and ha hb) fun σ H Q ⟨G, env, fp, pv, rs, w⟩ => ⟨G, env, fp, pv, rs, PostR.seq w fun k w v G1 H1 e1 q1 => by
    obtain ⟨k, rfl, w⟩ := bB_ok q1 w
    refine ⟨k, rfl, ?_⟩
    cases k with
    | true => exact ⟨G1, env, fp, pv, rs.ext e1, PostR.imp w e1.h fun z w v G2 H2 e2 => w v G2 H2 (e1.trans e2)⟩
    | false => exact jP.bool e1.s (jP.ext e1 w)⟩
theorem vp_not {f : FP} (h : VP X W a f) : VP X W (.UnaryOp .Not a pos) (vNot f) := pe_imp (pe_not h) fun σ H Q ⟨G, env, fp, pv, rs, w⟩ => ⟨G, env, fp, pv, rs, PostR.seq w fun k w v G1 H1 e1 q1 => by
    obtain ⟨k, rfl, w⟩ := bB_ok q1 w
    exact ⟨k, rfl, jP.bool e1.s (jP.ext e1 w)⟩⟩
def vIf {α : Type} (t : FT) (f g : Env → Res α) : Env → Res α := fun env => (t env).bind fun b => if b = true then f env else g env
def isN : PyData → Bool
  | .none => true
  | _ => false
def fldP (cn n : Str) : FV → Res FV
  | .ob c fs => if c = cn then (match fs.lookup n with | some p => .ok (.d p) | none => .bad) else .bad
  | _ => .bad
def vFld (cn n : Str) (f : FP) : FP := fun env => (f env).bind (fldP cn n)
theorem Dqf.look {K : PySem.W.Frag} {G : Hp} {n : Str} : ∀ {vs : List (Str × V)} {fs : List (Str × PyData)} {p : PyData}, Dqf K G vs fs → fs.lookup n = some p → ∃ v, vs.lookup n = some v ∧ Dq K G v p
  | _, _, _, .nil, h => by cases h
  | _, _, _, @Dqf.cons _ _ m v vs d ds h t, q => by
    by_cases e : (n == m) = true
    · simp only [List.lookup, e] at q ⊢
      cases q
      exact ⟨_, rfl, h⟩
    · have e' : (n == m) = false := by simpa using e
      simp only [List.lookup, e'] at q ⊢
      exact Dqf.look t q
def FldK (K : PySem.W.Frag) (mg : Str → Option Value) (c n : Str) : Prop :=
  ∀ C, mg c = some (.ref C) → Cls K C ∧ NoAttr K C n
abbrev FldOk (X : Cx) (c n : Str) : Prop := FldK X.K X.mg c n
theorem vp_fld {cn n : Str} {f : FP} (hc : FldOk X cn n) (ha : VP X W a f) (hb : attributeBase a n X.env (eval a X.env) = eval a X.env) : VP X W (.Attribute a n pos) (vFld cn n f) :=
  pe_imp (pe_fld ha hb) fun σ H Q ⟨G, env, fp, pv, rs, w⟩ => ⟨G, env, fp, pv, rs, PostR.seq w fun x w v G1 H1 e1 q1 => by
      match x, q1, w with
      | .ob c fs, .ob m h t, w =>
        have w0 : PostR X.mg W σ H (jP X.K X.mg Q G H) (if c = cn then (match fs.lookup n with | some p => .ok (.d p) | none => .bad) else .bad) := w
        by_cases ec : c = cn
        · rw [if_pos ec] at w0
          subst ec
          cases z2 : fs.lookup n with
          | none => rw [z2] at w0; exact w0.elim
          | some p =>
            rw [z2] at w0
            obtain ⟨u, hu, du⟩ := t.look z2
            obtain ⟨k1, k2⟩ := hc _ m
            exact ⟨_, _, _, _, u, rfl, e1.s _ _ h, k1, k2, hu, w0 u G1 H1 e1 (.d du)⟩
        · rw [if_neg ec] at w0; exact w0.elim
      | .d _, _, w => exact w.elim
      | .sc _, _, w => exact w.elim⟩

def ixP : PyData → PyData → Res FV
  | .list ds, .int i => match atI ds i with | some d => .ok (.d d) | none => .bad
  | .tuple ds, .int i => match atI ds i with | some d => .ok (.d d) | none => .bad
  | _, _ => .bad
theorem Dqs.atI {K : PySem.W.Frag} {G : Hp} {vs : List V} {ds : List PyData} {i : Int} {d : PyData} (h : Dqs K G vs ds) (e : L2.atI ds i = some d) : ∃ v, L2.atI vs i = some v ∧ Dq K G v d := by
  unfold L2.atI at e ⊢
  rw [h.length]
  cases z : ixN ds.length i with
  | none => rw [z] at e; cases e
  | some j => rw [z] at e; exact h.get e
theorem vp_ix {f g : FD} (ha : VD X W a f) (hb : VD X W b g) (hs : PlainIx b) : VP X W (.Subscript a b pos) (v2 ixP f g) :=
  pe_imp (pe_ix (IxR.or ix_list ix_tup) ha hb hs) fun σ H Q ⟨G, env, fp, pv, rs, w⟩ => tD_bin (j := jP X.K X.mg Q) rfl rfl rs w jP.ext fun x y vx vy G H s hx hy w => by
    unfold ixP at w
    split at w
    · rename_i ds i
      cases z : atI ds i with
      | none => rw [z] at w; exact w.elim
      | some d =>
        rw [z] at w
        obtain ⟨p, vs, e1, h1, t1⟩ := hx.lst s
        obtain ⟨v, hv, dv⟩ := t1.atI z
        exact .inl ⟨p, vs, i, v, e1, hy.int, SqL.of h1, hv, w v G H (Ext.refl s) (.d dv)⟩
    · rename_i ds i
      cases z : atI ds i with
      | none => rw [z] at w; exact w.elim
      | some d =>
        rw [z] at w
        obtain ⟨p, vs, e1, h1, t1⟩ := hx.tup
        obtain ⟨v, hv, dv⟩ := t1.atI z
        exact .inr ⟨p, vs, i, v, e1, hy.int, sqt_mono s h1, hv, w v G H (Ext.refl s) (.d dv)⟩
    · exact w.elim
def ixS (f : FP) (g : FD) : FP := fun env => (f env).bind fun
  | .sc ns => (g env).bind fun
    | .int i => match atI ns i with | some d => iI d | none => .bad
    | _ => .bad
  | _ => .bad
theorem atI_map {α β : Type} (k : α → β) (xs : List α) (i : Int) : atI (xs.map k) i = (atI xs i).map k := by
  unfold atI
  rw [List.length_map]
  cases ixN xs.length i with
  | none => rfl
  | some j => exact List.getElem?_map
theorem vp_ixS {f : FP} {g : FD} (ha : VP X W a f) (hb : VD X W b g) (hs : PlainIx b) : VP X W (.Subscript a b pos) (ixS f g) :=
  pe_imp (pe_ix ix_list ha hb hs) fun σ H Q ⟨G, env, fp, pv, rs, w⟩ => ⟨G, env, fp, pv, rs, PostR.seq w fun x w vx G1 H1 e1 q1 => by
    match x, q1, w with
    | .sc ns, .sc q1, w =>
      refine ⟨G1, env, fp, pv, rs.ext e1, PostR.imp (PostR.seq (k := fun y => PostR X.mg W σ H (jP X.K X.mg Q G H) _) w fun y w => w) e1.h fun y w vy G2 H2 e2 q2 => ?_⟩
      match y, q2, w with
      | .int i, q2, w =>
        have w' : PostR X.mg W σ H (jP X.K X.mg Q G H) (match atI ns i with | some d => iI d | none => .bad) := w
        cases z : atI ns i with
        | none => rw [z] at w'; exact w'.elim
        | some d =>
          rw [z] at w'
          exact ⟨_, ns.map V.int, i, .int d, rfl, q2.int, (e1.s.trans e2.h).seq q1, by rw [atI_map, z]; rfl, jP.int e2.s (jP.ext (e1.trans e2) w')⟩
      | .none, _, w => exact w.elim
      | .bool _, _, w => exact w.elim
      | .str _, _, w => exact w.elim
      | .list _, _, w => exact w.elim
      | .tuple _, _, w => exact w.elim
      | .dict _, _, w => exact w.elim
    | .d _, _, w => exact w.elim
    | .ob _ _, _, w => exact w.elim⟩
abbrev FI := Env → Res (Option Int)
def vNoPart : FI := fun _ => .ok none
def vPart (f : FD) : FI := fun env => (f env).bind fun | .int i => .ok (some i) | _ => .bad
def cutP {α : Type} (xs : List α) (lo hi : Option Int) : List α := (xs.drop (HT.sIx xs.length 0 lo)).take (HT.sIx xs.length xs.length hi - HT.sIx xs.length 0 lo)
def slP (x : PyData) (lo hi : Option Int) : Res SV := match x with
  | .list ds => .ok (SV.dl (cutP ds lo hi))
  | .tuple ds => .ok (.f (.d (.tuple (cutP ds lo hi))))
  | _ => .bad
def vSl (f : FD) (lo hi : FI) : FO := fun env => (f env).bind fun x => (lo env).bind fun l => (hi env).bind fun h => slP x l h
def vNil : Env → Res (List PyData) := fun _ => .ok []
def vCons (f : FD) (g : Env → Res (List PyData)) : Env → Res (List PyData) := fun env => (f env).bind fun x => (g env).bind fun xs => .ok (x :: xs)
theorem va_nil : VA X W [] vNil := pa_imp pa_nil fun σ H Q ⟨G, env, fp, pv, rs, w⟩ => w [] G H (Ext.refl rs.sub) .nil
theorem va_cons {f : FP} {g : Env → Res (List PyData)} (ha : VP X W e f) (hr : VA X W es g) (hs : starEach (e :: es) X.env = (false, eval e X.env) :: starEach es X.env) : VA X W (e :: es) (vCons (toD f) g) :=
  pa_imp (pa_cons ha hr hs) fun σ H Q ⟨G, env, fp, pv, rs, w⟩ => ⟨G, env, fp, pv, rs, by
    have w' := PostR.seq (k := fun x => PostR X.mg W σ H _ ((g env).bind _)) w fun y w => w
    refine PostR.seq w' fun x w v G1 H1 e1 q1 => ?_
    match x, q1, w with
    | .d x, .d q1, w =>
      have w2 : PostR X.mg W σ H _ ((g env).bind _) := w
      exact ⟨G1, env, fp, pv, rs.ext e1, PostR.imp (PostR.seq (k := fun y => PostR X.mg W σ H _ (Res.ok (x :: y))) w2 fun y w => w) e1.h fun xs w vs G2 H2 e2 q2 => w (v :: vs) G2 H2 (e1.trans e2) (.cons (q1.mono e2.g) q2)⟩
    | .ob _ _, _, w => exact w.elim
    | .sc _, _, w => exact w.elim⟩
noncomputable def vLst (g : Env → Res (List PyData)) : FO := fun env => (g env).bind fun xs => cIf (xs.length ≤ 16777216) (.ok (SV.dl xs)) .bad
noncomputable def vTup (g : Env → Res (List PyData)) : FP := fun env => (g env).bind fun xs => cIf (xs.length ≤ 16777216) (.ok (.d (.tuple xs))) .bad
theorem vo_lst {g : Env → Res (List PyData)} (h : VA X W es g) : VO X W (.List es pos) (vLst g) := pe_imp (pe_lst h) fun σ H Q ⟨G, env, fp, pv, rs, w⟩ => ⟨G, env, fp, pv, rs, PostR.seq w fun xs w vs G1 H1 e1 q1 => by
  by_cases h : xs.length ≤ 16777216
  · rw [cIf_pos h] at w
    exact ⟨by rw [q1.length, sl_eq]; exact h, new_dl e1.s q1 (jO.ext e1 w)⟩
  · rw [cIf_neg h] at w; exact w.elim⟩
theorem vp_call1 {x : Str} {id : String} {r : List V → Hp → VK → Prop} {h : PyData → Res FV} {f : FD} {p : Pos} (hc : CallR X (.builtin id) r) (hg : Gl X x) (hm : X.mg x = none) (hv : bootBuiltins x = some (.builtin id)) (ha : VD X W e f)
    (hr : ∀ σ Q x vx G H, Same G H → Dr X.K G H vx x → PostR X.mg W σ H (jP X.K X.mg Q G H) (h x) → r [vx] H Q)
    (hn : x ≠ "__name__") (hdb : (x == ("__debug__" : Str)) = false) (he : starEach [e] X.env = (false, eval e X.env) :: starEach [] X.env) (hpl : (backTo pos (starEach [] X.env)).any (·.1) = false) : VP X W (.Call (.Name x p) [e] [] pos) (v1 h f) :=
  pe_imp (pe_callB hc hg hm hv (pa_cons ha pa_nil he) hn hdb he hpl) fun σ H Q ⟨G, env, fp, pv, rs, w⟩ => ⟨G, env, fp, pv, rs, PostR.seq w fun x w v G1 H1 e1 q1 =>
    hr σ Q x v G1 H1 e1.s q1 (PostR.imp w e1.h fun _ q => jP.ext e1 q)⟩
def lenP : PyData → Res FV
  | .list ds => iI ds.length
  | .tuple ds => iI ds.length
  | _ => .bad
def intsOf : List PyData → Option (List Int)
  | [] => some []
  | .int i :: r => (intsOf r).map (i :: ·)
  | _ => none
def boolsOf : List PyData → Option (List Bool)
  | [] => some []
  | .bool i :: r => (boolsOf r).map (i :: ·)
  | _ => none
theorem boolsOf_eq : ∀ {ds : List PyData} {ns : List Bool}, boolsOf ds = some ns → ds = ns.map .bool
  | [], _, h => by cases h; rfl
  | .bool i :: r, ns, h => by
    have h' : (boolsOf r).map (i :: ·) = some ns := h
    cases z : boolsOf r with
    | none => rw [z] at h'; cases h'
    | some ms => rw [z] at h'; cases h'; rw [boolsOf_eq z]; rfl
  | .none :: _, _, h => by cases h
  | .int _ :: _, _, h => by cases h
  | .str _ :: _, _, h => by cases h
  | .list _ :: _, _, h => by cases h
  | .tuple _ :: _, _, h => by cases h
  | .dict _ :: _, _, h => by cases h
theorem intsOf_map (ns : List Int) : intsOf (ns.map .int) = some ns := by
  induction ns with
  | nil => rfl
  | cons n ns ih => show (intsOf (ns.map .int)).map _ = _; rw [ih]; rfl
theorem boolsOf_map (ns : List Bool) : boolsOf (ns.map .bool) = some ns := by
  induction ns with
  | nil => rfl
  | cons n ns ih => show (boolsOf (ns.map .bool)).map _ = _; rw [ih]; rfl
def sumP : PyData → Res FV
  | .list ds => match intsOf ds with | some ns => iI ns.sum | none => .bad
  | _ => .bad
def allP : PyData → Res FV
  | .list ds => match boolsOf ds with | some ns => iB (ns.all id) | none => .bad
  | _ => .bad
theorem vp_all {f : FD} {p : Pos} (hc : X.calm = true) (hm : X.mg "all" = none) (ha : VD X W e f) (hg : Gl X "all" := by rfl) (he : starEach [e] X.env = (false, eval e X.env) :: starEach [] X.env := by rfl) (hpl : (backTo pos (starEach [] X.env)).any (·.1) = false := by rfl) : VP X W (.Call (.Name "all" p) [e] [] pos) (v1 allP f) :=
  vp_call1 (cr_all hc) hg hm (by decide +kernel) ha (fun σ Q x vx G H s hx w => by
    unfold allP at w
    split at w
    · rename_i ds
      cases z : boolsOf ds with
      | none => rw [z] at w; exact w.elim
      | some ns =>
        rw [z] at w
        obtain ⟨p, vs, e1, h1, t1⟩ := hx.lst s
        rw [boolsOf_eq z] at t1
        rw [t1.bools] at h1
        subst e1
        exact ⟨p, ns, rfl, SqL.of h1, jP.bool s w⟩
    · exact w.elim) (by decide) (by decide) he hpl
def listP : PyData → Res SV
  | .list ds => .ok (SV.dl ds)
  | .tuple ds => .ok (SV.dl ds)
  | _ => .bad
def insI (x : Int) : List Int → List Int
  | [] => [x]
  | y :: r => if x ≤ y then x :: y :: r else y :: insI x r
def srtI : List Int → List Int
  | [] => []
  | x :: r => insI x (srtI r)
def sortP : PyData → Res SV
  | .list ds => match intsOf ds with | some ns => .ok (SV.dl ((srtI ns).map .int)) | none => .bad
  | _ => .bad
def intP : PyData → Res SV
  | .int i => .ok (.f (.d (.int i)))
  | .bool b => .ok (.f (.d (.int (if b then 1 else 0))))
  | _ => .bad
def maxI : PyData → PyData → Res FV
  | .int i, .int j => iI (if j > i then j else i)
  | _, _ => .bad
def minI : PyData → PyData → Res FV
  | .int i, .int j => iI (if j < i then j else i)
  | _, _ => .bad
def vLenS (f : FP) : FP := fun env => (f env).bind fun | .sc ns => iI ns.length | _ => .bad
theorem vp_lenS {f : FP} {p : Pos} (hm : X.mg "len" = none) (ha : VP X W e f) (hg : Gl X "len" := by rfl) (he : starEach [e] X.env = (false, eval e X.env) :: starEach [] X.env := by rfl) (hpl : (backTo pos (starEach [] X.env)).any (·.1) = false := by rfl) : VP X W (.Call (.Name "len" p) [e] [] pos) (vLenS f) :=
  pe_imp (pe_callB call_len_seq hg hm boot_len (pa_cons ha pa_nil he) (by decide) (by decide) he hpl) fun σ H Q ⟨G, env, fp, pv, rs, w⟩ => ⟨G, env, fp, pv, rs, PostR.seq w fun x w v G1 H1 e1 q1 => by
    match x, q1, w with
    | .sc ns, .sc q1, w => exact ⟨_, ns.map V.int, rfl, .inl (e1.s.seq q1), by rw [List.length_map]; exact jP.int e1.s (jP.ext e1 w)⟩
    | .d _, _, w => exact w.elim
    | .ob _ _, _, w => exact w.elim⟩
end
end VL

set_option Elab.async false
set_option linter.all false
set_option maxRecDepth 100000
set_option maxHeartbeats 4000000
namespace VL
open PySem PySem.Spec PyProof.Rows L2

structure Stp (G H : Hp) (fp : Nat → List Addr) (G' H' : Hp) (fp' : Nat → List Addr) : Prop where
  g : Same G G'
  fr : ∀ b o, H b = some o → (∀ i, b ∉ fp i) → H' b = some o
  n : ∀ a o, G' a = some o → G a = some o ∨ H a = none ∨ ∃ i, a ∈ fp i
  f : ∀ i a, a ∈ fp' i → H a = none ∨ ∃ j, a ∈ fp j
  trk : ∀ b, H' b = none → H b = none
  fld : ∀ a C dx vs, H a = some (.ins C dx vs) → ∃ vs', H' a = some (.ins C dx vs') ∧ ∀ (f : Str) x, f ≠ "chance" → vs.lookup f = some x → vs'.lookup f = some x
section
variable {K : PySem.W.Frag} {mg : Str → Option Value} {G G' G2 H H' H2 : Hp} {fp fp' fp2 : Nat → List Addr} {σ σ' : L2.St} {env env' : Env} {pv : Nat → V}
theorem Stp.of_ext (e : Ext G H G' H') : Stp G H fp G' H' fp where
  g := e.g
  fr := fun b o h _ => e.h b o h
  n := fun a o h => by
    rcases e.n a o h with q | q
    · exact .inl q
    · exact .inr (.inl q)
  f := fun i a m => .inr ⟨i, m⟩
  trk := fun b h => none_back e.h h
  fld := fun a C dx vs h => ⟨vs, e.h _ _ h, fun _ _ _ q => q⟩
theorem Stp.refl (s : Same G H) : Stp G H fp G H fp := Stp.of_ext (Ext.refl s)
theorem Stp.trans (a : Stp G H fp G' H' fp') (b : Stp G' H' fp' G2 H2 fp2) : Stp G H fp G2 H2 fp2 where
  g := a.g.trans b.g
  fr := fun c o h n => by
    refine b.fr c o (a.fr c o h n) fun i m => ?_
    rcases a.f i c m with q | ⟨j, q⟩
    · rw [h] at q; cases q
    · exact n j q
  n := fun c o h => by
    rcases b.n c o h with q | q | ⟨i, q⟩
    · exact a.n c o q
    · exact .inr (.inl (a.trk c q))
    · rcases a.f i c q with q | q
      · exact .inr (.inl q)
      · exact .inr (.inr q)
  f := fun i c m => by
    rcases b.f i c m with q | ⟨j, q⟩
    · exact .inl (a.trk c q)
    · exact a.f j c q
  trk := fun c h => a.trk c (b.trk c h)
  fld := fun c C dx vs h => by
    obtain ⟨vs1, h1, k1⟩ := a.fld c C dx vs h
    obtain ⟨vs2, h2, k2⟩ := b.fld c C dx vs1 h1
    exact ⟨vs2, h2, fun f x hf q => k2 f x hf (k1 f x hf q)⟩
theorem Stp.sub (a : Stp G H fp G' H' fp') (h : ∀ i b, b ∈ fp2 i → H b = none ∨ ∃ j, b ∈ fp j) : Stp G H fp G' H' fp2 := ⟨a.g, a.fr, a.n, h, a.trk, a.fld⟩

abbrev ST := Env → Flow
def Post (K : PySem.W.Frag) (mg : Str → Option Value) (W : WX) (D : Ends) (G H : Hp) (fp : Nat → List Addr) (pv : Nat → V) : Flow → Prop
  | .nx e => ∀ G' σ' H' fp', Stp G H fp G' H' fp' → RS K mg G' σ' e H' fp' pv → D.nx σ' H'
  | .rt s e => ∀ v G' σ' H' fp' r, Stp G H fp G' H' fp' → RS K mg G' σ' e H' fp' pv → Ow K mg G' H' v s r → r.Nodup → (∀ a ∈ r, G' a = none ∧ (∀ i, a ∉ fp' i) ∧ (H a = none ∨ ∃ j, a ∈ fp j)) → D.rt v H'
  | .err c e => ∀ C G' σ' H' fp', mg c = some (.ref C) → Stp G H fp G' H' fp' → RS K mg G' σ' e H' fp' pv → W (.ref C) none σ' H'
  | .bad => False
theorem Post.step {W : WX} {D : Ends} {f : Flow} (s : Stp G H fp G' H' fp') (h : Post K mg W D G H fp pv f) : Post K mg W D G' H' fp' pv f := by
  cases f with
  | nx e => exact fun G2 σ2 H2 fp2 s2 r => h G2 σ2 H2 fp2 (s.trans s2) r
  | rt x e =>
    refine fun v G2 σ2 H2 fp2 r s2 rs ow nd fr => h v G2 σ2 H2 fp2 r (s.trans s2) rs ow nd fun a m => ?_
    obtain ⟨a1, a2, a3⟩ := fr a m
    refine ⟨a1, a2, ?_⟩
    rcases a3 with q | ⟨j, q⟩
    · exact .inl (s.trk a q)
    · exact s.f j a q
  | err c e => exact fun C G2 σ2 H2 fp2 m s2 r => h C G2 σ2 H2 fp2 m (s.trans s2) r
  | bad => exact h
def tS (K : PySem.W.Frag) (mg : Str → Option Value) (W : WX) (f : ST) : TS := fun D σ H => ∃ G env fp pv, RS K mg G σ env H fp pv ∧ Post K mg W D G H fp pv (f env)
def ofR {α : Type} (r : Res α) (e : Env) (k : α → Flow) : Flow := match r with
  | .ok a => k a
  | .err c => .err c e
  | .bad => .bad
theorem Post.ofR {α : Type} {W : WX} {D : Ends} {r : Res α} {k : α → Flow} {j : α → Prop} (rs : RS K mg G σ env H fp pv) (h : Post K mg W D G H fp pv (ofR r env k)) (q : ∀ a, Post K mg W D G H fp pv (k a) → j a) : PostR mg W σ H j r := by
  cases r with
  | ok a => exact q a h
  | err c => exact fun C H' m s => h C G σ H' fp m (Stp.of_ext ⟨Same.refl _, s, rs.sub.trans s, fun _ _ e => .inl e⟩) (rs.same s)
  | bad => exact h

theorem RS.notin (h : RS K mg G σ env H fp pv) {a : Addr} (n : H a = none) (j : Nat) : a ∉ fp j := fun m => by
  obtain ⟨o, ho⟩ := h.there j a m
  rw [n] at ho
  cases ho

theorem RS.set {i : Nat} {v : V} {s : SV} {r : List Addr} (h : RS K mg G σ env H fp pv) (hi : i < env.length) (ow : Ow K mg G H v s r) (nd : r.Nodup) (hr : ∀ a ∈ r, G a = none ∧ ∀ j, a ∉ fp j) :
    RS K mg G (σ.set i (some v)) (env.set i (.va s)) H (fun j => if j = i then r else fp j) pv where
  len := by rw [List.length_set, List.length_set]; exact h.len
  rel := fun j u e => by
    by_cases q : j = i
    · subst q
      rw [List.getElem?_set_self hi] at e
      cases e
      rw [List.getElem?_set_self (by rw [← h.len]; exact hi)]
      exact ⟨v, rfl, by rw [if_pos rfl]; exact ow⟩
    · rw [List.getElem?_set_ne (Ne.symm q)] at e
      rw [List.getElem?_set_ne (Ne.symm q), if_neg q]
      exact h.rel j u e
  nil := fun j hj => by
    rw [List.length_set] at hj
    show (if j = i then r else fp j) = []
    rw [if_neg (by omega)]
    exact h.nil j hj
  sub := h.sub
  out := fun j a m => by
    by_cases q : j = i
    · rw [if_pos q] at m; exact (hr a m).1
    · rw [if_neg q] at m; exact h.out j a m
  nd := fun j => by
    show (if j = i then r else fp j).Nodup
    by_cases q : j = i
    · rw [if_pos q]; exact nd
    · rw [if_neg q]; exact h.nd j
  dj := fun j k a m1 m2 => by
    by_cases q1 : j = i
    · rw [if_pos q1] at m1
      by_cases q2 : k = i
      · rw [q1, q2]
      · rw [if_neg q2] at m2; exact absurd m2 ((hr a m1).2 k)
    · rw [if_neg q1] at m1
      by_cases q2 : k = i
      · rw [if_pos q2] at m2; exact absurd m1 ((hr a m2).2 j)
      · rw [if_neg q2] at m2; exact h.dj j k a m1 m2
theorem RS.drop (h : RS K mg G σ env H fp pv) (i : Nat) : RS K mg G σ (env.set i .no) H (fun j => if j = i then [] else fp j) pv where
  len := by rw [List.length_set]; exact h.len
  rel := fun j u e => by
    by_cases q : j = i
    · subst q
      by_cases hi : j < env.length
      · rw [List.getElem?_set_self hi] at e
        cases e
        show (if j = j then [] else fp j) = []
        rw [if_pos rfl]
      · rw [List.getElem?_eq_none (by rw [List.length_set]; omega)] at e; cases e
    · rw [List.getElem?_set_ne (Ne.symm q)] at e
      rw [if_neg q]
      exact h.rel j u e
  nil := fun j hj => by
    rw [List.length_set] at hj
    show (if j = i then [] else fp j) = []
    by_cases q : j = i
    · rw [if_pos q]
    · rw [if_neg q]; exact h.nil j hj
  sub := h.sub
  out := fun j a m => by
    by_cases q : j = i
    · rw [if_pos q] at m; cases m
    · rw [if_neg q] at m; exact h.out j a m
  nd := fun j => by
    show (if j = i then [] else fp j).Nodup
    by_cases q : j = i
    · rw [if_pos q]; exact .nil
    · rw [if_neg q]; exact h.nd j
  dj := fun j k a m1 m2 => by
    by_cases q1 : j = i
    · rw [if_pos q1] at m1; cases m1
    · rw [if_neg q1] at m1
      by_cases q2 : k = i
      · rw [if_pos q2] at m2; cases m2
      · rw [if_neg q2] at m2; exact h.dj j k a m1 m2
theorem sub_ite {i : Nat} {r : List Addr} (hr : ∀ a ∈ r, H a = none ∨ ∃ j, a ∈ fp j) : ∀ j a, a ∈ (if j = i then r else fp j) → H a = none ∨ ∃ j, a ∈ fp j := fun j a m => by
  by_cases q : j = i
  · rw [if_pos q] at m; exact hr a m
  · rw [if_neg q] at m; exact .inr ⟨j, m⟩
def canSet (e : Env) (i : Nat) : Bool := match e[i]? with
  | some (.rf _) => false
  | some _ => true
  | none => false
theorem canSet_lt {e : Env} {i : Nat} (h : canSet e i = true) : i < e.length := by
  unfold canSet at h
  cases q : e[i]? with
  | none => rw [q] at h; cases h
  | some s => exact (List.getElem?_eq_some_iff.mp q).1
def setS (e : Env) (i : Nat) (s : Slot) : Flow := if canSet e i = true then .nx (e.set i s) else .bad
theorem post_set {W : WX} {D : Ends} {i : Nat} {v : V} {s : SV} {r : List Addr} (rs : RS K mg G σ env H fp pv) (ow : Ow K mg G H v s r) (nd : r.Nodup) (hr : ∀ a ∈ r, G a = none ∧ ∀ j, a ∉ fp j)
    {G0 H0 : Hp} (st : Stp G0 H0 fp G H fp) (hn : ∀ a ∈ r, H0 a = none ∨ ∃ j, a ∈ fp j)
    (h : Post K mg W D G0 H0 fp pv (setS env i (.va s))) : D.nx (σ.set i (some v)) H := by
  unfold setS at h
  by_cases c : canSet env i = true
  · rw [if_pos c] at h
    exact h G _ H _ (st.sub (sub_ite hn)) (rs.set (canSet_lt c) ow nd hr)
  · rw [if_neg c] at h; exact h.elim
end

section
variable {X : Cx} {W : WX} {a b c e : Expr} {es : List Expr} {pos : Pos} {st : Stmt} {sts : List Stmt}
abbrev VS (X : Cx) (W : WX) (st : Stmt) (f : ST) : Prop := PS X st (tS X.K X.mg W f)
abbrev VSs (X : Cx) (W : WX) (st : List Stmt) (f : ST) : Prop := PSs X st (tS X.K X.mg W f)
def vSkip : ST := fun e => .nx e
def vSeq (f g : ST) : ST := fun e => match f e with
  | .nx e => g e
  | r => r
theorem vss_nil : VSs X W [] vSkip := pss_imp pss_nil fun D σ H ⟨G, env, fp, pv, rs, w⟩ => w G σ H fp (Stp.refl rs.sub) rs
theorem vss_cons {f g : ST} (h1 : VS X W st f) (h2 : VSs X W sts g) : VSs X W (st :: sts) (vSeq f g) := pss_imp (pss_cons h1 h2) fun D σ H ⟨G, env, fp, pv, rs, w⟩ => by
  refine ⟨G, env, fp, pv, rs, ?_⟩
  unfold vSeq at w
  cases z : f env with
  | nx e =>
    rw [z] at w
    exact fun G' σ' H' fp' s r => ⟨G', e, fp', pv, r, w.step s⟩
  | rt v e => rw [z] at w; exact w
  | err c e => rw [z] at w; exact w
  | bad => rw [z] at w; exact w
theorem vss_one {f : ST} (h : VS X W st f) : VSs X W [st] f := pss_one h
def vSet (i : Nat) (f : FP) : ST := fun e => ofR (f e) e fun x => setS e i (.va (.f x))
def vSetO (i : Nat) (f : FO) : ST := fun e => ofR (f e) e fun x => setS e i (.va x)
theorem imp_set {i : Nat} {f : FP} {D : Ends} {σ : L2.St} {H : Hp} (h : tS X.K X.mg W (vSet i f) D σ H) : tAsg (tP X.K X.mg W f) (gName i) D σ H := by
  obtain ⟨G, env, fp, pv, rs, w⟩ := h
  exact ⟨G, env, fp, pv, rs, Post.ofR rs w fun x w v G1 H1 e1 q1 => post_set (rs.ext e1) (.f q1) .nil (fun a m => by cases m) (Stp.of_ext e1) (fun a m => by cases m) w⟩
theorem vs_set {i : Nat} {x : Str} {f : FP} {pos' : Pos} (hN : X.N.Nodup) (hi : X.N[i]? = some x) (hx : Loc X.env.scope x) (he : VP X W e f) (hs : swapsWith e (some (.Name x pos')) pos.line X.env = pure false) (hf : X.fn x = true ∨ X.env.scope.names.lookup x = some .local) :
    VS X W (.Assign [.Name x pos'] e pos) (vSet i f) := ps_imp (ps_set hN hi hx he hs hf) fun D σ H h => imp_set h
def vIfS (t : FT) (f g : ST) : ST := fun e => ofR (t e) e fun b => if b = true then f e else g e
theorem vs_if {t : FT} {f g : ST} {A B : List Stmt} (hc : VT X W c t) (ha : VSs X W A f) (hb : VSs X W B g) : VS X W (.If c A B pos) (vIfS t f g) :=
  ps_imp (ps_if hc ha hb) fun D σ H ⟨G, env, fp, pv, rs, w⟩ => ⟨G, env, fp, pv, rs, Post.ofR rs w fun b w G1 H1 e1 => by
    cases b with
    | true => exact ⟨G1, env, fp, pv, rs.ext e1, w.step (Stp.of_ext e1)⟩
    | false => exact ⟨G1, env, fp, pv, rs.ext e1, w.step (Stp.of_ext e1)⟩⟩
def vRet (f : FO) : ST := fun e => ofR (f e) e fun s => .rt s e
def vRetP (f : FP) : ST := fun e => ofR (f e) e fun x => .rt (.f x) e
theorem vs_retP {f : FP} (he : VP X W e f) : VS X W (.Return (some e) pos) (vRetP f) := ps_imp (ps_ret he) fun D σ H ⟨G, env, fp, pv, rs, w⟩ => ⟨G, env, fp, pv, rs, Post.ofR rs w fun s w v G1 H1 e1 q1 =>
  w v G1 σ H1 fp [] (Stp.of_ext e1) (rs.ext e1) (.f q1) .nil fun a m => by cases m⟩
def vRetV (i : Nat) : ST := fun e => match e[i]? with
  | some (.va s) => .rt s (e.set i .no)
  | _ => .bad
def vRetN : ST := fun e => .rt (.f (.d .none)) e
def vRaise (c : Str) : ST := fun e => .err c e
theorem vs_raise {x m : Str} {j : Nat} {p p2 p3 : Pos} {C : Addr} {bmB : List Value} {B newId initId : String} (hc : X.calm = true) (tk : L2N.Takes X W) (F : ExcBaseFacts B newId initId bmB) (q : PySem.W.excIn X.K C bmB newId = true) (gC : X.mg x = some (.ref C)) (kC : PySem.W.keepIn X.K (.ref C) = true) (r : Raises X (.ref C)) (hg : Gl X x) (hdb : (x == ("__debug__" : Str)) = false) :
    VS X W (.Raise (some (.Call (.Name x p) [.Constant (.str m) j p2] [] pos)) none p3) (vRaise x) := ps_imp (L2N.ps_raise hc tk (L2N.pmk_own F q gC kC r hg hdb)) fun D σ H ⟨G, env, fp, pv, rs, w⟩ => w C G σ H fp gC (Stp.refl rs.sub) rs
def vDrop (f : FO) : ST := fun e => ofR (f e) e fun _ => .nx e
abbrev Tgt := PyData → Env → Option Env
def gN (i : Nat) : Tgt := fun x e => if canSet e i = true then some (e.set i (.va (.f (.d x)))) else none
def Outs (ts : List Nat) (σ σ' : L2.St) : Prop := σ'.length = σ.length ∧ ∀ j, j ∉ ts → σ'[j]? = σ[j]?
def tG (K : PySem.W.Frag) (mg : Str → Option Value) (ts : List Nat) (g : Tgt) : TG := fun v σ H Q => ∃ G env fp pv x, RS K mg G σ env H fp pv ∧ Dq K G v x ∧ match g x env with
  | some e => ∀ σ' fp', (∀ i a, a ∈ fp' i → ∃ j, a ∈ fp j) → Outs ts σ σ' → RS K mg G σ' e H fp' pv → Q σ' H
  | none => False
abbrev VG (X : Cx) (ts : List Nat) (e : Expr) (g : Tgt) : Prop := PG X e (tG X.K X.mg ts g)
theorem vg_imp {i : Nat} {v : V} {σ : L2.St} {H : Hp} {Q : L2.St → Hp → Prop} (h : tG X.K X.mg [i] (gN i) v σ H Q) : gName i v σ H Q := by
  obtain ⟨G, env, fp, pv, x, rs, d, w⟩ := h
  unfold gN at w
  by_cases c : canSet env i = true
  · rw [if_pos c] at w
    refine w _ _ (fun j a m => ?_) ⟨List.length_set, fun j hj => List.getElem?_set_ne (fun q => hj (by rw [q]; exact List.mem_cons_self))⟩ (rs.set (canSet_lt c) (.f (.d d)) .nil (fun a m => by cases m))
    by_cases q : j = i
    · rw [if_pos q] at m; cases m
    · rw [if_neg q] at m; exact ⟨j, m⟩
  · rw [if_neg c] at w; exact w.elim
theorem vg_name {i : Nat} {x : Str} (hN : X.N.Nodup) (hi : X.N[i]? = some x) (hx : Loc X.env.scope x) (hf : X.fn x = true ∨ X.env.scope.names.lookup x = some .local) : VG X [i] (.Name x pos) (gN i) :=
  pg_imp (pg_name hN hi hx hf) fun v σ H Q h => vg_imp h
abbrev Tgts := List PyData → Env → Option Env
def gsN : Tgts := fun xs e => match xs with | [] => some e | _ => none
def gsC (g : Tgt) (r : Tgts) : Tgts := fun xs e => match xs with | x :: xs => (g x e).bind (r xs) | [] => none
def gT (n : Nat) (g : Tgts) : Tgt := fun x e => match x with
  | .tuple ds => if ds.length = n then g ds e else none
  | _ => none
end
end VL

set_option Elab.async false
set_option linter.all false
set_option maxRecDepth 100000
set_option maxHeartbeats 4000000
namespace VL
open PySem PySem.Spec PyProof.Rows L2

abbrev IT := Env → Res (List PyData)
def ItOk (K : PySem.W.Frag) (G B : Hp) (items : List PyData) (J : It) : Prop := ∀ G1 H1, Same G G1 → Same B H1 → Same G1 H1 →
  (∀ i, items.length ≤ i → J.stop i H1) ∧ ∀ i x, items[i]? = some x → J.go i H1 ∧ ∀ v H2, J.yld i H1 v H2 → ∃ G2, Ext G1 H1 G2 H2 ∧ Dq K G2 v x
def tItR (K : PySem.W.Frag) (mg : Str → Option Value) (W : WX) (f : IT) : TI := fun σ H R => ∃ G env fp pv, RS K mg G σ env H fp pv ∧
  PostR mg W σ H (fun items => ∀ J G' H', Ext G H G' H' → ItOk K G' H' items J → R J H') (f env)
abbrev VIR (X : Cx) (W : WX) (tg e : Expr) (f : IT) : Prop := PI X tg e (tItR X.K X.mg W f)
section
variable {K : PySem.W.Frag} {G B : Hp} {ds es : List PyData} {vs ws : List V} {a b : Addr}
theorem it_list (h : SqL K B a vs) (t : Dqs K G vs ds) : ItOk K G B ds (Itl K a) := fun G1 H1 g b s => by
  have h1 := b.seq h
  refine ⟨fun i hi => ⟨vs, h1, by rw [t.length]; exact hi⟩, fun i x e => ?_⟩
  obtain ⟨v, hv, d⟩ := t.get e
  exact ⟨⟨vs, v, h1, hv⟩, fun u H2 ⟨e2, k⟩ => by
    have q := k vs h1
    rw [hv] at q
    cases q
    subst e2
    exact ⟨G1, Ext.refl s, d.mono g⟩⟩
def rngP (lo : Int) (n : Nat) : List PyData := (List.range n).map fun i => .int (lo + (i : Nat))
def enumP (k : Nat) : List PyData → List PyData
  | [] => []
  | x :: r => .tuple [.int (k : Nat), x] :: enumP (k + 1) r
def zipP : List PyData → List PyData → List PyData
  | x :: r, y :: s => .tuple [x, y] :: zipP r s
  | _, _ => []
end

section
variable {X : Cx} {W : WX} {a b c e tg : Expr} {es : List Expr} {pos : Pos} {st : Stmt} {sts : List Stmt}
def asL : PyData → Res (List PyData)
  | .list ds => .ok ds
  | _ => .bad
def vItL (f : FD) : IT := v1 asL f
def vItRev (f : FD) : IT := v1 (fun x => (asL x).bind fun ds => .ok ds.reverse) f
def vItEnum (f : FD) : IT := v1 (fun x => (asL x).bind fun ds => .ok (enumP 0 ds)) f
def vItZip (f g : FD) : IT := v2 (fun x y => (asL x).bind fun ds => (asL y).bind fun es => .ok (zipP ds es)) f g
noncomputable def rng1 : PyData → Res (List PyData)
  | .int j => cIf (-4611686018427387904 ≤ j ∧ j < 4611686018427387904) (.ok (rngP 0 j.toNat)) .bad
  | _ => .bad
noncomputable def rng2 : PyData → PyData → Res (List PyData)
  | .int i, .int j => cIf (-4611686018427387904 ≤ i ∧ i < 4611686018427387904 ∧ -4611686018427387904 ≤ j ∧ j < 4611686018427387904) (.ok (rngP i (j - i).toNat)) .bad
  | _, _ => .bad
theorem asL_ok1 {mg : Str → Option Value} {σ : L2.St} {H : Hp} {j : List PyData → Prop} {x : PyData} (w : PostR mg W σ H j (asL x)) : ∃ ds, x = .list ds ∧ j ds := by
  cases x with
  | list ds => exact ⟨ds, rfl, w⟩
  | none => exact w.elim
  | bool _ => exact w.elim
  | int _ => exact w.elim
  | str _ => exact w.elim
  | tuple _ => exact w.elim
  | dict _ => exact w.elim
theorem vir_list {f : FD} (h : VD X W e f) : VIR X W tg e (vItL f) := pi_imp (pi_list h) fun σ H R ⟨G, env, fp, pv, rs, w⟩ => ⟨G, env, fp, pv, rs, PostR.seq w fun x w v G1 H1 e1 q1 => by
  obtain ⟨ds, rfl, w⟩ := asL_ok1 w
  obtain ⟨p, vs, rfl, h1, t1⟩ := q1.lst e1.s
  exact ⟨p, rfl, ⟨vs, SqL.of h1⟩, w _ G1 H1 e1 (it_list (SqL.of h1) t1)⟩⟩
def forL (g : Tgt) (body : ST) : List PyData → ST
  | [] => fun e => .nx e
  | x :: xs => fun e => match g x e with
    | some e1 => match body e1 with
      | .nx e2 => forL g body xs e2
      | r => r
    | none => .bad
def vFor (it : IT) (g : Tgt) (body : ST) : ST := fun e => ofR (it e) e fun items => forL g body items e
def wipeE (e : Env) : List Nat → Env
  | [] => e
  | v :: vs => (wipeE e vs).set v .no
def noE {α : Type} : Res α → Res α
  | .ok a => .ok a
  | _ => .bad
theorem noE_ok {α : Type} {mg : Str → Option Value} {σ σ' : L2.St} {H H' : Hp} {W' : WX} {j k : α → Prop} {r : Res α} (w : PostR mg W σ H j (noE r)) (q : ∀ a, j a → k a) : PostR mg W' σ' H' k r := by
  cases r with
  | ok a => exact q a w
  | err c => exact w.elim
  | bad => exact w.elim
def compL (g : Tgt) (t : FT) (elt : FO) (env : Env) : List PyData → Res (List SV)
  | [] => .ok []
  | x :: xs => match g x env with
    | none => .bad
    | some e1 => (noE (t e1)).bind fun b => if b = true then (noE (elt e1)).bind fun y => (compL g t elt env xs).bind fun ys => .ok (y :: ys) else compL g t elt env xs
noncomputable def vComp (it : IT) (g : Tgt) (t : FT) (elt : FO) (vs : List Nat) : FO := fun env => (it env).bind fun items => cIf (items.length ≤ 16777216) ((compL g t elt (wipeE env vs) items).bind fun ys => .ok (.own ys)) .bad
abbrev VTs (X : Cx) (W : WX) (es : List Expr) (f : FT) : Prop := PTs X es (tT X.K X.mg W f)
def vYes : FT := fun _ => .ok true
theorem pts_imp {t t' : TT} (h : PTs X es t) (q : ∀ σ H Q, t' σ H Q → t σ H Q) : PTs X es t' := ⟨fun pins s σ H Q I w => h.run pins s σ H Q I (q σ H Q w)⟩
theorem vts_nil : VTs X W [] vYes := pts_imp pts_nil fun σ H Q ⟨G, env, fp, pv, rs, w⟩ => w G H (Ext.refl rs.sub)
theorem RS.wipe {K : PySem.W.Frag} {mg : Str → Option Value} {G H : Hp} {σ : L2.St} {env : Env} {fp : Nat → List Addr} {pv : Nat → V} (h : RS K mg G σ env H fp pv) : ∀ vs : List Nat, ∃ fp', RS K mg G (wipe σ vs) (wipeE env vs) H fp' pv
  | [] => ⟨fp, h⟩
  | v :: vs => by
    obtain ⟨fp', q⟩ := RS.wipe h vs
    have d := q.drop v
    refine ⟨_, ⟨?_, fun j u e => ?_, d.nil, d.sub, d.out, d.nd, d.dj⟩⟩
    · show ((wipeE env vs).set v .no).length = ((L2.wipe σ vs).set v none).length
      rw [List.length_set, List.length_set]; exact q.len
    · have r := d.rel j u e
      show slotOk _ _ _ _ _ ((L2.wipe σ vs).set v none)[j]? _ _
      by_cases hj : j = v
      · subst hj
        have e' : ((wipeE env vs).set j .no)[j]? = some u := e
        by_cases hl : j < (wipeE env vs).length
        · rw [List.getElem?_set_self hl] at e'
          cases e'
          exact r
        · rw [List.getElem?_eq_none (by rw [List.length_set]; omega)] at e'; cases e'
      · rw [List.getElem?_set_ne (Ne.symm hj)]
        exact r
theorem wipe_out {σ σ' : L2.St} {ts : List Nat} (h : Outs ts σ σ') : ∀ vs : List Nat, (∀ j ∈ ts, j ∈ vs) → wipe σ' vs = wipe σ vs := by
  have key : ∀ (vs : List Nat) (σ : L2.St) (j : Nat), (wipe σ vs)[j]? = if j ∈ vs then (if j < σ.length then some none else none) else σ[j]? := by
    intro vs σ
    induction vs with
    | nil => intro j; simp [wipe]
    | cons v vs ih =>
      intro j
      unfold wipe
      by_cases hj : j = v
      · subst hj
        rw [if_pos List.mem_cons_self]
        by_cases hl : j < σ.length
        · rw [if_pos hl, List.getElem?_set_self (by rw [wipe_length]; exact hl)]
        · rw [if_neg hl, List.getElem?_eq_none (by rw [List.length_set, wipe_length]; omega)]
      · rw [List.getElem?_set_ne (Ne.symm hj), ih j]
        by_cases hm : j ∈ vs
        · rw [if_pos hm, if_pos (List.mem_cons_of_mem _ hm)]
        · rw [if_neg hm, if_neg (by simp [hj, hm])]
  intro vs hv
  apply List.ext_getElem?
  intro j
  rw [key, key, h.1]
  by_cases hm : j ∈ vs
  · rw [if_pos hm, if_pos hm]
  · rw [if_neg hm, if_neg hm]
    exact h.2 j fun m => hm (hv j m)
theorem wipe_wipe (σ : L2.St) (vs : List Nat) : wipe (wipe σ vs) vs = wipe σ vs := wipe_out (ts := vs) ⟨wipe_length σ vs, fun j hj => by
  induction vs with
  | nil => rfl
  | cons v vs ih =>
    unfold wipe
    rw [List.getElem?_set_ne (fun q => hj (by rw [q]; exact List.mem_cons_self))]
    exact ih fun m => hj (List.mem_cons_of_mem _ m)⟩ vs fun j m => m
theorem Ows.append {K : PySem.W.Frag} {mg : Str → Option Value} {G H : Hp} : ∀ {vs ws : List V} {xs ys : List SV} {r s : List Addr}, Ows K mg G H vs xs r → Ows K mg G H ws ys s → Ows K mg G H (vs ++ ws) (xs ++ ys) (r ++ s)
  | _, _, _, _, _, _, .nil, q => q
  | _, _, _, _, _, _, @Ows.cons _ _ _ _ v vs x xs r rs h t, q => by
    rw [List.append_assoc]
    exact .cons h (Ows.append t q)
theorem imp_comp {it : IT} {g : Tgt} {ts : List Nat} {t : FT} {elt : FO} {vs : List Nat} (hts : ∀ j ∈ ts, j ∈ vs) {σ : L2.St} {H : Hp} {Q : VK} (h : tO X.K X.mg W (vComp it g t elt vs) σ H Q) :
    tLc (tItR X.K X.mg W it) (tG X.K X.mg ts g) (tT X.K X.mg (fun _ _ _ _ => False) t) (tO X.K X.mg (fun _ _ _ _ => False) elt) vs σ H Q := by
  obtain ⟨G, env, fp, pv, rs, w⟩ := h
  refine ⟨G, env, fp, pv, rs, PostR.seq w fun items w J G1 H1 e1 io D hD => ?_⟩
  by_cases hsz : items.length ≤ 16777216
  · rw [cIf_pos hsz] at w
    have w0 := PostR.seq (k := fun ys => jO X.K X.mg Q G H (.own ys)) w fun ys q => q
    let Cst : Nat → Hp → Hp → Prop := fun i G2 H2 => ∃ accV accS r, Ext G1 H1 G2 H2 ∧ H2 D = some (.lst accV) ∧ G2 D = none ∧ Ows X.K X.mg G2 H2 accV accS r ∧ r.Nodup ∧ D ∉ r ∧ (∀ a ∈ r, H1 a = none ∧ G2 a = none) ∧
      PostR X.mg W σ H (fun ys => jO X.K X.mg Q G H (.own (accS ++ ys))) (compL g t elt (wipeE env vs) (items.drop i)) ∧ accV.length ≤ i
    have hG1 : G1 D = none := none_back e1.s hD
    refine ⟨fun i m H2 => m + i = items.length ∧ ∃ G2, Cst i G2 H2, ⟨items.length, by omega, G1, [], [], [], Ext.newO e1.s hD, upd_same, hG1, .nil, .nil, (by simp), (fun a m => by cases m), w0, Nat.zero_le _⟩, ?_⟩
    rintro i m H2 ⟨em, G2, accV, accS, r, e2, hD2, hG2, ow2, nd2, nD2, fr2, w2, hl2⟩
    obtain ⟨hstop, hgo⟩ := io G2 H2 e2.g e2.h e2.s
    by_cases hlt : i < items.length
    · right
      have ei : items[i]? = some items[i] := List.getElem?_eq_getElem hlt
      obtain ⟨go, yl⟩ := hgo i _ ei
      refine ⟨go, fun H' => ∃ G2, Cst (i + 1) G2 H', fun H' hN => ⟨m - 1, by omega, by omega, hN⟩, fun x H3 hy => ?_⟩
      obtain ⟨G3, e3, d3⟩ := yl x H3 hy
      rw [List.drop_eq_getElem_cons hlt] at w2
      obtain ⟨fpw, rsw⟩ := (rs.ext (e1.trans (e2.trans e3))).wipe vs
      refine ⟨G3, wipeE env vs, fpw, pv, items[i], rsw, d3, ?_⟩
      unfold compL at w2
      cases z : g items[i] (wipeE env vs) with
      | none => rw [z] at w2; exact w2.elim
      | some e4 =>
        rw [z] at w2
        intro σ4 fp4 h4 ho rs4
        refine ⟨(wipe_out ho vs hts).trans (wipe_wipe σ vs), G3, e4, fp4, pv, rs4, ?_⟩
        have w3 := PostR.seq (k := fun b => PostR X.mg W σ H _ (if b = true then _ else _)) w2 fun b q => q
        refine noE_ok w3 fun b w4 G5 H5 e5 => ?_
        cases b with
        | false =>
          rw [if_neg Bool.false_ne_true] at w4 ⊢
          have ex : Ext G2 H2 G5 H5 := e3.trans e5
          refine ⟨G5, accV, accS, r, e2.trans ex, ex.h _ _ hD2, ?_, ow2.mono ex.g (fun a m => ?_), nd2, nD2, fun a m => ⟨(fr2 a m).1, ?_⟩, w4, Nat.le_succ_of_le hl2⟩
          · cases q : G5 D with
            | none => rfl
            | some o =>
              rcases ex.n D o q with q | q
              · rw [hG2] at q; cases q
              · rw [hD2] at q; cases q
          · obtain ⟨o, ho⟩ := ow2.there a m
            rw [ho]; exact ex.h _ _ ho
          · cases q : G5 a with
            | none => rfl
            | some o =>
              obtain ⟨u, hu⟩ := ow2.there a m
              rcases ex.n a o q with q | q
              · rw [(fr2 a m).2] at q; cases q
              · rw [hu] at q; cases q
        | true =>
          rw [if_pos rfl] at w4 ⊢
          refine ⟨G5, e4, fp4, pv, rs4.ext e5, ?_⟩
          have w5 := PostR.seq (k := fun y => PostR X.mg W σ H _ ((compL g t elt (wipeE env vs) (items.drop (i + 1))).bind _)) w4 fun b q => q
          refine noE_ok w5 fun y w6 v G6 H6 r6 e6 ow6 nd6 fr6 => ?_
          have ex : Ext G2 H2 G6 H6 := (e3.trans e5).trans e6
          have ex5 : Ext G2 H2 G5 H5 := e3.trans e5
          have hD6 := ex.h _ _ hD2
          have nG : ∀ a u, H2 a = some u → G2 a = none → G6 a = none := fun a u hu hg => by
            cases q : G6 a with
            | none => rfl
            | some o =>
              rcases ex.n a o q with q | q
              · rw [hg] at q; cases q
              · rw [hu] at q; cases q
          have hG6 : G6 D = none := nG D _ hD2 hG2
          refine ⟨accV, hD6, ?_, G6, accV ++ [v], accS ++ [y], r ++ (r6 ++ []), ?_, upd_same, hG6, ?_, ?_, ?_, ?_, ?_, ?_⟩
          · rw [sl_eq]; omega
          · have E := e2.trans ex
            refine ⟨E.g, fun b o hb => ?_, fun b o hb => ?_, E.n⟩
            · rw [upd_ne (ne_of_none hb hD)]; exact E.h b o hb
            · rw [upd_ne (ne_of_none hb hG6)]; exact E.s b o hb
          · refine (ow2.mono ex.g fun a m => ?_).append (.cons (ow6.mono (Same.refl _) fun a m => ?_) .nil)
            · obtain ⟨o, ho⟩ := ow2.there a m
              rw [upd_ne (fun q => nD2 (by rw [← q]; exact m)), ho]
              exact ex.h _ _ ho
            · rw [upd_ne (fun q => ?_)]
              have z1 := (fr6 a m).1
              rw [q, ex5.h _ _ hD2] at z1
              cases z1
          · rw [List.append_nil]
            refine List.nodup_append.mpr ⟨nd2, nd6, fun a m b m' q => ?_⟩
            subst q
            obtain ⟨o, ho⟩ := ow2.there a m
            have z1 := (fr6 a m').1
            rw [ex5.h _ _ ho] at z1
            cases z1
          · rw [List.append_nil]
            intro m
            rcases List.mem_append.mp m with m | m
            · exact nD2 m
            · have z1 := (fr6 D m).1
              rw [ex5.h _ _ hD2] at z1
              cases z1
          · rw [List.append_nil]
            intro a m
            rcases List.mem_append.mp m with m | m
            · obtain ⟨o, ho⟩ := ow2.there a m
              exact ⟨(fr2 a m).1, nG a o ho (fr2 a m).2⟩
            · exact ⟨none_back ((e2.trans ex5).h) (fr6 a m).1, (fr6 a m).2⟩
          · have w7 := PostR.seq (k := fun ys => jO X.K X.mg Q G H (.own (accS ++ (y :: ys)))) w6 fun ys q => q
            refine PostR.imp w7 (Same.refl _) fun ys q => ?_
            rw [List.append_assoc]
            exact q
          · rw [List.length_append]
            show accV.length + 1 ≤ i + 1
            omega
    · left
      have ei : items.drop i = [] := List.drop_eq_nil_iff.mpr (by omega)
      rw [ei] at w2
      have w3 : jO X.K X.mg Q G H (.own (accS ++ [])) := w2
      rw [List.append_nil] at w3
      refine ⟨hstop i (by omega), w3 (.ref D) G2 H2 (D :: r) (e1.trans e2) (.own hD2 ow2) (List.nodup_cons.mpr ⟨nD2, nd2⟩) fun a m => ?_⟩
      rcases List.mem_cons.mp m with rfl | m
      · exact ⟨none_back e1.h hD, hG2⟩
      · exact ⟨none_back e1.h (fr2 a m).1, (fr2 a m).2⟩
  · rw [cIf_neg hsz] at w; exact w.elim
theorem vo_comp {it : IT} {g : Tgt} {ts : List Nat} {t : FT} {elt : FO} {own : List (Str × Nat)} {el : Expr} {ifs : List Expr} {scope : Scope} (hc : X.calm = true) (hN : X.N.Nodup) (hi : VIR X W tg e it) (ok : BlkOk X.N X.env.scope scope own)
    (hg : ∀ (s : Shared) (H : Hp) (C : Addr) (cl : List (Str × Addr)) (fp : List Addr), VG (X.blk s H scope (compEnvC scope cl C X.env) fp) ts tg g)
    (ht : ∀ (s : Shared) (H : Hp) (C : Addr) (cl : List (Str × Addr)) (fp : List Addr), VTs (X.blk s H scope (compEnvC scope cl C X.env) fp) (fun _ _ _ _ => False) ifs t)
    (he : ∀ (s : Shared) (H : Hp) (C : Addr) (cl : List (Str × Addr)) (fp : List Addr), VO (X.blk s H scope (compEnvC scope cl C X.env) fp) (fun _ _ _ _ => False) el elt)
    (hts : ∀ j ∈ ts, j ∈ own.map (·.2)) (hs : ∀ x, foldedSetIterable e X.env x = pure x := by intro _; rfl) : VO X W (.ListComp el [⟨tg, e, ifs, 0⟩] scope pos) (vComp it g t elt (own.map (·.2))) :=
  pe_imp (pe_lc hc hN hi ok hg ht he hs) fun σ H Q h => imp_comp hts h
inductive FOut where
  | ret (s : SV) (a : List Slot)
  | exc (c : Str)
  | bad
abbrev Fn := List Slot → FOut
def PostF (K : PySem.W.Frag) (mg : Str → Option Value) (E : XK) (Q : VK) (G H : Hp) (fp : Nat → List Addr) (vs : List V) (pv : Nat → V) : FOut → Prop
  | .ret s a => ∀ v G' H' fp' r, Stp G H fp G' H' fp' → RS K mg G' (vs.map some) a H' fp' pv → Ow K mg G' H' v s r → r.Nodup → (∀ b ∈ r, G' b = none ∧ (∀ i, b ∉ fp' i) ∧ (H b = none ∨ ∃ j, b ∈ fp j)) → Q v H'
  | .exc c => ∀ C G' H', mg c = some (.ref C) → Stp G H fp G' H' (fun _ => []) → Same G' H' → E (.ref C) none H'
  | .bad => False
def spV (K : PySem.W.Frag) (mg : Str → Option Value) (n : Nat) (S : Fn) : Sp := fun vs H Q E => vs.length = n ∧ ∃ G args fp pv, RS K mg G (vs.map some) args H fp pv ∧ PostF K mg E Q G H fp vs pv (S args)
def backA : List Slot → Env → List Slot
  | [], _ => []
  | .rf _ :: r, e => (match e with | .rf s :: _ => .rf s | _ => .no) :: backA r e.tail
  | .va (.f x) :: r, e => .va (.f x) :: backA r e.tail
  | _ :: r, e => .no :: backA r e.tail
def mkFn (nl : Nat) (body : ST) : Fn := fun args => match body (args ++ List.replicate nl .no) with
  | .rt s e => .ret s (backA args e)
  | .nx e => .ret (.f (.d .none)) (backA args e)
  | .err c _ => .exc c
  | .bad => .bad
theorem backA_length : ∀ (args : List Slot) (e : Env), (backA args e).length = args.length
  | [], _ => rfl
  | .no :: r, e => congrArg (· + 1) (backA_length r e.tail)
  | .vw _ :: r, e => congrArg (· + 1) (backA_length r e.tail)
  | .rf _ :: r, e => congrArg (· + 1) (backA_length r e.tail)
  | .va (.f _) :: r, e => congrArg (· + 1) (backA_length r e.tail)
  | .va (.own _) :: r, e => congrArg (· + 1) (backA_length r e.tail)
  | .va (.otup _) :: r, e => congrArg (· + 1) (backA_length r e.tail)
  | .va (.obj _ _) :: r, e => congrArg (· + 1) (backA_length r e.tail)
theorem backA_get : ∀ (args : List Slot) (e : Env) (i : Nat) (s : Slot), (backA args e)[i]? = some s → s = .no ∨ (∃ x, s = .va (.f x) ∧ args[i]? = some s) ∨ (∃ t t', s = .rf t ∧ args[i]? = some (.rf t') ∧ e[i]? = some s)
  | [], _, i, s, h => by simp [backA] at h
  | .no :: r, e, 0, s, h => .inl (Option.some.inj h).symm
  | .vw _ :: r, e, 0, s, h => .inl (Option.some.inj h).symm
  | .va (.f x) :: r, e, 0, s, h => .inr (.inl ⟨x, (Option.some.inj h).symm, by rw [(Option.some.inj h).symm]; rfl⟩)
  | .va (.own _) :: r, e, 0, s, h => .inl (Option.some.inj h).symm
  | .va (.otup _) :: r, e, 0, s, h => .inl (Option.some.inj h).symm
  | .va (.obj _ _) :: r, e, 0, s, h => .inl (Option.some.inj h).symm
  | .rf t' :: r, [], 0, s, h => .inl (Option.some.inj h).symm
  | .rf t' :: r, .no :: _, 0, s, h => .inl (Option.some.inj h).symm
  | .rf t' :: r, .va _ :: _, 0, s, h => .inl (Option.some.inj h).symm
  | .rf t' :: r, .vw _ :: _, 0, s, h => .inl (Option.some.inj h).symm
  | .rf t' :: r, .rf t :: _, 0, s, h => by
    have e : s = .rf t := (Option.some.inj h).symm
    subst e
    exact .inr (.inr ⟨t, t', rfl, rfl, rfl⟩)
  | a :: r, e, i + 1, s, h => by
    have h' : (backA r e.tail)[i]? = some s := by
      cases a with
      | no => exact h
      | vw _ => exact h
      | rf _ => exact h
      | va t => cases t <;> exact h
    rcases backA_get r e.tail i s h' with q | ⟨x, q1, q2⟩ | ⟨t, t', q1, q2, q3⟩
    · exact .inl q
    · exact .inr (.inl ⟨x, q1, by simpa using q2⟩)
    · refine .inr (.inr ⟨t, t', q1, by simpa using q2, ?_⟩)
      cases e with
      | nil => cases q3
      | cons y e => simpa using q3
theorem RS.back {K : PySem.W.Frag} {mg : Str → Option Value} {G G' H H' : Hp} {vs : List V} {args : List Slot} {fp fp' : Nat → List Addr} {pv : Nat → V} {σ : L2.St} {e : Env} (h : RS K mg G (vs.map some) args H fp pv) (st : Stp G H fp G' H' fp') (h' : RS K mg G' σ e H' fp' pv) :
    ∃ fp2, RS K mg G' (vs.map some) (backA args e) H' fp2 pv ∧ ∀ i a, a ∈ fp2 i → a ∈ fp' i := by
  refine ⟨fun i => match (backA args e)[i]? with | some (.rf _) => fp' i | _ => [], ⟨?_, fun i s q => ?_, fun i hi => ?_, h'.sub, fun i a m => ?_, fun i => ?_, fun i j a m1 m2 => ?_⟩, fun i a m => ?_⟩
  · rw [backA_length]; exact h.len
  · rcases backA_get args e i s q with rfl | ⟨x, rfl, q2⟩ | ⟨t, t', rfl, q2, q3⟩
    · show (match (backA args e)[i]? with | some (.rf _) => fp' i | _ => []) = []
      rw [q]
    · obtain ⟨v, e1, ow⟩ := h.rel i _ q2
      refine ⟨v, e1, ?_⟩
      have z : (match (backA args e)[i]? with | some (.rf _) => fp' i | _ => []) = [] := by rw [q]
      rw [z]
      generalize fp i = r at ow
      cases ow with
      | f ow => exact .f (ow.mono st.g)
    · obtain ⟨e1, _⟩ := h.rel i _ q2
      obtain ⟨_, ow⟩ := h'.rel i _ q3
      refine ⟨e1, ?_⟩
      have z : (match (backA args e)[i]? with | some (.rf _) => fp' i | _ => []) = fp' i := by rw [q]
      rw [z]
      exact ow
  · have q : (backA args e)[i]? = none := List.getElem?_eq_none hi
    show (match (backA args e)[i]? with | some (.rf _) => fp' i | _ => []) = []
    rw [q]
  · have m' : a ∈ (match (backA args e)[i]? with | some (.rf _) => fp' i | _ => []) := m
    split at m'
    · exact h'.out i a m'
    · cases m'
  · show (match (backA args e)[i]? with | some (.rf _) => fp' i | _ => []).Nodup
    split
    · exact h'.nd i
    · exact .nil
  · have m1' : a ∈ (match (backA args e)[i]? with | some (.rf _) => fp' i | _ => []) := m1
    have m2' : a ∈ (match (backA args e)[j]? with | some (.rf _) => fp' j | _ => []) := m2
    split at m1'
    · split at m2'
      · exact h'.dj i j a m1' m2'
      · cases m2'
    · cases m1'
  · have m' : a ∈ (match (backA args e)[i]? with | some (.rf _) => fp' i | _ => []) := m
    split at m'
    · exact m'
    · cases m'
theorem RS.start {K : PySem.W.Frag} {mg : Str → Option Value} {G H : Hp} {vs : List V} {args : List Slot} {fp : Nat → List Addr} {pv : Nat → V} (h : RS K mg G (vs.map some) args H fp pv) (nl : Nat) : RS K mg G (vs.map some ++ List.replicate nl none) (args ++ List.replicate nl .no) H fp pv where
  len := by simp [h.len]
  rel := fun i s q => by
    by_cases hi : i < args.length
    · rw [List.getElem?_append_left hi] at q
      rw [List.getElem?_append_left (by rw [← h.len]; exact hi)]
      exact h.rel i s q
    · rw [List.getElem?_append_right (by omega)] at q
      have e : s = .no := by
        have m := List.mem_of_getElem? q
        exact (List.mem_replicate.mp m).2
      subst e
      exact h.nil i (by omega)
  nil := fun i hi => h.nil i (by simp at hi; omega)
  sub := h.sub
  out := h.out
  nd := h.nd
  dj := h.dj
def WF (E : XK) : WX := fun cls d _ H => E cls d H
theorem body_ok {K : PySem.W.Frag} {mg : Str → Option Value} {N : List Str} {n nl : Nat} {body : ST} {vs : List V} {H : Hp} {Q : VK} {E : XK} (hn : N.length - n = nl) (h : spV K mg n (mkFn nl body) vs H Q E) :
    tS K mg (WF E) body { nx := fun _ H' => Q .non H', rt := Q } (L2.start N vs) H := by
  obtain ⟨hl, G, args, fp, pv, rs, w⟩ := h
  have e : L2.start N vs = vs.map some ++ List.replicate nl none := by unfold L2.start; rw [hl, hn]
  rw [e]
  refine ⟨G, args ++ List.replicate nl .no, fp, pv, rs.start nl, ?_⟩
  unfold mkFn at w
  cases z : body (args ++ List.replicate nl .no) with
  | nx e2 =>
    rw [z] at w
    intro G' σ' H' fp' st rs'
    obtain ⟨fp2, rb, sb⟩ := rs.back st rs'
    exact w .non G' H' fp2 [] (st.sub fun i a m => st.f i a (sb i a m)) rb (.f (.d .non)) .nil fun a m => by cases m
  | rt s e2 =>
    rw [z] at w
    intro v G' σ' H' fp' r st rs' ow nd fr
    obtain ⟨fp2, rb, sb⟩ := rs.back st rs'
    exact w v G' H' fp2 r (st.sub fun i a m => st.f i a (sb i a m)) rb ow nd fun a m => ⟨(fr a m).1, fun i q => (fr a m).2.1 i (sb i a q), (fr a m).2.2⟩
  | err c e2 =>
    rw [z] at w
    exact fun C G' σ' H' fp' m st rs' => w C G' H' m (st.sub fun _ _ m => by cases m) rs'.sub
  | bad => rw [z] at w; exact w.elim
theorem fn_ok {P : Program} {w : World} {K : PySem.W.Frag} {mg : Str → Option Value} {base : Heap} {x qual : Str} {st : Stmt} {f : Addr} {fd : FuncData} {N ps : List Str} {k n nl : Nat} {body : ST} (F : Fun K x qual st f fd) (S : FnScope N ps (defScope st)) (hps : ps.length = n) (hn : N.length - n = nl)
    (hb : ∀ (cdv : Value) (A : Around) (outer : List PySem.Env) (s : Shared) (H : Hp) (E : XK), Room k (A.deeper (envOfC qual (defScope st) s.heap.objs.size f cdv)) →
      VSs (cxOf (L2N.CX P w) P w K mg base N qual (defScope st) f cdv A outer s H E) (WF E) (defBody st) body) : FnOk P w K mg base (L2N.CX P w) (k + 1) f fd ps (spV K mg n (mkFn nl body)) :=
  by
  obtain ⟨oc, od, kV, doc, pm, an, cdv, ct, osl, rfl, lk, hcd⟩ := F.ex
  exact fn_of lk hcd S (fun vs H Q E h => by rw [hps]; exact h.1) fun A outer s H vs Q E hr h => ⟨_, hb cdv A outer s H E hr, body_ok hn h⟩
end
end VL

set_option Elab.async false
set_option linter.all false
set_option maxRecDepth 100000
set_option maxHeartbeats 4000000
namespace VL
open PySem PySem.Spec PyProof.Rows L2

section
variable {X : Cx} {W : WX} {a b c e o tg : Expr} {es : List Expr} {pos : Pos} {st : Stmt} {sts : List Stmt}
def tAN (K : PySem.W.Frag) (mg : Str → Option Value) (W : WX) (n : Nat) (f : Env → Res (List FV)) : TA := fun σ H Q => ∃ G env fp pv, RS K mg G σ env H fp pv ∧
  PostR mg W σ H (fun xs => ∀ vs G' H', Ext G H G' H' → Fqs K mg G' vs xs → xs.length = n → Q vs H') (f env)
abbrev VAN (X : Cx) (W : WX) (n : Nat) (es : List Expr) (f : Env → Res (List FV)) : Prop := PA X es (tAN X.K X.mg W n f)
def aN : Env → Res (List FV) := fun _ => .ok []
def aC (f : FP) (g : Env → Res (List FV)) : Env → Res (List FV) := fun env => (f env).bind fun x => (g env).bind fun xs => .ok (x :: xs)
theorem van_nil : VAN X W 0 [] aN := pa_imp pa_nil fun σ H Q ⟨G, env, fp, pv, rs, w⟩ => w [] G H (Ext.refl rs.sub) .nil rfl
theorem van_cons {n : Nat} {f : FP} {g : Env → Res (List FV)} (ha : VP X W e f) (hr : VAN X W n es g) (hs : starEach (e :: es) X.env = (false, eval e X.env) :: starEach es X.env) : VAN X W (n + 1) (e :: es) (aC f g) :=
  pa_imp (pa_cons ha hr hs) fun σ H Q ⟨G, env, fp, pv, rs, w⟩ => ⟨G, env, fp, pv, rs, by
    have w' := PostR.seq (k := fun x => PostR X.mg W σ H _ ((g env).bind _)) w fun y w => w
    exact PostR.imp w' (Same.refl _) fun x w v G1 H1 e1 q1 => ⟨G1, env, fp, pv, rs.ext e1, PostR.imp (PostR.seq (k := fun y => PostR X.mg W σ H _ (Res.ok (x :: y))) w fun y w => w) e1.h fun xs w vs G2 H2 e2 q2 hl => w (v :: vs) G2 H2 (e1.trans e2) (.cons (q1.mono e2.g) q2) (by simp [hl])⟩⟩
theorem Fqs.length {K : PySem.W.Frag} {mg : Str → Option Value} {G : Hp} {vs : List V} {xs : List FV} (h : Fqs K mg G vs xs) : vs.length = xs.length := by
  induction h with
  | nil => rfl
  | cons _ _ ih => simp [ih]
theorem Fqs.get {K : PySem.W.Frag} {mg : Str → Option Value} {G : Hp} : ∀ {vs : List V} {xs : List FV} {i : Nat} {x : FV}, Fqs K mg G vs xs → xs[i]? = some x → ∃ v, vs[i]? = some v ∧ Fq K mg G v x
  | _, _, _, _, .nil, e => by simp at e
  | _, _, 0, _, .cons h t, e => by simp at e; subst e; exact ⟨_, rfl, h⟩
  | _, _, i + 1, x, .cons h t, e => by simpa using Fqs.get (i := i) t (by simpa using e)
def vaF (x : FV) : Slot := .va (.f x)
theorem RS.args {K : PySem.W.Frag} {mg : Str → Option Value} {G H : Hp} {vs : List V} {xs : List FV} (s : Same G H) (h : Fqs K mg G vs xs) : RS K mg G (vs.map some) (xs.map vaF) H (fun _ => []) (fun _ => .non) where
  len := by rw [List.length_map, List.length_map, h.length]
  rel := fun i u q => by
    rw [List.getElem?_map] at q
    cases z : xs[i]? with
    | none => rw [z] at q; cases q
    | some x =>
      rw [z] at q
      cases q
      obtain ⟨v, hv, fq⟩ := h.get z
      exact ⟨v, by rw [List.getElem?_map, hv]; rfl, .f fq⟩
  nil := fun _ _ => rfl
  sub := s
  out := fun _ _ m => by cases m
  nd := fun _ => .nil
  dj := fun _ _ _ m => by cases m
theorem Stp.ext0 {G H G' H' : Hp} {fp' : Nat → List Addr} (st : Stp G H (fun _ => []) G' H' fp') (s : Same G' H') : Ext G H G' H' where
  g := st.g
  h := fun b o h => st.fr b o h fun _ m => by cases m
  s := s
  n := fun a o q => by
    rcases st.n a o q with z | z | ⟨_, m⟩
    · exact .inl z
    · exact .inr z
    · cases m
def outR : FOut → Res SV
  | .ret s _ => .ok s
  | .exc c => .err c
  | .bad => .bad
def vCall (S : Fn) (fs : Env → Res (List FV)) : FO := fun env => (fs env).bind fun xs => outR (S (xs.map vaF))
theorem vo_call {k n : Nat} {f : Addr} {fd : FuncData} {ps : List Str} {S : Fn} {x : Str} {p : Pos} {fs : Env → Res (List FV)} (F : FnOk X.prog X.w X.K X.mg X.base (L2N.CX X.prog X.w) k f fd ps (spV X.K X.mg n S)) (hr : Room k X.A) (hm : X.mg x = some (.ref f)) (hk : PySem.W.keepIn X.K (.ref f) = true) (hb : Binds X.K fd ps [])
    (tk : L2N.Takes X W) (ha : VAN X W n (e :: es) fs) (hg : Gl X x) (hdb : (x == ("__debug__" : Str)) = false := by decide) (he : starEach (e :: es) X.env = (false, eval e X.env) :: starEach es X.env := by rfl) (hpl : (backTo pos (starEach es X.env)).any (·.1) = false := by rfl) :
    VO X W (.Call (.Name x p) (e :: es) [] pos) (vCall S fs) :=
  pe_imp (pe_callS F hr hg hm hk hb (fun σ => L2N.passAt tk σ) ha hdb he hpl) fun σ H Q ⟨G, env, fp, pv, rs, w⟩ => ⟨G, env, fp, pv, rs, PostR.seq w fun xs w vs G1 H1 e1 q1 hl => by
    refine ⟨by rw [q1.length]; exact hl, G1, xs.map vaF, fun _ => [], fun _ => .non, RS.args e1.s q1, ?_⟩
    cases z : S (xs.map vaF) with
    | ret s as =>
      rw [z] at w
      refine fun v G2 H2 fp2 r st rs2 ow nd fr => w v G2 H2 r (e1.trans (st.ext0 rs2.sub)) ow nd fun a m => ⟨?_, (fr a m).1⟩
      rcases (fr a m).2.2 with q | ⟨_, q⟩
      · exact none_back e1.h q
      · cases q
    | exc c =>
      rw [z] at w
      exact fun C G2 H2 m k _ => w C H2 m (e1.h.trans fun b o h => k.fr b o h fun _ q => by cases q)
    | bad => rw [z] at w; exact w.elim⟩
theorem run_makeS {CX : CXT} {k : Nat} {C f : Addr} {fd : FuncData} {ps : List Str} {sp : Sp} {E : L2.St → XK} {pins : List (Addr × Obj)} {σ : L2.St} {H : Hp} {s : Shared} {Q : VK} {us : List Value} {vs : List V} (M : Mk X.K C f) (F : FnOk X.prog X.w X.K X.mg X.base CX k f fd ps sp) (hr : Room (k + 1) X.A) (hb : Binds X.K fd ps [])
    (hx : PassesAt CX X σ (E σ)) (I : Inv X pins σ H s) (r : Vals vs us)
    (h : ∀ x dx, H x = none → H dx = none → dx ≠ x → sp (.ref x :: vs) (upd (upd H dx (.own x)) x (.ins C dx [])) (fun v H2 => v = .non ∧ Q (.ref x) H2) (E σ)) :
    wpAny (model X.prog X.w) X.A (call (.ref C) us) (EP X pins σ Q) X.xe s := by
  have hq := h (s.heap.objs.size + 1) s.heap.objs.size (I.hok.fresh (Nat.le_succ _)) (I.hok.fresh (Nat.le_refl _)) (Nat.ne_of_lt (Nat.lt_succ_self _))
  have I2 := Inv.made (C := C) I
  have r2 : Vals (V.ref (s.heap.objs.size + 1) :: vs) (Value.ref (s.heap.objs.size + 1) :: us) := .cons rfl r
  have hl : (Value.ref (s.heap.objs.size + 1) :: us).length = ps.length := by
    have e := r2.length
    rw [F.len _ _ _ _ hq] at e
    exact e.symm
  have b := hb _ (Value.ref (s.heap.objs.size + 1) :: us) I2.kIn (by rw [List.append_nil]; exact hl)
  rw [List.append_nil] at b
  refine wpAny_call (make_map (f := f) I.kIn M.makes M.init (beq_iff_eq.mp M.fn) (codeAny_mono (F.run _ X.stack _ _ ⟨Value.ref (s.heap.objs.size + 1) :: us, []⟩ (Value.ref (s.heap.objs.size + 1) :: us) _ _ (E σ) (hr.make C us [])
    (I2.env0.make C us []) b r2 hq) fun r s' hq' => ?_))
  cases r with
  | error e => exact hx pins _ _ e s' I2 hq'
  | ok fl =>
    cases fl with
    | ret u =>
      obtain ⟨v, H', I3, rv, ev, q3⟩ := I2.after hq'
      subst ev
      exact ⟨rv, ⟨V.ref (s.heap.objs.size + 1), H', I3, rfl, q3⟩⟩
    | next => exact False.elim hq'
    | brk => exact False.elim hq'
    | cont => exact False.elim hq'
def tMakeS (C : Addr) (sp : Sp) (E : L2.St → XK) (t : TA) : TE := fun σ H Q => t σ H fun vs H1 => ∀ x dx, H1 x = none → H1 dx = none → dx ≠ x →
  sp (.ref x :: vs) (upd (upd H1 dx (.own x)) x (.ins C dx [])) (fun v H2 => v = .non ∧ Q (.ref x) H2) (E σ)
theorem pe_makeS {CX : CXT} {k : Nat} {C f : Addr} {fd : FuncData} {ps : List Str} {sp : Sp} {E : L2.St → XK} {x : Str} {p : Pos} {t : TA} (M : Mk X.K C f) (F : FnOk X.prog X.w X.K X.mg X.base CX k f fd ps sp) (hr : Room (k + 1) X.A) (hg : Gl X x) (hm : X.mg x = some (.ref C)) (hb : Binds X.K fd ps []) (hx : ∀ σ, PassesAt CX X σ (E σ))
    (ha : PA X (e :: es) t) (hdb : (x == ("__debug__" : Str)) = false := by decide) (he : starEach (e :: es) X.env = (false, eval e X.env) :: starEach es X.env := by rfl) (hpl : (backTo pos (starEach es X.env)).any (·.1) = false := by rfl) :
    PE X (.Call (.Name x p) (e :: es) [] pos) (tMakeS C sp E t) := by
  refine ⟨fun pins s σ H Q I h => ?_⟩
  refine wpAny_Call_Name_kw (ld_glob I hg hm ?_ hdb)
  refine PySem.W.callWith_K (h₀ := X.base) I.ok.mod.kin M.kp (thn (ha.run pos pins s σ H _ I h) fun us s1 ⟨vs, H1, I1, r, q⟩ => ⟨I1.kIn, ?_⟩) he hpl
  exact run_makeS M F hr hb (hx σ) I1 r q
def outM : FOut → Res SV
  | .ret (.f (.d .none)) (.rf s :: _) => .ok s
  | .exc c => .err c
  | _ => .bad
def vMake (c : Str) (S : Fn) (fs : Env → Res (List FV)) : FO := fun env => (fs env).bind fun xs => outM (S (.rf (.obj c []) :: xs.map vaF))
theorem vo_make {k n : Nat} {C f : Addr} {fd : FuncData} {ps : List Str} {S : Fn} {x : Str} {p : Pos} {fs : Env → Res (List FV)} (M : Mk X.K C f) (F : FnOk X.prog X.w X.K X.mg X.base (L2N.CX X.prog X.w) k f fd ps (spV X.K X.mg (n + 1) S)) (hr : Room (k + 1) X.A) (hm : X.mg x = some (.ref C)) (hb : Binds X.K fd ps [])
    (tk : L2N.Takes X W) (ha : VAN X W n (e :: es) fs) (hg : Gl X x) (hdb : (x == ("__debug__" : Str)) = false := by decide) (he : starEach (e :: es) X.env = (false, eval e X.env) :: starEach es X.env := by rfl) (hpl : (backTo pos (starEach es X.env)).any (·.1) = false := by rfl) :
    VO X W (.Call (.Name x p) (e :: es) [] pos) (vMake x S fs) :=
  pe_imp (pe_makeS M F hr hg hm hb (fun σ => L2N.passAt tk σ) ha hdb he hpl) fun σ H Q ⟨G, env, fp, pv, rs, w⟩ => ⟨G, env, fp, pv, rs, PostR.seq w fun xs w vs G1 H1 e1 q1 hl y dx hy hdx hne => by
    have hH : ∀ b o, H1 b = some o → (upd (upd H1 dx (.own y)) y (.ins C dx [])) b = some o := fun b o h => by
      rw [upd_ne (ne_of_none h hy), upd_ne (ne_of_none h hdx)]; exact h
    have hy1 : G1 y = none := none_back e1.s hy
    have ra := RS.args (K := X.K) (mg := X.mg) e1.s q1
    have rs1 : RS X.K X.mg G1 ((V.ref y :: vs).map some) (.rf (.obj x []) :: xs.map vaF) (upd (upd H1 dx (.own y)) y (.ins C dx [])) (fun i => if i = 0 then [y] else []) (fun _ => .ref y) := by
      refine ⟨by simp [q1.length], fun i u q => ?_, fun i hi => ?_, fun b o h => hH b o (e1.s b o h), fun i a m => ?_, fun i => ?_, fun i j a m1 m2 => ?_⟩
      · cases i with
        | zero =>
          cases q
          exact ⟨rfl, .obj hm upd_same .nil⟩
        | succ i =>
          have q' : (xs.map vaF)[i]? = some u := q
          have r := ra.rel i u q'
          have r2 := slotOk.mono (Same.refl _) hH r
          exact (by
            cases u with
            | no => rfl
            | va s => exact r2
            | rf s =>
              rw [List.getElem?_map] at q'
              cases z : xs[i]? with
              | none => rw [z] at q'; cases q'
              | some x => rw [z] at q'; cases q'
            | vw p => exact r2)
      · have : i ≠ 0 := by intro z; subst z; simp at hi
        show (if i = 0 then [y] else []) = []
        rw [if_neg this]
      · by_cases hi : i = 0
        · rw [if_pos hi] at m
          have e : a = y := by simpa using m
          rw [e]; exact hy1
        · rw [if_neg hi] at m; cases m
      · show (if i = 0 then [y] else []).Nodup
        by_cases hi : i = 0
        · rw [if_pos hi]; simp
        · rw [if_neg hi]; exact .nil
      · by_cases hi : i = 0
        · by_cases hj : j = 0
          · rw [hi, hj]
          · rw [if_neg hj] at m2; cases m2
        · rw [if_neg hi] at m1; cases m1
    refine ⟨by simp [q1.length, hl], G1, _, _, _, rs1, ?_⟩
    cases z : S (.rf (.obj x []) :: xs.map vaF) with
    | ret s as =>
      rw [z] at w
      intro v G2 H2 fp2 r st rs2 ow nd fr
      match s, as, w, ow, rs2 with
      | .f (.d .none), .rf s' :: as, w, ow, rs2 =>
        have hv : v = .non := by
          generalize r = r' at ow
          cases ow with
          | f q => cases q with | d q => cases q; rfl
        obtain ⟨_, ow2⟩ := rs2.rel 0 _ rfl
        have hx : ∀ b o, H1 b = some o → H2 b = some o := fun b o h => st.fr b o (hH b o h) fun i m => by
          by_cases hi : i = 0
          · rw [if_pos hi] at m
            have e : b = y := by simpa using m
            rw [e, hy] at h; cases h
          · rw [if_neg hi] at m; cases m
        have back : ∀ a, (upd (upd H1 dx (.own y)) y (.ins C dx [])) a = none → H1 a = none := fun a h => by
          cases q : H1 a with
          | none => rfl
          | some o => rw [hH a o q] at h; cases h
        have inY : ∀ a j, a ∈ (if j = 0 then [y] else []) → H1 a = none := fun a j m => by
          by_cases hj : j = 0
          · rw [if_pos hj] at m
            have e : a = y := by simpa using m
            rw [e]; exact hy
          · rw [if_neg hj] at m; cases m
        refine ⟨hv, w (.ref y) G2 H2 (fp2 0) (e1.trans ⟨st.g, hx, rs2.sub, fun a o q => ?_⟩) ow2 (rs2.nd 0) fun a m => ⟨?_, rs2.out 0 a m⟩⟩
        · rcases st.n a o q with q | q | ⟨j, q⟩
          · exact .inl q
          · exact .inr (back a q)
          · exact .inr (inY a j q)
        · rcases st.f 0 a m with q | ⟨j, q⟩
          · exact none_back e1.h (back a q)
          · exact none_back e1.h (inY a j q)
    | exc c =>
      rw [z] at w
      refine fun C' G2 H2 m k _ => w C' H2 m (e1.h.trans fun b o h => k.fr b o (hH b o h) fun i q => ?_)
      have q : b ∈ (if i = 0 then [y] else []) := q
      by_cases hi : i = 0
      · rw [if_pos hi] at q
        have e : b = y := by simpa using q
        rw [e, hy] at h; cases h
      · rw [if_neg hi] at q; cases q
    | bad => rw [z] at w; exact w.elim⟩
end

def dv : Slot → Slot
  | .vw _ => .no
  | s => s
theorem dv_get {env : Env} {j : Nat} {s : Slot} (h : (env.map dv)[j]? = some s) : ∃ t, env[j]? = some t ∧ s = dv t := by
  rw [List.getElem?_map] at h
  cases z : env[j]? with
  | none => rw [z] at h; cases h
  | some t => rw [z] at h; exact ⟨t, rfl, (Option.some.inj h).symm⟩
inductive Kind where
  | va
  | rf
def Kind.mk : Kind → SV → Slot
  | .va, s => .va s
  | .rf, s => .rf s
section
variable {K : PySem.W.Frag} {mg : Str → Option Value} {G H H' : Hp} {fp : Nat → List Addr} {σ : L2.St} {env : Env} {pv : Nat → V}
theorem RS.put {i : Nat} {kd : Kind} {s s' : SV} {v : V} {r : List Addr} (h : RS K mg G σ env H fp pv) (hs : env[i]? = some (kd.mk s)) (hv : σ[i]? = some (some v)) (hp : kd = .rf → v = pv i) (hH : ∀ b, b ∉ fp i → (∃ o, H b = some o) → H' b = H b) (ow : Ow K mg G H' v s' r) (nd : r.Nodup) (hr : ∀ b ∈ r, G b = none ∧ ∀ j, j ≠ i → b ∉ fp j) :
    RS K mg G σ ((env.map dv).set i (kd.mk s')) H' (fun j => if j = i then r else fp j) pv where
  len := by rw [List.length_set, List.length_map]; exact h.len
  rel := fun j u e => by
    have hi : i < env.length := (List.getElem?_eq_some_iff.mp hs).1
    by_cases q : j = i
    · subst q
      rw [List.getElem?_set_self (by rw [List.length_map]; exact hi)] at e
      cases e
      rw [if_pos rfl]
      cases kd with
      | va => exact ⟨v, hv, ow⟩
      | rf => rw [← hp rfl]; exact ⟨hv, ow⟩
    · rw [List.getElem?_set_ne (Ne.symm q)] at e
      rw [if_neg q]
      obtain ⟨t, et, rfl⟩ := dv_get e
      have r := h.rel j t et
      have same : ∀ a ∈ fp j, H' a = H a := fun a m => hH a (fun m2 => q (h.dj j i a m m2)) (h.there j a m)
      cases t with
      | no => exact r
      | va s => obtain ⟨v, e1, q⟩ := r; exact ⟨v, e1, q.mono (Same.refl _) same⟩
      | rf s => obtain ⟨e1, q⟩ := r; exact ⟨e1, q.mono (Same.refl _) same⟩
      | vw p => exact r.1
  nil := fun j hj => by
    have hi : i < env.length := (List.getElem?_eq_some_iff.mp hs).1
    rw [List.length_set, List.length_map] at hj
    show (if j = i then r else fp j) = []
    rw [if_neg (by omega)]
    exact h.nil j hj
  sub := fun a o e => by
    have z := h.sub a o e
    rw [hH a (fun m => by rw [h.out i a m] at e; cases e) ⟨o, z⟩]
    exact z
  out := fun j a m => by
    by_cases q : j = i
    · rw [if_pos q] at m; exact (hr a m).1
    · rw [if_neg q] at m; exact h.out j a m
  nd := fun j => by
    show (if j = i then r else fp j).Nodup
    by_cases q : j = i
    · rw [if_pos q]; exact nd
    · rw [if_neg q]; exact h.nd j
  dj := fun j k a m1 m2 => by
    by_cases q1 : j = i
    · rw [if_pos q1] at m1
      by_cases q2 : k = i
      · rw [q1, q2]
      · rw [if_neg q2] at m2; exact absurd m2 ((hr a m1).2 k q2)
    · rw [if_neg q1] at m1
      by_cases q2 : k = i
      · rw [if_pos q2] at m2; exact absurd m1 ((hr a m2).2 j q1)
      · rw [if_neg q2] at m2; exact h.dj j k a m1 m2
def tree (e : Env) (i : Nat) : Option (Kind × SV) := match e[i]? with
  | some (.va s) => some (.va, s)
  | some (.rf s) => some (.rf, s)
  | _ => none
theorem RS.tree (h : RS K mg G σ env H fp pv) {i : Nat} {kd : Kind} {s : SV} (t : tree env i = some (kd, s)) : env[i]? = some (kd.mk s) ∧ ∃ v, σ[i]? = some (some v) ∧ (kd = .rf → v = pv i) ∧ Ow K mg G H v s (fp i) := by
  unfold VL.tree at t
  cases z : env[i]? with
  | none => rw [z] at t; cases t
  | some u =>
    rw [z] at t
    cases u with
    | no => cases t
    | vw p => cases t
    | va u =>
      cases t
      obtain ⟨v, e1, q⟩ := h.rel i _ z
      exact ⟨rfl, v, e1, (fun q => by cases q), q⟩
    | rf u =>
      cases t
      obtain ⟨e1, q⟩ := h.rel i _ z
      exact ⟨rfl, _, e1, (fun _ => rfl), q⟩
def putS (f : Str) (v : SV) : List (Str × SV) → List (Str × SV)
  | [] => [(f, v)]
  | (g, x) :: r => if g = f then (g, v) :: r else (g, x) :: putS f v r
theorem Owf.len : ∀ {vs : List (Str × V)} {fs : List (Str × SV)} {r : List Addr}, Owf K mg G H vs fs r → vs.length = fs.length
  | _, _, _, .nil => rfl
  | _, _, _, .cons _ t => congrArg (· + 1) (Owf.len t)
theorem Owf.put {n : Str} {v : V} {s : SV} {r1 : List Addr} (ow : Ow K mg G H v s r1) : ∀ {vs : List (Str × V)} {fs : List (Str × SV)} {r : List Addr}, Owf K mg G H vs fs r → (r ++ r1).Nodup → ∃ r', Owf K mg G H (putF n v vs) (putS n s fs) r' ∧ (∀ b ∈ r', b ∈ r ∨ b ∈ r1) ∧ r'.Nodup
  | _, _, _, .nil, nd => ⟨r1 ++ [], .cons ow .nil, fun b m => .inr (by simpa using m), by simpa using nd⟩
  | _, _, _, @Owf.cons _ _ _ _ m v0 vs x0 xs r rs h t, nd => by
    by_cases e : m = n
    · refine ⟨r1 ++ rs, ?_, fun b hb => ?_, ?_⟩
      · show Owf K mg G H (if m = n then (m, v) :: vs else (m, v0) :: putF n v vs) (if m = n then (m, s) :: xs else (m, x0) :: putS n s xs) _
        rw [if_pos e, if_pos e]
        exact .cons ow t
      · rcases List.mem_append.mp hb with q | q
        · exact .inr q
        · exact .inl (List.mem_append_right _ q)
      · have n1 := (List.nodup_append.mp nd)
        have n2 := (List.nodup_append.mp n1.1)
        exact List.nodup_append.mpr ⟨n1.2.1, n2.2.1, fun a m1 b m2 q => n1.2.2 b (List.mem_append_right _ m2) a m1 q.symm⟩
    · rw [List.append_assoc] at nd
      have n1 := List.nodup_append.mp nd
      obtain ⟨r', o', s', n'⟩ := Owf.put (n := n) ow t n1.2.1
      refine ⟨r ++ r', ?_, fun b hb => ?_, ?_⟩
      · show Owf K mg G H (if m = n then (m, v) :: vs else (m, v0) :: putF n v vs) (if m = n then (m, s) :: xs else (m, x0) :: putS n s xs) _
        rw [if_neg e, if_neg e]
        exact .cons h o'
      · rcases List.mem_append.mp hb with q | q
        · exact .inl (List.mem_append_left _ q)
        · rcases s' b q with q | q
          · exact .inl (List.mem_append_right _ q)
          · exact .inr q
      · refine List.nodup_append.mpr ⟨n1.1, n', fun a m1 b m2 q => ?_⟩
        rcases s' b m2 with z | z
        · exact n1.2.2 a m1 b (List.mem_append_left _ z) q
        · exact n1.2.2 a m1 b (List.mem_append_right _ z) q
theorem Owf.look_none {n : Str} : ∀ {vs : List (Str × V)} {fs : List (Str × SV)} {r : List Addr}, Owf K mg G H vs fs r → fs.lookup n = none → vs.lookup n = none
  | _, _, _, .nil, _ => rfl
  | _, _, _, @Owf.cons _ _ _ _ m v0 vs x0 xs r rs h t, e => by
    by_cases q : (n == m) = true
    · simp only [List.lookup, q] at e; cases e
    · have q' : (n == m) = false := by simpa using q
      simp only [List.lookup, q'] at e ⊢
      exact Owf.look_none t e
end
section
variable {X : Cx} {W : WX} {a b c e o tg : Expr} {es : List Expr} {pos apos : Pos} {st : Stmt} {sts : List Stmt}
def setF (cn n : Str) (s : SV) : SV → Option SV
  | .obj c fs => if c = cn ∧ fs.length < 1000 ∧ (n = "chance" ∨ (fs.lookup n).isNone = true) then some (.obj c (putS n s fs)) else none
  | _ => none
def vSetF (cn : Str) (i : Nat) (n : Str) (f : FO) : ST := fun e => ofR (f e) e fun s => match tree e i with
  | some (kd, t) => match setF cn n s t with
    | some t' => .nx ((e.map dv).set i (kd.mk t'))
    | none => .bad
  | none => .bad
theorem vs_setF {cn : Str} {i : Nat} {n : Str} {f : FO} (hc : FldOk X cn n) (ho : PE X o (tVar i)) (he : VO X W e f) (hsw : swapsWith e (some (.Attribute o n apos)) pos.line X.env = pure false) :
    VS X W (.Assign [.Attribute o n apos] e pos) (vSetF cn i n f) := ps_imp (ps_fld ho he hsw) fun D σ H ⟨G, env, fp, pv, rs, w⟩ => ⟨G, env, fp, pv, rs, Post.ofR rs w fun s w v G1 H1 r e1 ow nd fr => by
  cases z : tree env i with
  | none => rw [z] at w; exact w.elim
  | some kt =>
    obtain ⟨kd, t⟩ := kt
    rw [z] at w
    dsimp only at w
    have rs1 := rs.ext e1
    obtain ⟨hs, u, hu, hp, owt⟩ := rs1.tree z
    refine ⟨u, hu, ?_⟩
    cases z2 : setF cn n s t with
    | none => rw [z2] at w; exact w.elim
    | some t' =>
      rw [z2] at w
      cases t with
      | f _ => cases z2
      | own _ => cases z2
      | otup _ => cases z2
      | obj c fs =>
        have z3 : (if c = cn ∧ fs.length < 1000 ∧ (n = "chance" ∨ (fs.lookup n).isNone = true) then some (SV.obj c (putS n s fs)) else none) = some t' := z2
        by_cases hl : c = cn ∧ fs.length < 1000 ∧ (n = "chance" ∨ (fs.lookup n).isNone = true)
        · rw [if_pos hl] at z3
          cases z3
          generalize hfp : fp i = r0 at owt
          cases owt with
          | @obj x C dx _ vs _ rr m hx of =>
            obtain ⟨k1, k2⟩ := hc _ (by rw [← hl.1]; exact m)
            have hxr : x ∉ r := fun q => by
              have z1 := (fr x q).1
              obtain ⟨o, ho⟩ := rs.there i x (by rw [hfp]; exact List.mem_cons_self)
              rw [ho] at z1; cases z1
            have nd0 := rs1.nd i
            rw [hfp] at nd0
            have nd1 := List.nodup_cons.mp nd0
            have ndr : (rr ++ r).Nodup := List.nodup_append.mpr ⟨nd1.2, nd, fun a m1 b m2 q => by
              subst q
              obtain ⟨o, ho⟩ := rs.there i a (by rw [hfp]; exact List.mem_cons_of_mem _ m1)
              rw [(fr a m2).1] at ho; cases ho⟩
            obtain ⟨r', of', sr', nd'⟩ := Owf.put (n := n) ow of ndr
            have xr' : x ∉ r' := fun q => by
              rcases sr' x q with q | q
              · exact nd1.1 q
              · exact hxr q
            have upx : ∀ a, a ≠ x → (upd H1 x (.ins C dx (putF n v vs))) a = H1 a := fun a h => upd_ne h
            have rs2 := rs1.put (H' := upd H1 x (.ins C dx (putF n v vs))) (s' := .obj c (putS n s fs)) (r := x :: r') hs hu hp (fun b hb _ => upx b fun q => hb (by rw [hfp, q]; exact List.mem_cons_self))
              (.obj m upd_same (of'.mono (Same.refl _) fun a ma => upx a fun q => xr' (by rw [← q]; exact ma))) (List.nodup_cons.mpr ⟨xr', nd'⟩) (fun b hb => by
                rcases List.mem_cons.mp hb with rfl | hb
                · exact ⟨rs1.out i b (by rw [hfp]; exact List.mem_cons_self), fun j hj m2 => hj (rs1.dj j i b m2 (by rw [hfp]; exact List.mem_cons_self))⟩
                · rcases sr' b hb with q | q
                  · exact ⟨rs1.out i b (by rw [hfp]; exact List.mem_cons_of_mem _ q), fun j hj m2 => hj (rs1.dj j i b m2 (by rw [hfp]; exact List.mem_cons_of_mem _ q))⟩
                  · exact ⟨(fr b q).2, fun j _ => rs.notin (fr b q).1 j⟩)
            refine ⟨x, C, dx, vs, rfl, hx, k1, k2, by rw [of.len]; exact hl.2.1, w G1 σ _ _ ⟨e1.g, fun b ob h q => ?_, fun a ob q => ?_, fun j a ma => ?_, fun b hb => ?_, fun a C' dx' vs' h => ?_⟩ rs2⟩
            · rw [upx b fun z => q i (by rw [hfp, z]; exact List.mem_cons_self)]
              exact e1.h b ob h
            · rcases e1.n a ob q with q | q
              · exact .inl q
              · exact .inr (.inl q)
            · by_cases hj : j = i
              · rw [if_pos hj] at ma
                rcases List.mem_cons.mp ma with rfl | ma
                · exact .inr ⟨i, by rw [hfp]; exact List.mem_cons_self⟩
                · rcases sr' a ma with q | q
                  · exact .inr ⟨i, by rw [hfp]; exact List.mem_cons_of_mem _ q⟩
                  · exact .inl (fr a q).1
              · rw [if_neg hj] at ma; exact .inr ⟨j, ma⟩
            · by_cases hbx : b = x
              · rw [hbx, upd_same] at hb; cases hb
              · rw [upx b hbx] at hb; exact none_back e1.h hb
            · by_cases hax : a = x
              · have h1 := e1.h _ _ h
                rw [hax, hx] at h1
                cases h1
                refine ⟨putF n v vs, by rw [hax]; exact upd_same, fun f y hf q => ?_⟩
                rw [lookup_putF]
                by_cases hfn : f = n
                · subst hfn
                  rcases hl.2.2 with z | z
                  · exact absurd z hf
                  · have z' : fs.lookup f = none := by simpa using z
                    rw [of.look_none z'] at q; cases q
                · rw [if_neg hfn]; exact q
              · exact ⟨vs', by rw [upx a hax]; exact e1.h _ _ h, fun _ _ _ q => q⟩
        · rw [if_neg hl] at z3; cases z3⟩
end
end VL

set_option Elab.async false
set_option linter.all false
set_option maxRecDepth 100000
set_option maxHeartbeats 4000000
namespace VL
open PySem PySem.Spec PyProof.Rows L2

def Def (P : Program) (w : World) (K : PySem.W.Frag) (mg : Str → Option Value) (base : Heap) (k n : Nat) (x : Str) (ps : List Str) (S : Fn) : Prop :=
  ∃ (f : Addr) (fd : FuncData), FnOk P w K mg base (L2N.CX P w) k f fd ps (spV K mg n S) ∧ mg x = some (.ref f) ∧ PySem.W.keepIn K (.ref f) = true ∧ Binds K fd ps []
def Sits (K : PySem.W.Frag) (mg : Str → Option Value) (x : Str) (st : Stmt) (ps : List Str) : Prop := ∃ (f : Addr) (fd : FuncData), Fun K x x st f fd ∧ mg x = some (.ref f) ∧ Binds K fd ps []
def ClsOk (P : Program) (w : World) (K : PySem.W.Frag) (mg : Str → Option Value) (base : Heap) (k n : Nat) (c : Str) (ps : List Str) (S : Fn) : Prop :=
  ∃ (C f : Addr) (fd : FuncData), Mk K C f ∧ FnOk P w K mg base (L2N.CX P w) k f fd ps (spV K mg n S) ∧ mg c = some (.ref C) ∧ Binds K fd ps []
def SitsM (K : PySem.W.Frag) (x qual : Str) (st : Stmt) (ps : List Str) (f : Addr) : Prop := ∃ (fd : FuncData), Fun K x qual st f fd ∧ Binds K fd ps []
def ExF (K : PySem.W.Frag) (mg : Str → Option Value) (c : Str) : Prop := ∃ C : Addr, mg c = some (.ref C) ∧ PySem.W.excIn K C [.type "ValueError", .type "Exception", .type "BaseException", .type "object"] "ValueError.__new__" = true ∧ PySem.W.keepIn K (.ref C) = true ∧
  PySem.W.subIn K (.ref C) (.type "BaseException") = some true ∧ PySem.W.typeIn K (.ref C) = some (.type "type")
def GTup (K : PySem.W.Frag) (mg : Str → Option Value) (x : Str) (ns : List Int) : Prop := ∃ a : Addr, mg x = some (.ref a) ∧ ∀ G, SqT K G a (ns.map V.int)
theorem hu65 {k : Nat} {A : Around} (hr : Room k A) : A.units + 65 < cLine := by have := hr.un; omega
theorem def_ok {P : Program} {w : World} {K : PySem.W.Frag} {mg : Str → Option Value} {base : Heap} {x : Str} {st : Stmt} {N ps : List Str} {k n nl : Nat} {body : ST} (F : Sits K mg x st ps) (S : FnScope N ps (defScope st)) (hps : ps.length = n) (hn : N.length - n = nl)
    (hb : ∀ (f : Addr) (cdv : Value) (A : Around) (outer : List PySem.Env) (s : Shared) (H : Hp) (E : XK), Room k (A.deeper (envOfC x (defScope st) s.heap.objs.size f cdv)) →
      VSs (cxOf (L2N.CX P w) P w K mg base N x (defScope st) f cdv A outer s H E) (WF E) (defBody st) body) : Def P w K mg base (k + 1) n x ps (mkFn nl body) := by
  obtain ⟨f, fd, F, m, b⟩ := F
  exact ⟨f, fd, fn_ok F S hps hn fun cdv A outer s H E hr => hb f cdv A outer s H E hr, m, F.kp, b⟩
theorem meth_ok {P : Program} {w : World} {K : PySem.W.Frag} {mg : Str → Option Value} {base : Heap} {x qual : Str} {st : Stmt} {N ps : List Str} {k n nl : Nat} {body : ST} {f : Addr} (F : SitsM K x qual st ps f) (S : FnScope N ps (defScope st)) (hps : ps.length = n) (hn : N.length - n = nl)
    (hb : ∀ (cdv : Value) (A : Around) (outer : List PySem.Env) (s : Shared) (H : Hp) (E : XK), Room k (A.deeper (envOfC qual (defScope st) s.heap.objs.size f cdv)) →
      VSs (cxOf (L2N.CX P w) P w K mg base N qual (defScope st) f cdv A outer s H E) (WF E) (defBody st) body) : ∃ fd, FnOk P w K mg base (L2N.CX P w) (k + 1) f fd ps (spV K mg n (mkFn nl body)) ∧ Binds K fd ps [] := by
  obtain ⟨fd, F, b⟩ := F
  exact ⟨fd, fn_ok F S hps hn fun cdv A outer s H E hr => hb cdv A outer s H E hr, b⟩
section
variable {X : Cx} {W : WX} {a b c e o tg : Expr} {es : List Expr} {pos : Pos}
theorem vo_callD {k j n : Nat} {ps : List Str} {S : Fn} {x : Str} {p : Pos} {fs : Env → Res (List FV)} (D : Def X.prog X.w X.K X.mg X.base k n x ps S) (hr : Room j X.A) (hkj : k ≤ j) (tk : L2N.Takes X W) (ha : VAN X W n (e :: es) fs) (hg : Gl X x := by rfl) (hdb : (x == ("__debug__" : Str)) = false := by decide) (he : starEach (e :: es) X.env = (false, eval e X.env) :: starEach es X.env := by rfl) (hpl : (backTo pos (starEach es X.env)).any (·.1) = false := by rfl) :
    VO X W (.Call (.Name x p) (e :: es) [] pos) (vCall S fs) := by
  obtain ⟨f, fd, F, m, kp, b⟩ := D
  exact vo_call F (hr.mono hkj) m kp b tk ha hg hdb he hpl
theorem vo_makeD {k j n : Nat} {ps : List Str} {S : Fn} {x : Str} {p : Pos} {fs : Env → Res (List FV)} (D : ClsOk X.prog X.w X.K X.mg X.base k (n + 1) x ps S) (hr : Room j X.A) (hkj : k + 1 ≤ j) (tk : L2N.Takes X W) (ha : VAN X W n (e :: es) fs) (hg : Gl X x := by rfl) (hdb : (x == ("__debug__" : Str)) = false := by decide) (he : starEach (e :: es) X.env = (false, eval e X.env) :: starEach es X.env := by rfl) (hpl : (backTo pos (starEach es X.env)).any (·.1) = false := by rfl) :
    VO X W (.Call (.Name x p) (e :: es) [] pos) (vMake x S fs) := by
  obtain ⟨C, f, fd, M, F, m, b⟩ := D
  exact vo_make M F (hr.mono hkj) m b tk ha hg hdb he hpl
theorem vs_raiseE {x m : Str} {j : Nat} {p p2 p3 : Pos} (E : ExF X.K X.mg x) (hc : X.calm = true) (tk : L2N.Takes X W) (hg : Gl X x := by rfl) (hdb : (x == ("__debug__" : Str)) = false := by decide) : VS X W (.Raise (some (.Call (.Name x p) [.Constant (.str m) j p2] [] pos)) none p3) (vRaise x) := by
  obtain ⟨C, g, q, k, s, t⟩ := E
  exact vs_raise hc tk PySem.F.excBase_ValueError q g k (raises_own s t) hg hdb
theorem dqs_ints {K : PySem.W.Frag} {G : Hp} (ns : List Int) : Dqs K G (ns.map V.int) (ns.map PyData.int) := Dqs.of_ints ns
theorem vp_gtup {x : Str} {ns : List Int} (T : GTup X.K X.mg x ns) (hg : Gl X x := by rfl) (hdb : (x == ("__debug__" : Str)) = false := by decide) : VP X W (.Name x pos) (vC (.tuple (ns.map .int))) := by
  obtain ⟨a, m, q⟩ := T
  exact vp_c (v := .ref a) (pe_glob hg m rfl hdb) fun G => .tup (q G) (dqs_ints ns)

def tyN : PyData → String
  | .none => "NoneType"
  | .bool _ => "bool"
  | .int _ => "int"
  | .str _ => "str"
  | .list _ => "list"
  | .tuple _ => "tuple"
  | .dict _ => "dict"
inductive Ty4 where
  | int | bool | list | tuple
def Ty4.n : Ty4 → String
  | .int => "int" | .bool => "bool" | .list => "list" | .tuple => "tuple"
def isI : Ty4 → PyData → Bool
  | .int, .int _ => true
  | .int, .bool _ => true
  | .bool, .bool _ => true
  | .list, .list _ => true
  | .tuple, .tuple _ => true
  | _, _ => false
theorem kit_isI : ∀ (T : Ty4) (p : PyData), (∀ l, p ≠ .dict l) → kitB (tyN p) T.n = some (isI T p) := by
  intro T p h
  cases T <;> cases p <;> first
    | exact absurd rfl (h _)
    | (show kitB _ _ = some _; simp only [tyN, Ty4.n, isI]; decide +kernel)
theorem Dr.ty {K : PySem.W.Frag} {G H : Hp} {v : V} {p : PyData} (s : Same G H) (h : Dr K G H v p) : TyX K H v (.type (tyN p)) ∧ ∀ l, p ≠ .dict l := by
  cases h with
  | fz h =>
    cases h with
    | non => exact ⟨.base .non, fun l q => by cases q⟩
    | bl b => exact ⟨.base (.bl b), fun l q => by cases q⟩
    | int b => exact ⟨.base (.int b), fun l q => by cases q⟩
    | str b => exact ⟨.base (.str b), fun l q => by cases q⟩
    | lst h t => exact ⟨.base (.lst (s _ _ h)), fun l q => by cases q⟩
    | tup h t =>
      refine ⟨?_, fun l q => by cases q⟩
      rcases h with (h | ⟨o, h⟩) | ⟨o, its, n, hk, hc, _⟩
      · exact .base (.tup (s _ _ h))
      · exact .fTuple (s _ _ h)
      · exact .kTuple hk hc
  | top h t => exact ⟨.base (.lst h), fun l q => by cases q⟩
theorem vp_isi (T : Ty4) {f : FD} {x : Str} {p p2 : Pos} (hx : bootBuiltins x = some (.type T.n)) (hmx : X.mg x = none) (hm : X.mg "isinstance" = none) (ha : VD X W a f) (hgx : Gl X x) (hnx : x ≠ "__name__") (hdx : (x == ("__debug__" : Str)) = false) (hg : Gl X "isinstance" := by rfl)
    (he : starEach [a, .Name x p2] X.env = (false, eval a X.env) :: starEach [.Name x p2] X.env := by rfl) (he2 : starEach [.Name x p2] X.env = (false, eval (.Name x p2) X.env) :: starEach [] X.env := by rfl) (hpl : (backTo pos (starEach [.Name x p2] X.env)).any (·.1) = false := by rfl) : VP X W (.Call (.Name "isinstance" p) [a, .Name x p2] [] pos) (v1 (fun y => iB (isI T y)) f) :=
  pe_imp (pe_callB call_isi hg hm boot_isinstance (pa_cons ha (pa_cons (pe_bltn (v := .ty T.n) hgx hmx hx rfl hnx hdx) pa_nil he2) he) (by decide) (by decide) he hpl) fun σ H Q ⟨G, env, fp, pv, rs, w⟩ => ⟨G, env, fp, pv, rs, PostR.seq w fun y w v G1 H1 e1 q1 => by
    obtain ⟨t, nd⟩ := q1.ty e1.s
    exact ⟨v, .ty T.n, _, _, _, rfl, .ty _, t, kit_ty (kit_isI T y nd), jP.bool e1.s (jP.ext e1 w)⟩⟩
noncomputable def lrg2 : PyData → PyData → Res SV
  | .int i, .int j => cIf (0 ≤ i ∧ i ≤ 16777216 ∧ 0 ≤ j ∧ j ≤ 16777216) (.ok (SV.dl (rngP i (j - i).toNat))) .bad
  | _, _ => .bad
theorem tk_body {P : Program} {w : World} {K : PySem.W.Frag} {mg : Str → Option Value} {base : Heap} {N : List Str} {qual : Str} {scope : Scope} {f : Addr} {cdv : Value} {A : Around} {outer : List PySem.Env} {s : Shared} {H : Hp} {E : XK} :
    L2N.Takes (cxOf (L2N.CX P w) P w K mg base N qual scope f cdv A outer s H E) (WF E) := L2N.takes_of rfl rfl rfl rfl
end

def spLaw (K : PySem.W.Frag) : Sp := fun vs H Q _ => ∃ (a : Addr) (ns : List Int), vs = [.ref a] ∧ SqL K H a (ns.map V.int) ∧ ns.length ≤ 63 ∧ ∀ H', Q (.bl true) H'
theorem law_ok {P : Program} {w : World} {K : PySem.W.Frag} {mg : Str → Option Value} {base : Heap} {k : Nat} {f : Addr} {fd : FuncData} {S : Fn} (F : FnOk P w K mg base (L2N.CX P w) k f fd ["script"] (spV K mg 1 S))
    (h : ∀ ns : List Int, ns.length ≤ 63 → ∃ a, S [.va (.f (.sc ns))] = .ret (.f (.d (.bool true))) a) : FnOk P w K mg base (L2N.CX P w) k f fd ["script"] (spLaw K) :=
  F.imp fun vs H Q E ⟨a, ns, e, hs, hl, q⟩ => by
    subst e
    obtain ⟨as, hS⟩ := h ns hl
    have rs : RS K mg H [some (.ref a)] [.va (.f (.sc ns))] H (fun _ => []) (fun _ => .non) := RS.args (vs := [.ref a]) (xs := [.sc ns]) (Same.refl H) (.cons (.sc hs) .nil)
    refine ⟨rfl, H, [.va (.f (.sc ns))], fun _ => [], fun _ => .non, rs, ?_⟩
    rw [hS]
    intro v G' H' fp' r st rs' ow nd fr
    have e : v = .bl true := by
      cases ow with
      | f q => cases q with | d q => cases q; rfl
    subst e
    exact q H'
end VL

set_option Elab.async false
set_option linter.all false
set_option maxRecDepth 100000
set_option maxHeartbeats 4000000
namespace VL
open PySem PySem.Spec PyProof.Rows L2

inductive Pst where
  | fld (cn n : Str)
  | ix (i : Int)
def stepS : SV → Pst → Option SV
  | .obj c fs, .fld cn n => if c = cn then fs.lookup n else none
  | .own xs, .ix i => atI xs i
  | .otup xs, .ix i => atI xs i
  | _, _ => none
def subS : SV → List Pst → Option SV
  | s, [] => some s
  | s, p :: ps => (stepS s p).bind fun t => subS t ps
def setIx (xs : List SV) (i : Int) (t : SV) : List SV := match ixN xs.length i with
  | some j => xs.set j t
  | none => xs
def setS1 : SV → Pst → SV → SV
  | .obj c fs, .fld _ n, t => .obj c (putS n t fs)
  | .own xs, .ix i, t => .own (setIx xs i t)
  | .otup xs, .ix i, t => .otup (setIx xs i t)
  | s, _, _ => s
def updS : SV → List Pst → SV → SV
  | _, [], t => t
  | s, p :: ps, t => match stepS s p with
    | some u => setS1 s p (updS u ps t)
    | none => s
def stepV (H : Hp) : V → Pst → Option V
  | .ref a, .fld _ n => match H a with
    | some (.ins _ _ vs) => vs.lookup n
    | _ => none
  | .ref a, .ix i => match H a with
    | some (.lst vs) => atI vs i
    | some (.tup vs) => atI vs i
    | _ => none
  | _, _ => none
def reach (H : Hp) : V → List Pst → Option V
  | v, [] => some v
  | v, p :: ps => (stepV H v p).bind fun w => reach H w ps
theorem subS_snoc : ∀ (s : SV) (ps : List Pst) (p : Pst), subS s (ps ++ [p]) = (subS s ps).bind fun t => stepS t p
  | s, [], p => by
    show (stepS s p).bind (fun t => some t) = stepS s p
    cases stepS s p <;> rfl
  | s, q :: ps, p => by
    show (stepS s q).bind (fun t => subS t (ps ++ [p])) = ((stepS s q).bind fun t => subS t ps).bind _
    cases stepS s q with
    | none => rfl
    | some t => exact subS_snoc t ps p
theorem reach_snoc (H : Hp) : ∀ (v : V) (ps : List Pst) (p : Pst), reach H v (ps ++ [p]) = (reach H v ps).bind fun t => stepV H t p
  | v, [], p => by
    show (stepV H v p).bind (fun t => some t) = stepV H v p
    cases stepV H v p <;> rfl
  | v, q :: ps, p => by
    show (stepV H v q).bind (fun t => reach H t (ps ++ [p])) = ((stepV H v q).bind fun t => reach H t ps).bind _
    cases stepV H v q with
    | none => rfl
    | some t => exact reach_snoc H t ps p
theorem stepV_same {H H' : Hp} (e : Same H H') {v w : V} {p : Pst} (h : stepV H v p = some w) : stepV H' v p = some w := by
  cases v with
  | ref a =>
    cases p with
    | fld c n =>
      have h' : (match H a with | some (.ins _ _ vs) => vs.lookup n | _ => none) = some w := h
      show (match H' a with | some (.ins _ _ vs) => vs.lookup n | _ => none) = some w
      cases z : H a with
      | none => rw [z] at h'; cases h'
      | some o => rw [e _ _ z]; rw [z] at h'; exact h'
    | ix i =>
      have h' : (match H a with | some (.lst vs) => atI vs i | some (.tup vs) => atI vs i | _ => none) = some w := h
      show (match H' a with | some (.lst vs) => atI vs i | some (.tup vs) => atI vs i | _ => none) = some w
      cases z : H a with
      | none => rw [z] at h'; cases h'
      | some o => rw [e _ _ z]; rw [z] at h'; exact h'
  | _ => cases p <;> cases h
theorem reach_same {H H' : Hp} (e : Same H H') : ∀ {ps : List Pst} {v u : V}, reach H v ps = some u → reach H' v ps = some u
  | [], _, _, h => h
  | p :: ps, v, u, h => by
    have h' : (stepV H v p).bind (fun w => reach H w ps) = some u := h
    show (stepV H' v p).bind (fun w => reach H' w ps) = some u
    cases z : stepV H v p with
    | none => rw [z] at h'; cases h'
    | some w =>
      rw [z] at h'
      rw [stepV_same e z]
      exact reach_same e h'
theorem setIx_eq {xs : List SV} {i : Int} {j : Nat} {t : SV} (h : ixN xs.length i = some j) : setIx xs i t = xs.set j t := by
  unfold setIx
  rw [h]
section
variable {K : PySem.W.Frag} {mg : Str → Option Value} {G G' H H' : Hp}
theorem Ows.len : ∀ {vs : List V} {xs : List SV} {r : List Addr}, Ows K mg G H vs xs r → vs.length = xs.length
  | _, _, _, .nil => rfl
  | _, _, _, .cons _ t => congrArg (· + 1) (Ows.len t)
theorem Ows.see : ∀ {vs : List V} {xs : List SV} {r : List Addr} {j : Nat} {s : SV}, Ows K mg G H vs xs r → xs[j]? = some s → ∃ w r1, vs[j]? = some w ∧ Ow K mg G H w s r1 ∧ ∀ a ∈ r1, a ∈ r
  | _, _, _, _, _, .nil, h => by simp at h
  | _, _, _, 0, s, @Ows.cons _ _ _ _ v vs x xs r rs h t, e => by
    have e' : x = s := by simpa using e
    subst e'
    exact ⟨v, r, rfl, h, fun a m => List.mem_append_left _ m⟩
  | _, _, _, j + 1, s, @Ows.cons _ _ _ _ v vs x xs r rs h t, e => by
    obtain ⟨w, r1, h1, h2, h3⟩ := Ows.see (j := j) t (by simpa using e)
    exact ⟨w, r1, by simpa using h1, h2, fun a m => List.mem_append_right _ (h3 a m)⟩
theorem Owf.see {n : Str} : ∀ {vs : List (Str × V)} {fs : List (Str × SV)} {r : List Addr} {s : SV}, Owf K mg G H vs fs r → fs.lookup n = some s → ∃ w r1, vs.lookup n = some w ∧ Ow K mg G H w s r1 ∧ ∀ a ∈ r1, a ∈ r
  | _, _, _, _, .nil, h => by cases h
  | _, _, _, s, @Owf.cons _ _ _ _ m v vs x xs r rs h t, e => by
    by_cases q : (n == m) = true
    · simp only [List.lookup, q] at e ⊢
      cases e
      exact ⟨v, r, rfl, h, fun a m => List.mem_append_left _ m⟩
    · have q' : (n == m) = false := by simpa using q
      simp only [List.lookup, q'] at e ⊢
      obtain ⟨w, r1, h1, h2, h3⟩ := Owf.see (n := n) t e
      exact ⟨w, r1, h1, h2, fun a m => List.mem_append_right _ (h3 a m)⟩
theorem atI_ex {α : Type} {xs : List α} {i : Int} {t : α} (h : atI xs i = some t) : ∃ j, ixN xs.length i = some j ∧ xs[j]? = some t := by
  unfold atI at h
  cases z : ixN xs.length i with
  | none => rw [z] at h; cases h
  | some j => rw [z] at h; exact ⟨j, rfl, h⟩
theorem atI_of {α : Type} {xs : List α} {i : Int} {t : α} {j : Nat} (h : ixN xs.length i = some j) (e : xs[j]? = some t) : atI xs i = some t := by
  unfold atI
  rw [h]
  exact e
theorem Ow.see1 {v : V} {s t : SV} {r : List Addr} {p : Pst} (h : Ow K mg G H v s r) (e : stepS s p = some t) : ∃ w r1, stepV H v p = some w ∧ Ow K mg G H w t r1 ∧ ∀ a ∈ r1, a ∈ r := by
  cases h with
  | f h => cases p <;> cases e
  | @own a vs xs r hH o =>
    cases p with
    | fld c n => cases e
    | ix i =>
      obtain ⟨j, h1, h2⟩ := atI_ex (show atI xs i = some t from e)
      obtain ⟨w, r1, k1, k2, k3⟩ := o.see h2
      refine ⟨w, r1, ?_, k2, fun a m => List.mem_cons_of_mem _ (k3 a m)⟩
      show (match H a with | some (.lst vs) => atI vs i | some (.tup vs) => atI vs i | _ => none) = some w
      rw [hH]
      exact atI_of (by rw [o.len]; exact h1) k1
  | @otup a vs xs r hH o =>
    cases p with
    | fld c n => cases e
    | ix i =>
      obtain ⟨j, h1, h2⟩ := atI_ex (show atI xs i = some t from e)
      obtain ⟨w, r1, k1, k2, k3⟩ := o.see h2
      refine ⟨w, r1, ?_, k2, fun a m => List.mem_cons_of_mem _ (k3 a m)⟩
      show (match H a with | some (.lst vs) => atI vs i | some (.tup vs) => atI vs i | _ => none) = some w
      rw [hH]
      exact atI_of (by rw [o.len]; exact h1) k1
  | @obj a C dx c vs fs r m hH o =>
    cases p with
    | ix i => cases e
    | fld cn n =>
      have e' : (if c = cn then fs.lookup n else none) = some t := e
      by_cases ec : c = cn
      · rw [if_pos ec] at e'
        obtain ⟨w, r1, k1, k2, k3⟩ := o.see e'
        refine ⟨w, r1, ?_, k2, fun a m => List.mem_cons_of_mem _ (k3 a m)⟩
        show (match H a with | some (.ins _ _ vs) => vs.lookup n | _ => none) = some w
        rw [hH]
        exact k1
      · rw [if_neg ec] at e'; cases e'
theorem Ow.see : ∀ {ps : List Pst} {v : V} {s t : SV} {r : List Addr}, Ow K mg G H v s r → subS s ps = some t → ∃ u r1, reach H v ps = some u ∧ Ow K mg G H u t r1 ∧ ∀ a ∈ r1, a ∈ r
  | [], v, s, t, r, h, e => by
    have e' : s = t := Option.some.inj e
    subst e'
    exact ⟨v, r, rfl, h, fun a m => m⟩
  | p :: ps, v, s, t, r, h, e => by
    have e' : (stepS s p).bind (fun t => subS t ps) = some t := e
    cases z : stepS s p with
    | none => rw [z] at e'; cases e'
    | some s1 =>
      rw [z] at e'
      obtain ⟨w, r1, h1, h2, h3⟩ := h.see1 z
      obtain ⟨u, r2, k1, k2, k3⟩ := Ow.see (ps := ps) h2 e'
      refine ⟨u, r2, ?_, k2, fun a m => h3 a (k3 a m)⟩
      show (stepV H v p).bind (fun w => reach H w ps) = some u
      rw [h1]
      exact k1

structure Exch (K : PySem.W.Frag) (mg : Str → Option Value) (G H G' H' : Hp) (r r1 : List Addr) (w' : V) (s' : SV) (r1' : List Addr) : Prop where
  g : Same G G'
  h : ∀ a ∈ r, a ∉ r1 → H' a = H a
  ow : Ow K mg G' H' w' s' r1'
  nd : r1'.Nodup
  sub : ∀ a ∈ r1', a ∈ r1 ∨ a ∉ r
theorem Ows.exch : ∀ {vs : List V} {xs : List SV} {r : List Addr} {j : Nat} {s : SV}, Ows K mg G H vs xs r → r.Nodup → xs[j]? = some s → ∃ w r1, vs[j]? = some w ∧ Ow K mg G H w s r1 ∧ r1.Nodup ∧ (∀ a ∈ r1, a ∈ r) ∧
    ∀ {w' G' H' s' r1'}, Exch K mg G H G' H' r r1 w' s' r1' → ∃ r', Ows K mg G' H' (vs.set j w') (xs.set j s') r' ∧ r'.Nodup ∧ ∀ a ∈ r', a ∈ r1' ∨ (a ∈ r ∧ a ∉ r1)
  | _, _, _, _, _, .nil, _, h => by simp at h
  | _, _, _, 0, s, @Ows.cons _ _ _ _ v vs x xs r rs h t, nd, e => by
    have e' : x = s := by simpa using e
    subst e'
    have n1 := List.nodup_append.mp nd
    refine ⟨v, r, rfl, h, n1.1, fun a m => List.mem_append_left _ m, fun {w' G' H' s' r1'} X => ⟨r1' ++ rs, ?_, ?_, fun a m => ?_⟩⟩
    · exact .cons X.ow (t.mono X.g fun a m => X.h a (List.mem_append_right _ m) fun m2 => n1.2.2 a m2 a m rfl)
    · refine List.nodup_append.mpr ⟨X.nd, n1.2.1, fun a m1 b m2 q => ?_⟩
      subst q
      rcases X.sub a m1 with z | z
      · exact n1.2.2 a z a m2 rfl
      · exact z (List.mem_append_right _ m2)
    · rcases List.mem_append.mp m with q | q
      · exact .inl q
      · exact .inr ⟨List.mem_append_right _ q, fun m2 => n1.2.2 a m2 a q rfl⟩
  | _, _, _, j + 1, s, @Ows.cons _ _ _ _ v vs x xs r rs h t, nd, e => by
    have n1 := List.nodup_append.mp nd
    obtain ⟨w, r1, k1, k2, k3, k4, k5⟩ := Ows.exch (j := j) t n1.2.1 (by simpa using e)
    refine ⟨w, r1, by simpa using k1, k2, k3, fun a m => List.mem_append_right _ (k4 a m), fun {w' G' H' s' r1'} X => ?_⟩
    obtain ⟨r', o', nd', s'⟩ := k5 (w' := w') ⟨X.g, fun a m => X.h a (List.mem_append_right _ m), X.ow, X.nd, fun a m => (X.sub a m).imp id fun q m2 => q (List.mem_append_right _ m2)⟩
    refine ⟨r ++ r', ?_, ?_, fun a m => ?_⟩
    · exact .cons (h.mono X.g fun a m => X.h a (List.mem_append_left _ m) fun m2 => n1.2.2 a m a (k4 a m2) rfl) o'
    · refine List.nodup_append.mpr ⟨n1.1, nd', fun a m1 b m2 q => ?_⟩
      subst q
      rcases s' a m2 with z | z
      · rcases X.sub a z with q | q
        · exact n1.2.2 a m1 a (k4 a q) rfl
        · exact q (List.mem_append_left _ m1)
      · exact n1.2.2 a m1 a z.1 rfl
    · rcases List.mem_append.mp m with q | q
      · exact .inr ⟨List.mem_append_left _ q, fun m2 => n1.2.2 a q a (k4 a m2) rfl⟩
      · rcases s' a q with z | z
        · exact .inl z
        · exact .inr ⟨List.mem_append_right _ z.1, z.2⟩
theorem Owf.exch {n : Str} : ∀ {vs : List (Str × V)} {fs : List (Str × SV)} {r : List Addr} {s : SV}, Owf K mg G H vs fs r → r.Nodup → fs.lookup n = some s → ∃ w r1, vs.lookup n = some w ∧ Ow K mg G H w s r1 ∧ r1.Nodup ∧ (∀ a ∈ r1, a ∈ r) ∧
    ∀ {G' H' s' r1'}, Exch K mg G H G' H' r r1 w s' r1' → ∃ r', Owf K mg G' H' vs (putS n s' fs) r' ∧ r'.Nodup ∧ ∀ a ∈ r', a ∈ r1' ∨ (a ∈ r ∧ a ∉ r1)
  | _, _, _, _, .nil, _, h => by cases h
  | _, _, _, s, @Owf.cons _ _ _ _ m v vs x xs r rs h t, nd, e => by
    have n1 := List.nodup_append.mp nd
    by_cases q : (n == m) = true
    · have qe : m = n := (beq_iff_eq.mp q).symm
      simp only [List.lookup, q] at e ⊢
      cases e
      refine ⟨v, r, rfl, h, n1.1, fun a m => List.mem_append_left _ m, fun {G' H' s' r1'} X => ⟨r1' ++ rs, ?_, ?_, fun a m => ?_⟩⟩
      · show Owf K mg G' H' ((m, v) :: vs) (if m = n then (m, s') :: xs else (m, _) :: putS n s' xs) _
        rw [if_pos qe]
        exact .cons X.ow (t.mono X.g fun a m => X.h a (List.mem_append_right _ m) fun m2 => n1.2.2 a m2 a m rfl)
      · refine List.nodup_append.mpr ⟨X.nd, n1.2.1, fun a m1 b m2 q => ?_⟩
        subst q
        rcases X.sub a m1 with z | z
        · exact n1.2.2 a z a m2 rfl
        · exact z (List.mem_append_right _ m2)
      · rcases List.mem_append.mp m with q | q
        · exact .inl q
        · exact .inr ⟨List.mem_append_right _ q, fun m2 => n1.2.2 a m2 a q rfl⟩
    · have q' : (n == m) = false := by simpa using q
      have qn : ¬ m = n := fun z => by rw [z] at q'; simp at q'
      simp only [List.lookup, q'] at e ⊢
      obtain ⟨w, r1, k1, k2, k3, k4, k5⟩ := Owf.exch (n := n) t n1.2.1 e
      refine ⟨w, r1, k1, k2, k3, fun a m => List.mem_append_right _ (k4 a m), fun {G' H' s' r1'} X => ?_⟩
      obtain ⟨r', o', nd', s'⟩ := k5 ⟨X.g, fun a m => X.h a (List.mem_append_right _ m), X.ow, X.nd, fun a m => (X.sub a m).imp id fun q m2 => q (List.mem_append_right _ m2)⟩
      refine ⟨r ++ r', ?_, ?_, fun a m => ?_⟩
      · show Owf K mg G' H' ((m, v) :: vs) (if m = n then _ else (m, x) :: putS n _ xs) _
        rw [if_neg qn]
        exact .cons (h.mono X.g fun a m => X.h a (List.mem_append_left _ m) fun m2 => n1.2.2 a m a (k4 a m2) rfl) o'
      · refine List.nodup_append.mpr ⟨n1.1, nd', fun a m1 b m2 q => ?_⟩
        subst q
        rcases s' a m2 with z | z
        · rcases X.sub a z with q | q
          · exact n1.2.2 a m1 a (k4 a q) rfl
          · exact q (List.mem_append_left _ m1)
        · exact n1.2.2 a m1 a z.1 rfl
      · rcases List.mem_append.mp m with q | q
        · exact .inr ⟨List.mem_append_left _ q, fun m2 => n1.2.2 a q a (k4 a m2) rfl⟩
        · rcases s' a q with z | z
          · exact .inl z
          · exact .inr ⟨List.mem_append_right _ z.1, z.2⟩
theorem set_self {α : Type} : ∀ {l : List α} {j : Nat} {a : α}, l[j]? = some a → l.set j a = l
  | [], _, _, h => by simp at h
  | x :: l, 0, a, h => by simp at h; subst h; rfl
  | x :: l, j + 1, a, h => by
    show x :: l.set j a = x :: l
    rw [set_self (by simpa using h)]
theorem Ow.exch : ∀ {ps : List Pst} {v : V} {s t : SV} {r : List Addr}, Ow K mg G H v s r → r.Nodup → subS s ps = some t → ∃ u r1, reach H v ps = some u ∧ Ow K mg G H u t r1 ∧ r1.Nodup ∧ (∀ a ∈ r1, a ∈ r) ∧
    ∀ {G' H' t' r1'}, Exch K mg G H G' H' r r1 u t' r1' → ∃ r', Ow K mg G' H' v (updS s ps t') r' ∧ r'.Nodup ∧ ∀ a ∈ r', a ∈ r1' ∨ (a ∈ r ∧ a ∉ r1)
  | [], v, s, t, r, h, nd, e => by
    have e' : s = t := Option.some.inj e
    subst e'
    exact ⟨v, r, rfl, h, nd, fun a m => m, fun {G' H' t' r1'} X => ⟨r1', X.ow, X.nd, fun a m => .inl m⟩⟩
  | p :: ps, v, s, t, r, h, nd, e => by
    have e' : (stepS s p).bind (fun t => subS t ps) = some t := e
    cases z : stepS s p with
    | none => rw [z] at e'; cases e'
    | some s1 =>
      rw [z] at e'
      have hu : ∀ t', updS s (p :: ps) t' = setS1 s p (updS s1 ps t') := fun t' => by
        show (match stepS s p with | some u => setS1 s p (updS u ps t') | none => s) = _
        rw [z]
      cases h with
      | f h => cases p <;> cases z
      | @own a vs xs r hH o =>
        cases p with
        | fld c n => cases z
        | ix i =>
          have n1 := List.nodup_cons.mp nd
          obtain ⟨j, h1, h2⟩ := atI_ex (show atI xs i = some s1 from z)
          obtain ⟨w, r1, k1, k2, k3, k4, k5⟩ := o.exch n1.2 h2
          obtain ⟨u, r2, l1, l2, l3, l4, l5⟩ := Ow.exch (ps := ps) k2 k3 e'
          refine ⟨u, r2, ?_, l2, l3, fun b m => List.mem_cons_of_mem _ (k4 b (l4 b m)), fun {G' H' t' r2'} X => ?_⟩
          · show (match H a with | some (.lst vs) => atI vs i | some (.tup vs) => atI vs i | _ => none).bind _ = some u
            rw [hH]
            show (atI vs i).bind _ = some u
            rw [atI_of (by rw [o.len]; exact h1) k1]
            exact l1
          · obtain ⟨r1', q1, q2, q3⟩ := l5 ⟨X.g, fun b m n => X.h b (List.mem_cons_of_mem _ (k4 b m)) n, X.ow, X.nd, fun b m => (X.sub b m).imp id fun q m2 => q (List.mem_cons_of_mem _ (k4 b m2))⟩
            obtain ⟨r', p1, p2, p3⟩ := k5 (w' := w) ⟨X.g, fun b m n => X.h b (List.mem_cons_of_mem _ m) (fun m2 => n (l4 b m2)), q1, q2, fun b m => by
              rcases q3 b m with q | q
              · rcases X.sub b q with y | y
                · exact .inl (l4 b y)
                · exact .inr fun m2 => y (List.mem_cons_of_mem _ m2)
              · exact .inl q.1⟩
            have sub' : ∀ b ∈ r', b ∈ r2' ∨ (b ∈ r ∧ b ∉ r2) := fun b m => by
              rcases p3 b m with q | q
              · rcases q3 b q with y | y
                · exact .inl y
                · exact .inr ⟨k4 b y.1, y.2⟩
              · exact .inr ⟨q.1, fun m2 => q.2 (l4 b m2)⟩
            have ar' : a ∉ r' := fun m => by
              rcases sub' a m with q | q
              · rcases X.sub a q with y | y
                · exact n1.1 (k4 a (l4 a y))
                · exact y List.mem_cons_self
              · exact n1.1 q.1
            refine ⟨a :: r', ?_, List.nodup_cons.mpr ⟨ar', p2⟩, fun b m => ?_⟩
            · rw [hu, show setS1 (.own xs) (.ix i) (updS s1 ps t') = .own (setIx xs i (updS s1 ps t')) from rfl, setIx_eq h1]
              refine .own ?_ p1
              rw [set_self k1, X.h a List.mem_cons_self fun m => n1.1 (k4 a (l4 a m))]
              exact hH
            · rcases List.mem_cons.mp m with rfl | m
              · exact .inr ⟨List.mem_cons_self, fun m => n1.1 (k4 _ (l4 _ m))⟩
              · exact (sub' b m).imp id fun q => ⟨List.mem_cons_of_mem _ q.1, q.2⟩
      | @otup a vs xs r hH o =>
        cases p with
        | fld c n => cases z
        | ix i =>
          have n1 := List.nodup_cons.mp nd
          obtain ⟨j, h1, h2⟩ := atI_ex (show atI xs i = some s1 from z)
          obtain ⟨w, r1, k1, k2, k3, k4, k5⟩ := o.exch n1.2 h2
          obtain ⟨u, r2, l1, l2, l3, l4, l5⟩ := Ow.exch (ps := ps) k2 k3 e'
          refine ⟨u, r2, ?_, l2, l3, fun b m => List.mem_cons_of_mem _ (k4 b (l4 b m)), fun {G' H' t' r2'} X => ?_⟩
          · show (match H a with | some (.lst vs) => atI vs i | some (.tup vs) => atI vs i | _ => none).bind _ = some u
            rw [hH]
            show (atI vs i).bind _ = some u
            rw [atI_of (by rw [o.len]; exact h1) k1]
            exact l1
          · obtain ⟨r1', q1, q2, q3⟩ := l5 ⟨X.g, fun b m n => X.h b (List.mem_cons_of_mem _ (k4 b m)) n, X.ow, X.nd, fun b m => (X.sub b m).imp id fun q m2 => q (List.mem_cons_of_mem _ (k4 b m2))⟩
            obtain ⟨r', p1, p2, p3⟩ := k5 (w' := w) ⟨X.g, fun b m n => X.h b (List.mem_cons_of_mem _ m) (fun m2 => n (l4 b m2)), q1, q2, fun b m => by
              rcases q3 b m with q | q
              · rcases X.sub b q with y | y
                · exact .inl (l4 b y)
                · exact .inr fun m2 => y (List.mem_cons_of_mem _ m2)
              · exact .inl q.1⟩
            have sub' : ∀ b ∈ r', b ∈ r2' ∨ (b ∈ r ∧ b ∉ r2) := fun b m => by
              rcases p3 b m with q | q
              · rcases q3 b q with y | y
                · exact .inl y
                · exact .inr ⟨k4 b y.1, y.2⟩
              · exact .inr ⟨q.1, fun m2 => q.2 (l4 b m2)⟩
            have ar' : a ∉ r' := fun m => by
              rcases sub' a m with q | q
              · rcases X.sub a q with y | y
                · exact n1.1 (k4 a (l4 a y))
                · exact y List.mem_cons_self
              · exact n1.1 q.1
            refine ⟨a :: r', ?_, List.nodup_cons.mpr ⟨ar', p2⟩, fun b m => ?_⟩
            · rw [hu, show setS1 (.otup xs) (.ix i) (updS s1 ps t') = .otup (setIx xs i (updS s1 ps t')) from rfl, setIx_eq h1]
              refine .otup ?_ p1
              rw [set_self k1, X.h a List.mem_cons_self fun m => n1.1 (k4 a (l4 a m))]
              exact hH
            · rcases List.mem_cons.mp m with rfl | m
              · exact .inr ⟨List.mem_cons_self, fun m => n1.1 (k4 _ (l4 _ m))⟩
              · exact (sub' b m).imp id fun q => ⟨List.mem_cons_of_mem _ q.1, q.2⟩
      | @obj a C dx c vs fs r m hH o =>
        cases p with
        | ix i => cases z
        | fld cn n =>
          have n1 := List.nodup_cons.mp nd
          have z' : (if c = cn then fs.lookup n else none) = some s1 := z
          by_cases ec : c = cn
          · rw [if_pos ec] at z'
            obtain ⟨w, r1, k1, k2, k3, k4, k5⟩ := o.exch n1.2 z'
            obtain ⟨u, r2, l1, l2, l3, l4, l5⟩ := Ow.exch (ps := ps) k2 k3 e'
            refine ⟨u, r2, ?_, l2, l3, fun b m => List.mem_cons_of_mem _ (k4 b (l4 b m)), fun {G' H' t' r2'} X => ?_⟩
            · show (match H a with | some (.ins _ _ vs) => vs.lookup n | _ => none).bind _ = some u
              rw [hH]
              show (vs.lookup n).bind _ = some u
              rw [k1]
              exact l1
            · obtain ⟨r1', q1, q2, q3⟩ := l5 ⟨X.g, fun b m n => X.h b (List.mem_cons_of_mem _ (k4 b m)) n, X.ow, X.nd, fun b m => (X.sub b m).imp id fun q m2 => q (List.mem_cons_of_mem _ (k4 b m2))⟩
              obtain ⟨r', p1, p2, p3⟩ := k5 ⟨X.g, fun b m n => X.h b (List.mem_cons_of_mem _ m) (fun m2 => n (l4 b m2)), q1, q2, fun b m => by
                rcases q3 b m with q | q
                · rcases X.sub b q with y | y
                  · exact .inl (l4 b y)
                  · exact .inr fun m2 => y (List.mem_cons_of_mem _ m2)
                · exact .inl q.1⟩
              have sub' : ∀ b ∈ r', b ∈ r2' ∨ (b ∈ r ∧ b ∉ r2) := fun b m => by
                rcases p3 b m with q | q
                · rcases q3 b q with y | y
                  · exact .inl y
                  · exact .inr ⟨k4 b y.1, y.2⟩
                · exact .inr ⟨q.1, fun m2 => q.2 (l4 b m2)⟩
              have ar' : a ∉ r' := fun m => by
                rcases sub' a m with q | q
                · rcases X.sub a q with y | y
                  · exact n1.1 (k4 a (l4 a y))
                  · exact y List.mem_cons_self
                · exact n1.1 q.1
              refine ⟨a :: r', ?_, List.nodup_cons.mpr ⟨ar', p2⟩, fun b m => ?_⟩
              · rw [hu]
                exact .obj m ((X.h a List.mem_cons_self fun m => n1.1 (k4 a (l4 a m))).trans hH) p1
              · rcases List.mem_cons.mp m with rfl | m
                · exact .inr ⟨List.mem_cons_self, fun m => n1.1 (k4 _ (l4 _ m))⟩
                · exact (sub' b m).imp id fun q => ⟨List.mem_cons_of_mem _ q.1, q.2⟩
          · rw [if_neg ec] at z'; cases z'
end
end VL

set_option Elab.async false
set_option linter.all false
set_option maxRecDepth 100000
set_option maxHeartbeats 4000000
namespace VL
open PySem PySem.Spec PyProof.Rows L2

def rd (e : Env) (i : Nat) : Option SV := match e[i]? with
  | some (.va s) => some s
  | some (.rf s) => some s
  | some (.vw s) => some s
  | _ => none
abbrev Plc := Nat × List Pst × SV
def AtP (σ : L2.St) (env : Env) (H : Hp) (x : Plc) (u : V) : Prop := ∃ s v, rd env x.1 = some s ∧ subS s x.2.1 = some x.2.2 ∧ σ[x.1]? = some (some v) ∧ reach H v x.2.1 = some u
section
variable {K : PySem.W.Frag} {mg : Str → Option Value} {G G' H H' : Hp} {fp : Nat → List Addr} {σ : L2.St} {env : Env} {pv : Nat → V}
theorem RS.rd (h : RS K mg G σ env H fp pv) {i : Nat} {s : SV} (z : rd env i = some s) : ∃ v r, σ[i]? = some (some v) ∧ Ow K mg G H v s r := by
  unfold VL.rd at z
  cases q : env[i]? with
  | none => rw [q] at z; cases z
  | some u =>
    rw [q] at z
    cases u with
    | no => cases z
    | va u =>
      cases z
      obtain ⟨v, e1, o⟩ := h.rel i _ q
      exact ⟨v, _, e1, o⟩
    | rf u =>
      cases z
      obtain ⟨e1, o⟩ := h.rel i _ q
      exact ⟨_, _, e1, o⟩
    | vw u =>
      cases z
      obtain ⟨_, v, r, e1, o⟩ := h.rel i _ q
      exact ⟨v, r, e1, o⟩
theorem AtP.ow {x : Plc} {u : V} (rs : RS K mg G σ env H fp pv) (a : AtP σ env H x u) : ∃ r, Ow K mg G H u x.2.2 r := by
  obtain ⟨s, v, h1, h2, h3, h4⟩ := a
  obtain ⟨v', r, e1, o⟩ := rs.rd h1
  rw [h3] at e1
  cases e1
  obtain ⟨u', r1, e2, o2, _⟩ := o.see h2
  rw [h4] at e2
  cases e2
  exact ⟨r1, o2⟩
theorem AtP.same {x : Plc} {u : V} (e : Same H H') (a : AtP σ env H x u) : AtP σ env H' x u := by
  obtain ⟨s, v, h1, h2, h3, h4⟩ := a
  exact ⟨s, v, h1, h2, h3, reach_same e h4⟩
def plS (p : Pst) (x : Plc) : Res Plc := match stepS x.2.2 p with
  | some t => .ok (x.1, x.2.1 ++ [p], t)
  | none => .bad
theorem AtP.step {x : Plc} {u w : V} {p : Pst} {t : SV} (a : AtP σ env H x u) (h : stepS x.2.2 p = some t) (hv : stepV H u p = some w) : AtP σ env H (x.1, x.2.1 ++ [p], t) w := by
  obtain ⟨s, v, h1, h2, h3, h4⟩ := a
  refine ⟨s, v, h1, ?_, h3, ?_⟩
  · show subS s (x.2.1 ++ [p]) = some t
    rw [subS_snoc, h2]
    exact h
  · show reach H v (x.2.1 ++ [p]) = some w
    rw [reach_snoc, h4]
    exact hv
end
def ldS : SV → Res PyData
  | .f (.d p) => .ok p
  | .own xs => match SV.leafs xs with | some ds => .ok (.list ds) | none => .bad
  | _ => .bad
def plN (i : Nat) : Env → Res Plc := fun env => match rd env i with
  | some s => .ok (i, [], s)
  | none => .bad
def plF (cn n : Str) (f : Env → Res Plc) : Env → Res Plc := fun env => (f env).bind (plS (.fld cn n))
def plX1 (x : Plc) : PyData → Res Plc
  | .int k => plS (.ix k) x
  | _ => .bad
def plX (f : Env → Res Plc) (g : FD) : Env → Res Plc := fun env => (f env).bind fun x => (g env).bind (plX1 x)
def plP1 (x : Plc) : Res FV := match x.2.2 with
  | .f y => .ok y
  | _ => .bad
def plP (f : Env → Res Plc) : FP := fun env => (f env).bind plP1
def plD (f : Env → Res Plc) : FD := fun env => (f env).bind fun x => ldS x.2.2
def plL1 (x : Plc) : Res FV := match x.2.2 with
  | .own xs => iI xs.length
  | _ => .bad
def plL (f : Env → Res Plc) : FP := fun env => (f env).bind plL1
section
variable {X : Cx} {W : WX} {a b c e o : Expr} {es : List Expr} {pos apos cpos : Pos} {st : Stmt} {sts : List Stmt}
end

section
variable {K : PySem.W.Frag} {mg : Str → Option Value} {G H G0 H0 : Hp} {fp fp0 : Nat → List Addr} {σ : L2.St} {env : Env} {pv : Nat → V}
end

abbrev FE := Env → Out SV
def Out.bind {α β : Type} : Out α → (α → Env → Out β) → Out β
  | .ok a e, k => k a e
  | .err c, _ => .err c
  | .bad, _ => .bad
def oR {α β : Type} (r : Res α) (k : α → Out β) : Out β := match r with
  | .ok a => k a
  | .err c => .err c
  | .bad => .bad
def PostO {α : Type} (K : PySem.W.Frag) (mg : Str → Option Value) (W : WX) (σ : L2.St) (G H : Hp) (fp : Nat → List Addr) (pv : Nat → V) (k : α → Env → Hp → Hp → (Nat → List Addr) → Prop) : Out α → Prop
  | .ok a e => ∀ G' H' fp', Stp G H fp G' H' fp' → RS K mg G' σ e H' fp' pv → k a e G' H' fp'
  | .err c => ∀ C G' H', mg c = some (.ref C) → Stp G H fp G' H' (fun _ => []) → Same G' H' → W (.ref C) none σ H'
  | .bad => False
def Fresh (G' H : Hp) (fp fp' : Nat → List Addr) (r : List Addr) : Prop := ∀ a ∈ r, G' a = none ∧ (∀ i, a ∉ fp' i) ∧ (H a = none ∨ ∃ j, a ∈ fp j)
section
variable {K : PySem.W.Frag} {mg : Str → Option Value} {G H G' H' : Hp} {fp fp' : Nat → List Addr} {σ : L2.St} {env : Env} {pv : Nat → V} {W : WX}
theorem Stp.none (s : Stp G H fp G' H' fp') : Stp G H fp G' H' (fun _ => []) := s.sub fun _ _ m => by cases m
theorem PostO.step {α : Type} {k : α → Env → Hp → Hp → (Nat → List Addr) → Prop} {o : Out α} (s : Stp G H fp G' H' fp') (h : PostO K mg W σ G H fp pv k o) : PostO K mg W σ G' H' fp' pv k o := by
  cases o with
  | ok a e => exact fun G2 H2 fp2 s2 r => h G2 H2 fp2 (s.trans s2) r
  | err c => exact fun C G2 H2 m s2 q => h C G2 H2 m (s.trans s2) q
  | bad => exact h
theorem PostO.imp {α : Type} {k k' : α → Env → Hp → Hp → (Nat → List Addr) → Prop} {o : Out α} (h : PostO K mg W σ G H fp pv k o) (q : ∀ a e G' H' fp', k a e G' H' fp' → k' a e G' H' fp') : PostO K mg W σ G H fp pv k' o := by
  cases o with
  | ok a e => exact fun G2 H2 fp2 s2 r => q _ _ _ _ _ (h G2 H2 fp2 s2 r)
  | err c => exact h
  | bad => exact h
theorem PostO.seq {α β : Type} {k : β → Env → Hp → Hp → (Nat → List Addr) → Prop} {o : Out α} {g : α → Env → Out β} (h : PostO K mg W σ G H fp pv k (o.bind g)) :
    PostO K mg W σ G H fp pv (fun a e G' H' fp' => RS K mg G' σ e H' fp' pv ∧ Stp G H fp G' H' fp' ∧ PostO K mg W σ G' H' fp' pv k (g a e)) o := by
  cases o with
  | ok a e =>
    have h' : PostO K mg W σ G H fp pv k (g a e) := h
    exact fun G2 H2 fp2 s2 r => ⟨r, s2, h'.step s2⟩
  | err c => exact h
  | bad => exact h
theorem PostO.ofR {α β : Type} {k : β → Env → Hp → Hp → (Nat → List Addr) → Prop} {r : Res α} {g : α → Out β} {j : α → Prop} (rs : RS K mg G σ env H fp pv) (h : PostO K mg W σ G H fp pv k (oR r g)) (q : ∀ a, PostO K mg W σ G H fp pv k (g a) → j a) : PostR mg W σ H j r := by
  cases r with
  | ok a => exact q a h
  | err c => exact fun C H2 m s => h C G H2 m (Stp.of_ext (fp := fp) ⟨Same.refl _, s, rs.sub.trans s, fun _ _ e => .inl e⟩).none (rs.sub.trans s)
  | bad => exact h
theorem Fresh.step {G2 H2 G3 : Hp} {fp2 fp3 : Nat → List Addr} {r : List Addr} (s : Stp G H fp G2 H2 fp2) (h : Fresh G3 H2 fp2 fp3 r) : Fresh G3 H fp fp3 r := fun a m => by
  obtain ⟨a1, a2, a3⟩ := h a m
  refine ⟨a1, a2, ?_⟩
  rcases a3 with q | ⟨j, q⟩
  · exact .inl (s.trk a q)
  · exact s.f j a q
end
section
variable {X : Cx} {W : WX} {a b c e o : Expr} {es : List Expr} {pos apos cpos : Pos} {st : Stmt} {sts : List Stmt}
def eO (f : FO) : FE := fun env => oR (f env) fun s => .ok s env
def keepF : Slot → Slot
  | .va (.f x) => .va (.f x)
  | _ => .no
theorem RS.keepF {K : PySem.W.Frag} {mg : Str → Option Value} {G H G' H' : Hp} {fp fp' : Nat → List Addr} {σ : L2.St} {env : Env} {pv : Nat → V} (h : RS K mg G σ env H fp pv) (st : Stp G H fp G' H' fp') (s : Same G' H') : RS K mg G' σ (env.map VL.keepF) H' (fun _ => []) pv where
  len := by rw [List.length_map]; exact h.len
  rel := fun i s e => by
    rw [List.getElem?_map] at e
    cases z : env[i]? with
    | none => rw [z] at e; cases e
    | some t =>
      rw [z] at e
      cases e
      have r := h.rel i t z
      cases t with
      | no => rfl
      | rf _ => rfl
      | vw _ => rfl
      | va t =>
        cases t with
        | f x =>
          obtain ⟨v, e1, o⟩ := r
          refine ⟨v, e1, ?_⟩
          generalize fp i = r at o
          cases o with | f q => exact .f (q.mono st.g)
        | own _ => rfl
        | otup _ => rfl
        | obj _ _ => rfl
  nil := fun _ _ => rfl
  sub := s
  out := fun _ _ m => by cases m
  nd := fun _ => .nil
  dj := fun _ _ _ m => by cases m
def ofO {α : Type} (o : Out α) (env : Env) (k : α → Env → Flow) : Flow := match o with
  | .ok a e => k a e
  | .err c => .err c (env.map keepF)
  | .bad => .bad
theorem Post.ofO {α : Type} {K : PySem.W.Frag} {mg : Str → Option Value} {G H : Hp} {fp : Nat → List Addr} {σ : L2.St} {env : Env} {pv : Nat → V} {W : WX} {D : Ends} {o : Out α} {g : α → Env → Flow} {k : α → Env → Hp → Hp → (Nat → List Addr) → Prop} (rs : RS K mg G σ env H fp pv) (h : Post K mg W D G H fp pv (VL.ofO o env g))
    (q : ∀ a e G' H' fp', RS K mg G' σ e H' fp' pv → Stp G H fp G' H' fp' → Post K mg W D G H fp pv (g a e) → k a e G' H' fp') : PostO K mg W σ G H fp pv k o := by
  cases o with
  | ok a e => exact fun G' H' fp' st r => q a e G' H' fp' r st h
  | err c => exact fun C G' H' m st s => h C G' σ H' (fun _ => []) m st (rs.keepF st s)
  | bad => exact h
def vEx (f : FE) : ST := fun env => ofO (f env) env fun _ e => .nx e
def vSetE (i : Nat) (f : FE) : ST := fun env => ofO (f env) env fun s e => setS e i (.va s)
def vRetE (f : FE) : ST := fun env => ofO (f env) env fun s e => .rt s e
def putP (env : Env) (x : Plc) (ys : List SV) : Option Env := match tree env x.1 with
  | some (kd, t) => some ((env.map dv).set x.1 (kd.mk (updS t x.2.1 (.own ys))))
  | none => none
def oE (s : SV) : Option Env → Out SV
  | some e => .ok s e
  | none => .bad
noncomputable def vApp1 (env : Env) (x : Plc) (s : SV) : Out SV := match x.2.2 with
  | .own xs => cIf (xs.length < 16777216) (oE (.f (.d .none)) (putP env x (xs ++ [s]))) .bad
  | _ => .bad
def lstP (x : Plc) : Res Plc := match x.2.2 with
  | .own _ => .ok x
  | _ => .bad
noncomputable def vApp (f : Env → Res Plc) (g : FO) : FE := fun env => oR ((f env).bind lstP) fun x => oR (g env) fun s => vApp1 env x s
theorem oR_bind {α β γ : Type} (r : Res α) (k : α → Res β) (j : β → Out γ) : oR (r.bind k) j = oR r fun a => oR (k a) j := by cases r <;> rfl
theorem PostO.lst {β : Type} {K : PySem.W.Frag} {mg : Str → Option Value} {G H : Hp} {fp : Nat → List Addr} {σ : L2.St} {env : Env} {pv : Nat → V} {W : WX} {k : β → Env → Hp → Hp → (Nat → List Addr) → Prop} {r : Res Plc} {g : Plc → Out β} {j : Plc → Prop} (rs : RS K mg G σ env H fp pv) (h : PostO K mg W σ G H fp pv k (oR (r.bind lstP) g))
    (q : ∀ x xs, x.2.2 = .own xs → PostO K mg W σ G H fp pv k (g x) → j x) : PostR mg W σ H j r := by
  rw [oR_bind] at h
  refine PostO.ofR rs h fun x w => ?_
  unfold lstP at w
  cases z : x.2.2 with
  | own xs => rw [z] at w; exact q x xs z w
  | f _ => rw [z] at w; exact w.elim
  | otup _ => rw [z] at w; exact w.elim
  | obj _ _ => rw [z] at w; exact w.elim
end
end VL

set_option Elab.async false
set_option linter.all false
set_option maxRecDepth 100000
set_option maxHeartbeats 4000000
namespace VL
open PySem PySem.Spec PyProof.Rows L2

section
variable {X : Cx} {W : WX} {a b c e o : Expr} {es : List Expr} {pos apos cpos : Pos} {st : Stmt} {sts : List Stmt}
def fldsOnly (ps : List Pst) : Bool := ps.all fun p => match p with
  | .fld _ n => decide (n ≠ "chance")
  | .ix _ => false
def reP (e : Env) (x : Plc) : Option Plc := match rd e x.1 with
  | some t => match subS t x.2.1 with
    | some (.own xs) => some (x.1, x.2.1, .own xs)
    | _ => none
  | none => none
noncomputable def vAppE1 (x : Plc) (s : SV) (e : Env) : Out SV := match reP e x with
  | some x' => vApp1 e x' s
  | none => .bad
noncomputable def vAppE (f : Env → Res Plc) (g : FE) : FE := fun env => oR ((f env).bind lstP) fun x => if fldsOnly x.2.1 = true then (g env).bind (vAppE1 x) else .bad
def pop1 (env : Env) (x : Plc) : Out SV := match x.2.2 with
  | .own (y :: ys) => oE y (putP env x ys)
  | _ => .bad
def vPop0 (f : Env → Res Plc) : FE := fun env => oR ((f env).bind lstP) (pop1 env)
noncomputable def ins1 (env : Env) (x : Plc) (y : FV) : PyData → Out SV
  | .int k => match x.2.2 with
    | .own xs => cIf (0 ≤ k ∧ k < 9223372036854775808 ∧ xs.length < 16777216) (oE (.f (.d .none)) (putP env x (xs.take k.toNat ++ [.f y] ++ xs.drop k.toNat))) .bad
    | _ => .bad
  | _ => .bad
noncomputable def vIns (f : Env → Res Plc) (g : FD) (h : FP) : FE := fun env => oR ((f env).bind lstP) fun x => oR (g env) fun k => oR (h env) fun y => ins1 env x y k
def setI1 (env : Env) (x : Plc) (s : SV) : PyData → Flow
  | .int k => match x.2.2 with
    | .own xs => match ixN xs.length k with
      | some j => match putP env x (xs.set j s) with
        | some e => .nx e
        | none => .bad
      | none => .bad
    | _ => .bad
  | _ => .bad
def vSetI (f : Env → Res Plc) (g : FD) (h : FO) : ST := fun env => ofR (h env) env fun s => ofR ((f env).bind lstP) env fun x => ofR (g env) env fun k => setI1 env x s k
end
end VL

set_option Elab.async false
set_option linter.all false
set_option maxRecDepth 100000
set_option maxHeartbeats 4000000
namespace VL
open PySem PySem.Spec PyProof.Rows L2

inductive AV where
  | fz (x : FV)
  | ref (i : Nat)
  | see (i : Nat)
def avOk (K : PySem.W.Frag) (mg : Str → Option Value) (G : Hp) (σ : L2.St) (v : V) : AV → Prop
  | .fz x => Fq K mg G v x
  | .ref i => σ[i]? = some (some v)
  | .see i => σ[i]? = some (some v)
inductive AVs (K : PySem.W.Frag) (mg : Str → Option Value) (G : Hp) (σ : L2.St) : List V → List AV → Prop
  | nil : AVs K mg G σ [] []
  | cons {v : V} {vs : List V} {x : AV} {xs : List AV} : avOk K mg G σ v x → AVs K mg G σ vs xs → AVs K mg G σ (v :: vs) (x :: xs)
def slot1 (e : Env) : AV → Option Slot
  | .fz x => some (.va (.f x))
  | .ref i => (tree e i).map fun k => .rf k.2
  | .see i => (rd e i).map .vw
def slotsOf (e : Env) : List AV → Option (List Slot)
  | [] => some []
  | x :: xs => match slot1 e x, slotsOf e xs with
    | some s, some r => some (s :: r)
    | _, _ => none
def refsOf : List AV → List Nat
  | [] => []
  | .ref i :: r => i :: refsOf r
  | _ :: r => refsOf r
section
variable {K : PySem.W.Frag} {mg : Str → Option Value} {G H G' H' : Hp} {fp fp' : Nat → List Addr} {σ : L2.St} {env : Env} {pv : Nat → V}
theorem AVs.mono {vs : List V} {xs : List AV} (g : Same G G') (h : AVs K mg G σ vs xs) : AVs K mg G' σ vs xs := by
  induction h with
  | nil => exact .nil
  | @cons v vs x xs h t ih =>
    refine .cons ?_ ih
    cases x with
    | fz x => exact Fq.mono g h
    | ref i => exact h
    | see i => exact h
theorem AVs.length {vs : List V} {xs : List AV} (h : AVs K mg G σ vs xs) : vs.length = xs.length := by
  induction h with
  | nil => rfl
  | cons _ _ ih => simp [ih]
theorem AVs.get : ∀ {vs : List V} {xs : List AV} {i : Nat} {x : AV}, AVs K mg G σ vs xs → xs[i]? = some x → ∃ v, vs[i]? = some v ∧ avOk K mg G σ v x
  | _, _, _, _, .nil, e => by simp at e
  | _, _, 0, _, .cons h t, e => by simp at e; subst e; exact ⟨_, rfl, h⟩
  | _, _, i + 1, x, .cons h t, e => by simpa using AVs.get (i := i) t (by simpa using e)
theorem slotsOf_get {e : Env} : ∀ {xs : List AV} {sl : List Slot}, slotsOf e xs = some sl → sl.length = xs.length ∧ ∀ (j : Nat) (s : Slot), sl[j]? = some s → ∃ x, xs[j]? = some x ∧ slot1 e x = some s
  | [], sl, h => by
    cases (show some [] = some sl from h)
    exact ⟨rfl, fun j s e => by simp at e⟩
  | x :: xs, sl, h => by
    unfold slotsOf at h
    split at h
    · rename_i s r h1 h2
      cases h
      obtain ⟨l, k⟩ := slotsOf_get h2
      refine ⟨by simp [l], fun j t e => ?_⟩
      cases j with
      | zero =>
        simp at e
        subst e
        exact ⟨x, rfl, h1⟩
      | succ j => simpa using k j t (by simpa using e)
    · cases h
theorem refs_at : ∀ {xs : List AV} {i j k : Nat}, (refsOf xs).Nodup → xs[j]? = some (.ref i) → xs[k]? = some (.ref i) → j = k
  | [], _, _, _, _, h, _ => by simp at h
  | .ref m :: r, i, j, k, nd, h1, h2 => by
    have nd' := List.nodup_cons.mp (show (m :: refsOf r).Nodup from nd)
    have inR : ∀ {r : List AV} {l : Nat}, r[l]? = some (.ref i) → i ∈ refsOf r := by
      intro r
      induction r with
      | nil => intro l h; simp at h
      | cons x r ih =>
        intro l h
        cases l with
        | zero =>
          have e : x = .ref i := by simpa using h
          subst e
          exact List.mem_cons_self
        | succ l =>
          have q := ih (l := l) (by simpa using h)
          cases x with
          | ref _ => exact List.mem_cons_of_mem _ q
          | fz _ => exact q
          | see _ => exact q
    cases j with
    | zero =>
      have e : m = i := by simpa using h1
      cases k with
      | zero => rfl
      | succ k => exact absurd (inR (l := k) (by simpa using h2)) (by rw [← e]; exact nd'.1)
    | succ j =>
      cases k with
      | zero =>
        have e : m = i := by simpa using h2
        exact absurd (inR (l := j) (by simpa using h1)) (by rw [← e]; exact nd'.1)
      | succ k => exact congrArg (· + 1) (refs_at nd'.2 (by simpa using h1) (by simpa using h2))
  | .fz _ :: r, i, j, k, nd, h1, h2 => by
    cases j with
    | zero => simp at h1
    | succ j =>
      cases k with
      | zero => simp at h2
      | succ k => exact congrArg (· + 1) (refs_at (xs := r) nd (by simpa using h1) (by simpa using h2))
  | .see _ :: r, i, j, k, nd, h1, h2 => by
    cases j with
    | zero => simp at h1
    | succ j =>
      cases k with
      | zero => simp at h2
      | succ k => exact congrArg (· + 1) (refs_at (xs := r) nd (by simpa using h1) (by simpa using h2))
def fpC (xs : List AV) (fp : Nat → List Addr) : Nat → List Addr := fun j => match xs[j]? with
  | some (.ref i) => fp i
  | _ => []
theorem fpC_mem {xs : List AV} {j : Nat} {a : Addr} (m : a ∈ fpC xs fp j) : ∃ i, xs[j]? = some (.ref i) ∧ a ∈ fp i := by
  unfold fpC at m
  cases z : xs[j]? with
  | none => rw [z] at m; cases m
  | some x =>
    rw [z] at m
    cases x with
    | ref i => exact ⟨i, rfl, m⟩
    | fz _ => cases m
    | see _ => cases m
theorem fpC_ref {xs : List AV} {i j : Nat} (h : xs[j]? = some (.ref i)) : fpC xs fp j = fp i := by
  unfold fpC; rw [h]
theorem RS.call {vs : List V} {xs : List AV} {sl : List Slot} (rs : RS K mg G σ env H fp pv) (av : AVs K mg G σ vs xs) (hs : slotsOf env xs = some sl) (nd : (refsOf xs).Nodup) : RS K mg G (vs.map some) sl H (fpC xs fp) (fun j => vs.getD j .non) where
  len := by rw [List.length_map, av.length]; exact (slotsOf_get hs).1
  rel := fun j s e => by
    obtain ⟨x, hx, h1⟩ := (slotsOf_get hs).2 j s e
    obtain ⟨v, hv, ok⟩ := av.get hx
    have hσ : (vs.map some)[j]? = some (some v) := by rw [List.getElem?_map, hv]; rfl
    cases x with
    | fz x =>
      cases h1
      have z : fpC xs fp j = [] := by unfold fpC; rw [hx]
      exact ⟨v, hσ, by rw [z]; exact .f ok⟩
    | ref i =>
      rw [fpC_ref hx]
      have h1' : (VL.tree env i).map (fun k => Slot.rf k.2) = some s := h1
      cases zt : VL.tree env i with
      | none => rw [zt] at h1'; cases h1'
      | some kt =>
        rw [zt] at h1'
        cases h1'
        obtain ⟨_, u, hu, _, ow⟩ := rs.tree zt
        have hok : σ[i]? = some (some v) := ok
        rw [hu] at hok
        cases hok
        have e1 : vs.getD j .non = v := by rw [List.getD_eq_getElem?_getD, hv]; rfl
        exact ⟨by rw [e1]; exact hσ, by rw [e1]; exact ow⟩
    | see i =>
      have z : fpC xs fp j = [] := by unfold fpC; rw [hx]
      have h1' : (VL.rd env i).map Slot.vw = some s := h1
      cases zt : VL.rd env i with
      | none => rw [zt] at h1'; cases h1'
      | some t =>
        rw [zt] at h1'
        cases h1'
        obtain ⟨u, r, hu, ow⟩ := rs.rd zt
        have hok : σ[i]? = some (some v) := ok
        rw [hu] at hok
        cases hok
        exact ⟨z, _, r, hσ, ow⟩
  nil := fun j hj => by
    unfold fpC
    rw [List.getElem?_eq_none (by rw [← (slotsOf_get hs).1]; exact hj)]
  sub := rs.sub
  out := fun j a m => by
    obtain ⟨i, _, m⟩ := fpC_mem m
    exact rs.out i a m
  nd := fun j => by
    unfold fpC
    cases xs[j]? with
    | none => exact .nil
    | some x =>
      cases x with
      | ref i => exact rs.nd i
      | fz _ => exact .nil
      | see _ => exact .nil
  dj := fun j k a m1 m2 => by
    obtain ⟨i1, h1, m1⟩ := fpC_mem m1
    obtain ⟨i2, h2, m2⟩ := fpC_mem m2
    have e := rs.dj i1 i2 a m1 m2
    subst e
    exact refs_at nd h1 h2
end
end VL

set_option Elab.async false
set_option linter.all false
set_option maxRecDepth 100000
set_option maxHeartbeats 4000000
namespace VL
open PySem PySem.Spec PyProof.Rows L2

section
variable {X : Cx} {W : WX} {a b c e o : Expr} {es : List Expr} {pos apos cpos : Pos} {st : Stmt} {sts : List Stmt}
def pN : Env → Res (List AV) := fun _ => .ok []
def pF (f : FP) (g : Env → Res (List AV)) : Env → Res (List AV) := fun env => (f env).bind fun x => (g env).bind fun xs => .ok (.fz x :: xs)
def xP (f : Env → Res (List AV)) : Env → Out (List AV) := fun env => oR (f env) fun xs => .ok xs env
def xF (f : FP) (g : Env → Out (List AV)) : Env → Out (List AV) := fun env => oR (f env) fun x => (g env).bind fun xs e => .ok (.fz x :: xs) e
def xE1 (g : Env → Out (List AV)) (s : SV) (e : Env) : Out (List AV) := match s with
  | .f x => (g e).bind fun xs e => .ok (.fz x :: xs) e
  | _ => .bad
def xE (f : FE) (g : Env → Out (List AV)) : Env → Out (List AV) := fun env => (f env).bind (xE1 g)
end
end VL

set_option Elab.async false
set_option linter.all false
set_option maxRecDepth 100000
set_option maxHeartbeats 4000000
namespace VL
open PySem PySem.Spec PyProof.Rows L2

def subE (c d : Str) : Bool := decide (c = d) || decide (d = "VeilError")
structure Exs (K : PySem.W.Frag) (mg : Str → Option Value) (L : List Str) : Prop where
  at_ : ∀ c ∈ L, ∃ C : Addr, mg c = some (.ref C) ∧ ExcC K C ∧ PySem.W.kitOne K (.ref C) (.type "ValueError") = some true ∧
    ∀ d ∈ L, ∀ D : Addr, mg d = some (.ref D) → PySem.W.exmOne K (.ref C) (.ref D) = some (subE c d) ∧ PySem.W.kitOne K (.ref C) (.ref D) = some (subE c d)
theorem clsIn_of {K : PySem.W.Frag} {C : Addr} (h : PySem.W.hasDictIn K C = true) : (PySem.W.clsIn K C).isSome = true := by
  obtain ⟨cd, e, _⟩ := PySem.W.any_some h
  rw [e]; rfl
theorem kit_own {K : PySem.W.Frag} {C D : Addr} {b : Bool} (hd : PySem.W.hasDictIn K D = true) (ht : PySem.W.typeIn K (.ref D) = some (.type "type")) (hs : PySem.W.subIn K (.ref C) (.ref D) = some b) (hc : PySem.W.subIn K (.ref C) (.ref C) = some true) : PySem.W.kitOne K (.ref C) (.ref D) = some b := by
  unfold PySem.W.kitOne
  by_cases q : (Value.ref C == Value.ref D) = true
  · rw [if_pos q]
    have e : C = D := Value.ref.inj (beq_iff_eq.mp q)
    subst e
    rw [hs] at hc
    cases hc
    rfl
  · rw [if_neg q]
    show (if ((PySem.W.clsIn K D).isSome && PySem.W.typeIn K (.ref D) == some (.type "type")) = true then PySem.W.subIn K (.ref C) (.ref D) else none) = _
    rw [clsIn_of hd, ht, if_pos (by rfl)]
    exact hs
theorem kit_val {K : PySem.W.Frag} {C : Addr} (hs : PySem.W.subIn K (.ref C) (.type "ValueError") = some true) : PySem.W.kitOne K (.ref C) (.type "ValueError") = some true := by
  unfold PySem.W.kitOne
  rw [if_neg fun q => by have e := beq_iff_eq.mp q; cases e]
  show (if PySem.W.kitMeta "ValueError" = true then _ else none) = _
  rw [if_pos (by decide +kernel)]
  exact hs
section
variable {X : Cx} {W : WX} {a b c e o : Expr} {es : List Expr} {pos apos cpos : Pos} {st : Stmt} {sts : List Stmt}
def offI (i : Nat) : Flow → Flow
  | .nx e => .nx (e.set i .no)
  | .rt s e => .rt s (e.set i .no)
  | _ => .bad
def vTry (L : List Str) (cn : Str) (body : ST) (i : Nat) (suite : Str → ST) : ST := fun env => match body env with
  | .err c e => if L.contains c = true ∧ i < e.length then (if subE c cn = true then offI i (suite c (e.set i .no)) else .err c e) else .bad
  | r => r
def tX (x : Addr) (i : Nat) (t : TE) : TE := fun σ H Q => σ[i]? = some (some (.ref x)) ∧ t σ H Q
def tXS (x : Addr) (i : Nat) (t : TS) : TS := fun D σ H => σ[i]? = some (some (.ref x)) ∧ t D σ H
abbrev VPx (X : Cx) (W : WX) (x : Addr) (i : Nat) (e : Expr) (f : FP) : Prop := PE X e (tX x i (tP X.K X.mg W f))
abbrev VSsx (X : Cx) (W : WX) (x : Addr) (i : Nat) (st : List Stmt) (f : ST) : Prop := PSs X st (tXS x i (tS X.K X.mg W f))
theorem RS.ofSet {K : PySem.W.Frag} {mg : Str → Option Value} {G H : Hp} {fp : Nat → List Addr} {σ : L2.St} {env : Env} {pv : Nat → V} (h : RS K mg G σ env H fp pv) (i : Nat) (o : Option V) : RS K mg G (σ.set i o) (env.set i .no) H (fun j => if j = i then [] else fp j) pv := by
  have d := h.drop i
  refine ⟨by rw [List.length_set, List.length_set]; exact h.len, fun j u e => ?_, d.nil, d.sub, d.out, d.nd, d.dj⟩
  have r := d.rel j u e
  by_cases hj : j = i
  · subst hj
    by_cases hl : j < env.length
    · rw [List.getElem?_set_self hl] at e
      cases e
      exact r
    · rw [List.getElem?_eq_none (by rw [List.length_set]; omega)] at e; cases e
  · rw [List.getElem?_set_ne (Ne.symm hj)]
    exact r
def tsOf (K : PySem.W.Frag) (mg : Str → Option Value) (L : List Str) (i : Nat) (suite : Str → ST) (x : Addr) (cls : Value) : TS := fun D σ H => ∃ c D0, cls = .ref D0 ∧ mg c = some (.ref D0) ∧ c ∈ L ∧ tXS x i (tS K mg (fun _ _ _ _ => False) (suite c)) D σ H
theorem post_off {K : PySem.W.Frag} {mg : Str → Option Value} {W : WX} {D : Ends} {G H : Hp} {fp : Nat → List Addr} {pv : Nat → V} {i : Nat} {f : Flow} (h : Post K mg W D G H fp pv (offI i f)) :
    Post K mg (fun _ _ _ _ => False) { nx := fun σ' H' => D.nx (σ'.set i none) H', rt := D.rt, bk := fun σ' H' => D.bk (σ'.set i none) H', ct := fun σ' H' => D.ct (σ'.set i none) H' } G H fp pv f := by
  have subI : ∀ {fp' : Nat → List Addr} {G' H' : Hp}, Stp G H fp G' H' fp' → Stp G H fp G' H' (fun j => if j = i then [] else fp' j) := fun {fp' G' H'} s => s.sub fun j b m => by
    by_cases hj : j = i
    · rw [if_pos hj] at m; cases m
    · rw [if_neg hj] at m; exact s.f j b m
  cases f with
  | nx e => exact fun G' σ' H' fp' s r => h G' _ H' _ (subI s) (r.ofSet i none)
  | rt v e =>
    intro u G' σ' H' fp' r s rs ow nd fr
    refine h u G' σ' H' _ r (subI s) (rs.drop i) ow nd fun a m => ⟨(fr a m).1, fun j mj => ?_, (fr a m).2.2⟩
    by_cases hj : j = i
    · rw [if_pos hj] at mj; cases mj
    · rw [if_neg hj] at mj; exact (fr a m).2.1 j mj
  | err c e => exact h.elim
  | bad => exact h.elim
theorem vs_try {L : List Str} {cn n : Str} {i : Nat} {body : ST} {suite : Str → ST} {B : List Stmt} {b₀ : Stmt} {R : List Stmt} {np pos' : Pos} (ex : Exs X.K X.mg L) (hcn : cn ∈ L) (hs : X.stack = X.env :: X.outer) (hf : X.env.frame = some X.env.locals) (hN : X.N.Nodup) (hi : X.N[i]? = some n) (hln : X.env.kindOf n = some .local) (hg : Gl X cn) (hdb : (cn == ("__debug__" : Str)) = false) (tk : L2N.Takes X W)
    (hb : ∀ (W : WX) (pn : List (Addr × Obj)) (xe : Value → Shared → Prop), L2N.Takes (X.tr pn xe) W → PassesOwn (model X.prog X.w) X.A X.env xe → VSs (X.tr pn xe) W B body)
    (hsu : ∀ (c : Str) (D : Addr) (x : Addr) (oe : Obj) (pn : List (Addr × Obj)), c ∈ L → X.mg c = some (.ref D) → L2N.Zn (.ref D) none oe → (∃ vs, oe.data = .fields vs) → VSsx (X.suite x ((x, oe) :: pn)) (fun _ _ _ _ => False) x i (b₀ :: R) (suite c)) :
    VS X W (.Try B [.ExceptHandler (some (.Name cn np)) (some n) (b₀ :: R) pos'] [] [] pos) (vTry L cn body i suite) := by
  obtain ⟨CN, mcn, _⟩ := ex.at_ cn hcn
  refine ps_imp (L2N.ps_try_as (tb := fun W => tS X.K X.mg W body) (i := i) (Wout := W) (c := .ref CN) (ts := fun x cls d => fun D σ H => d = none ∧ tsOf X.K X.mg L i suite x cls D σ H) hs hf hN hi hln ⟨hg, hdb, .inl mcn⟩ tk (fun W pn xe tk po => hb W pn xe tk po) ?_) ?_
  · intro x oe cls d pn hz hd
    refine ⟨fun pins s σ H D I h => ?_⟩
    obtain ⟨ed, c, D0, e1, m, hc, w⟩ := h
    subst e1 ed
    exact (hsu c D0 x oe pn hc m hz hd).run pins s σ H D I w
  · intro D σ H ⟨G, env, fp, pv, rs, w⟩
    refine ⟨G, env, fp, pv, rs, ?_⟩
    unfold vTry at w
    cases z : body env with
    | nx e => rw [z] at w; exact w
    | rt v e => rw [z] at w; exact w
    | bad => rw [z] at w; exact w
    | err c e =>
      rw [z] at w
      dsimp only at w
      by_cases hc : L.contains c = true ∧ i < e.length
      · rw [if_pos hc] at w
        have hm : c ∈ L := by simpa using hc.1
        intro C G' σ' H' fp' m s rs'
        obtain ⟨C', m', _, _, k⟩ := ex.at_ c hm
        rw [m] at m'
        cases m'
        refine ⟨subE c cn, (k cn hcn CN mcn).1, fun hy x hx => ⟨rfl, c, C, rfl, m, hm, ?_, ?_⟩, fun hn => ?_⟩
        · rw [List.getElem?_set_self (by rw [← rs'.len]; exact hc.2)]
        · rw [if_pos hy] at w
          have w2 := post_off w
          refine ⟨G', e.set i .no, _, pv, rs'.ofSet i _, w2.step (s.sub fun j b mb => ?_)⟩
          by_cases hj : j = i
          · rw [if_pos hj] at mb; cases mb
          · rw [if_neg hj] at mb; exact s.f j b mb
        · rw [if_neg (by rw [hn]; exact Bool.false_ne_true)] at w
          exact w C G' σ' H' fp' m s rs'
      · rw [if_neg hc] at w; exact w.elim

variable {x : Addr} {i : Nat}
theorem vpx_l {f : FP} (h : VP X W e f) : VPx X W x i e f := pe_imp h fun σ H Q w => w.2
theorem vpx_isE {c cn n : Str} {D : Addr} {oe : Obj} {pn : List (Addr × Obj)} {L : List Str} {p p1 p2 : Pos} (ex : Exs X.K X.mg L) (hc : c ∈ L) (hcn : cn ∈ L) (mc : X.mg c = some (.ref D)) (hz : L2N.Zn (.ref D) none oe) (hf : ∃ vs, oe.data = .fields vs) (ho : PE (X.suite x ((x, oe) :: pn)) (.Name n p1) (tVar i))
    (hm : X.mg "isinstance" = none) (hg : Gl (X.suite x ((x, oe) :: pn)) "isinstance" := by rfl) (hgc : Gl (X.suite x ((x, oe) :: pn)) cn := by rfl) (hdc : (cn == ("__debug__" : Str)) = false := by decide)
    (he : starEach [.Name n p1, .Name cn p2] X.env = (false, eval (.Name n p1) X.env) :: starEach [.Name cn p2] X.env := by rfl) (he2 : starEach [.Name cn p2] X.env = (false, eval (.Name cn p2) X.env) :: starEach [] X.env := by rfl) (hpl : (backTo pos (starEach [.Name cn p2] X.env)).any (·.1) = false := by rfl) :
    VPx (X.suite x ((x, oe) :: pn)) W x i (.Call (.Name "isinstance" p) [.Name n p1, .Name cn p2] [] pos) (fun _ => iB (subE c cn)) := by
  obtain ⟨C1, m1, xc, _, k⟩ := ex.at_ c hc
  rw [mc] at m1
  cases m1
  obtain ⟨C2, m2, _, _, _⟩ := ex.at_ cn hcn
  exact pe_imp (pe_callB (call_isE xc hz.zc hf) hg hm boot_isinstance (pa_cons ho (pa_cons (pe_glob (v := .ref C2) hgc m2 rfl hdc) pa_nil he2) he) (by decide) (by decide) he hpl) fun σ H Q ⟨hi, G, env, fp, pv, rs, w⟩ =>
    ⟨.ref x, hi, .ref C2, .ref C2, _, rfl, fun u r => r, (k cn hcn C2 m2).2, w _ G H (Ext.refl rs.sub) (.d (.bl _))⟩
theorem vpx_isV {c n : Str} {D : Addr} {oe : Obj} {pn : List (Addr × Obj)} {L : List Str} {p p1 p2 : Pos} (ex : Exs X.K X.mg L) (hc : c ∈ L) (mc : X.mg c = some (.ref D)) (hz : L2N.Zn (.ref D) none oe) (hf : ∃ vs, oe.data = .fields vs) (ho : PE (X.suite x ((x, oe) :: pn)) (.Name n p1) (tVar i))
    (hm : X.mg "isinstance" = none) (hv : X.mg "ValueError" = none) (hg : Gl (X.suite x ((x, oe) :: pn)) "isinstance" := by rfl) (hgc : Gl (X.suite x ((x, oe) :: pn)) "ValueError" := by rfl)
    (he : starEach [.Name n p1, .Name "ValueError" p2] X.env = (false, eval (.Name n p1) X.env) :: starEach [.Name "ValueError" p2] X.env := by rfl) (he2 : starEach [.Name "ValueError" p2] X.env = (false, eval (.Name "ValueError" p2) X.env) :: starEach [] X.env := by rfl) (hpl : (backTo pos (starEach [.Name "ValueError" p2] X.env)).any (·.1) = false := by rfl) :
    VPx (X.suite x ((x, oe) :: pn)) W x i (.Call (.Name "isinstance" p) [.Name n p1, .Name "ValueError" p2] [] pos) (vC (.bool true)) := by
  obtain ⟨C1, m1, xc, kv, _⟩ := ex.at_ c hc
  rw [mc] at m1
  cases m1
  exact pe_imp (pe_callB (call_isE xc hz.zc hf) hg hm boot_isinstance (pa_cons ho (pa_cons (pe_bltn (v := .ty "ValueError") hgc hv (by decide +kernel) rfl (by decide) (by decide)) pa_nil he2) he) (by decide) (by decide) he hpl) fun σ H Q ⟨hi, G, env, fp, pv, rs, w⟩ =>
    ⟨.ref x, hi, .ty "ValueError", .type "ValueError", _, rfl, fun u r => r, kv, w _ G H (Ext.refl rs.sub) (.d (.bl _))⟩
theorem vpx_one {op} {f : FP} (h : VPx X W x i a f) : VPx X W x i (.BoolOp op [a] pos) f := pe_one h
theorem vpx_and {f g : FP} {rest : List Expr} (ha : VPx X W x i a f) (hb : VPx X W x i (.BoolOp .And (b :: rest) pos) g) : VPx X W x i (.BoolOp .And (a :: b :: rest) pos) (vAnd f g) :=
  pe_imp (pe_and ha hb) fun σ H Q ⟨hi, G, env, fp, pv, rs, w⟩ => ⟨hi, G, env, fp, pv, rs, PostR.seq w fun k w v G1 H1 e1 q1 => by
    obtain ⟨k, rfl, w⟩ := bB_ok q1 w
    refine ⟨k, rfl, ?_⟩
    cases k with
    | true => exact ⟨hi, G1, env, fp, pv, rs.ext e1, PostR.imp w e1.h fun z w v G2 H2 e2 => w v G2 H2 (e1.trans e2)⟩
    | false => exact jP.bool e1.s (jP.ext e1 w)⟩
noncomputable def catL : PyData → PyData → Res SV
  | .list xs, .list ys => cIf (xs.length + ys.length ≤ 16777216) (.ok (SV.dl (xs ++ ys))) .bad
  | _, _ => .bad
theorem vsx_ret {f : FP} (h : VPx X W x i e f) : VSsx X W x i [.Return (some e) pos] (vRetP f) := pss_imp (pss_one (ps_ret h)) fun D σ H ⟨hi, G, env, fp, pv, rs, w⟩ => ⟨hi, G, env, fp, pv, rs, Post.ofR rs w fun s w v G1 H1 e1 q1 =>
  w v G1 σ H1 fp [] (Stp.of_ext e1) (rs.ext e1) (.f q1) .nil fun a m => by cases m⟩
end
end VL

set_option Elab.async false
set_option linter.all false
set_option maxRecDepth 100000
set_option maxHeartbeats 4000000
namespace VL
open PySem PySem.Spec PyProof.Rows L2

def frzE (env : Env) (i : Nat) (ps : List Pst) : Option Env := match tree env i with
  | some (kd, s) => match subS s ps with
    | some t => match t.frz? with
      | some x => some (env.set i (kd.mk (updS s ps (.f x))))
      | none => none
    | none => none
  | none => none
section
variable {K : PySem.W.Frag} {mg : Str → Option Value} {G G' H H' : Hp} {fp fp' : Nat → List Addr} {σ : L2.St} {env e : Env} {pv : Nat → V}
theorem RS.frz (rs : RS K mg G σ env H fp pv) {i : Nat} {ps : List Pst} (h : frzE env i ps = some e) : ∃ r fp', RS K mg (gu G H r) σ e H fp' pv ∧ (∀ a ∈ r, a ∈ fp i) ∧ ∀ j a, a ∈ fp' j → a ∈ fp j := by
  unfold frzE at h
  cases z : VL.tree env i with
  | none => rw [z] at h; cases h
  | some kt =>
    obtain ⟨kd, s⟩ := kt
    rw [z] at h
    dsimp only at h
    cases zs : subS s ps with
    | none => rw [zs] at h; cases h
    | some t =>
      rw [zs] at h
      dsimp only at h
      cases zf : t.frz? with
      | none => rw [zf] at h; cases h
      | some x =>
        rw [zf] at h
        cases h
        obtain ⟨hs, v, hv, hp, ow⟩ := rs.tree z
        have hi : i < env.length := (List.getElem?_eq_some_iff.mp hs).1
        obtain ⟨u, r1, e1, o1, n1, s1, ex⟩ := ow.exch (rs.nd i) zs
        have g : Same G (gu G H r1) := gu_same rs.sub
        obtain ⟨r', o', n', q'⟩ := ex (G' := gu G H r1) (H' := H) (t' := .f x) (r1' := []) ⟨g, fun _ _ _ => rfl, .f (o1.frozenF g (fun a m o e => by rw [gu_in m]; exact e) zf), .nil, fun _ m => by cases m⟩
        have sub' : ∀ a ∈ r', a ∈ fp i ∧ a ∉ r1 := fun a m => by
          rcases q' a m with q | q
          · cases q
          · exact q
        refine ⟨r1, fun j => if j = i then r' else fp j, ⟨?_, fun j u e => ?_, fun j hj => ?_, gu_sub rs.sub, fun j a m => ?_, fun j => ?_, fun j k a m1 m2 => ?_⟩, s1, fun j a m => ?_⟩
        · rw [List.length_set]; exact rs.len
        · by_cases q : j = i
          · subst q
            rw [List.getElem?_set_self hi] at e
            cases e
            rw [if_pos rfl]
            cases kd with
            | va => exact ⟨v, hv, o'⟩
            | rf => rw [← hp rfl]; exact ⟨hv, o'⟩
          · rw [List.getElem?_set_ne (Ne.symm q)] at e
            rw [if_neg q]
            exact (rs.rel j u e).mono g (Same.refl _)
        · rw [List.length_set] at hj
          show (if j = i then r' else fp j) = []
          rw [if_neg (by omega)]
          exact rs.nil j hj
        · by_cases q : j = i
          · rw [if_pos q] at m
            obtain ⟨m1, m2⟩ := sub' a m
            rw [gu_out m2]
            exact rs.out i a m1
          · rw [if_neg q] at m
            rw [gu_out fun m2 => q (rs.dj j i a m (s1 a m2))]
            exact rs.out j a m
        · show (if j = i then r' else fp j).Nodup
          by_cases q : j = i
          · rw [if_pos q]; exact n'
          · rw [if_neg q]; exact rs.nd j
        · by_cases q1 : j = i
          · rw [if_pos q1] at m1
            by_cases q2 : k = i
            · rw [q1, q2]
            · rw [if_neg q2] at m2
              exact absurd (rs.dj k i a m2 (sub' a m1).1) q2
          · rw [if_neg q1] at m1
            by_cases q2 : k = i
            · rw [if_pos q2] at m2
              exact absurd (rs.dj j i a m1 (sub' a m2).1) q1
            · rw [if_neg q2] at m2; exact rs.dj j k a m1 m2
        · have m' : a ∈ (if j = i then r' else fp j) := m
          by_cases q : j = i
          · rw [if_pos q] at m'; rw [q]; exact (sub' a m').1
          · rw [if_neg q] at m'; exact m'
end
section
variable {X : Cx} {W : WX} {a b c e o : Expr} {es : List Expr} {pos apos cpos : Pos} {st : Stmt} {sts : List Stmt}
def vFrz (i : Nat) (ps : List Pst) : ST := fun env => match frzE env i ps with
  | some e => .nx e
  | none => .bad
end
end VL

set_option Elab.async false
set_option linter.all false
set_option maxRecDepth 100000
set_option maxHeartbeats 4000000
namespace VL
open PySem PySem.Spec PyProof.Rows L2

section
variable {X : Cx} {W : WX} {a b c e tg : Expr} {es : List Expr} {pos apos cpos : Pos} {st : Stmt} {sts : List Stmt}
end
end VL

set_option Elab.async false
set_option linter.all false
set_option maxRecDepth 100000
set_option maxHeartbeats 4000000
namespace VL
open PySem PySem.Spec PyProof.Rows L2
section
variable {X : Cx} {W : WX} {a b c e o : Expr} {es : List Expr} {pos apos cpos : Pos} {st : Stmt} {sts : List Stmt}

def datasA : List AV → Option (List PyData)
  | [] => some []
  | .fz (.d p) :: r => (datasA r).map (p :: ·)
  | _ => none
noncomputable def tupX (xs : List AV) (e : Env) : Out SV := match datasA xs with
  | some ds => cIf (ds.length ≤ 16777216) (.ok (.f (.d (.tuple ds))) e) .bad
  | none => .bad
noncomputable def vTupX (fs : Env → Out (List AV)) : FE := fun env => (fs env).bind tupX
def ixE1 (k : Int) (s : SV) (e : Env) : Out SV := match s with
  | .f (.d d) => oR (ixP d (.int k)) fun x => .ok (.f x) e
  | _ => .bad
def vIxE (f : FE) (k : Int) : FE := fun env => (f env).bind (ixE1 k)
end
end VL

set_option Elab.async false
set_option linter.all false
set_option maxRecDepth 100000
set_option maxHeartbeats 4000000
namespace VL
open PySem PySem.Spec PyProof.Rows L2

theorem takes0N {X : Cx} : L2N.Takes X (fun _ _ _ _ => False) := fun _ _ x => by
  obtain ⟨_, _, _, _, _, _, _, _, _, _, _, _, _, _, _, _, z⟩ := x
  exact z.elim
theorem hu65H {k : Nat} {A : Around} (hr : L2H.RoomH k A) : A.units + 65 < cLine := by have := hr.un; omega
def DefH (P : Program) (w : World) (K : PySem.W.Frag) (mg : Str → Option Value) (base : Heap) (k n : Nat) (x : Str) (ps : List Str) (S : Fn) : Prop :=
  ∃ (f : Addr) (fd : FuncData), L2H.FnH P w K mg base (L2N.CX P w) k f fd ps (spV K mg n S) ∧ mg x = some (.ref f) ∧ PySem.W.keepIn K (.ref f) = true ∧ Binds K fd ps []
theorem def_okH {P : Program} {w : World} {K : PySem.W.Frag} {mg : Str → Option Value} {base : Heap} {x : Str} {st : Stmt} {N ps : List Str} {k n nl : Nat} {body : ST} (F : Sits K mg x st ps) (S : FnScope N ps (defScope st)) (hps : ps.length = n) (hn : N.length - n = nl)
    (hb : ∀ (f : Addr) (cdv : Value) (A : Around) (outer : List PySem.Env) (s : Shared) (H : Hp) (E : XK) (p : Addr × Obj), L2H.Hot1 A p → L2H.RoomH k (A.deeper (envOfC x (defScope st) s.heap.objs.size f cdv)) →
      VSs (L2H.cxH (L2N.CX P w) P w K mg base N x (defScope st) f cdv A outer s H E p) (WF E) (defBody st) body) : DefH P w K mg base (k + 1) n x ps (mkFn nl body) := by
  obtain ⟨f, fd, F, m, b⟩ := F
  have kp := F.kp
  obtain ⟨oc, od, kV, doc, pm, an, cdv, ct, osl, rfl, lk, hcd⟩ := F.ex
  exact ⟨f, _, L2H.fn_ofH lk hcd S (fun vs H Q E h => by rw [hps]; exact h.1) fun A outer s H vs Q E p hot hr h => ⟨_, hb f cdv A outer s H E p hot hr, body_ok hn h⟩, m, kp, b⟩
theorem roomS {k : Nat} {X : Cx} {x : Addr} {pn : List (Addr × Obj)} (hr : Room k X.A) : L2H.RoomH k (X.suite x pn).A := ⟨hr.dp, hr.un⟩
section
variable {X : Cx} {W : WX} {a b c e o tg : Expr} {es : List Expr} {pos : Pos}
theorem vo_callHD {k j n : Nat} {ps : List Str} {S : Fn} {x : Str} {p : Pos} {fs : Env → Res (List FV)} (D : DefH X.prog X.w X.K X.mg X.base k n x ps S) (hr : L2H.RoomH j X.A) (hkj : k ≤ j) (hot : L2H.HotC X) (tk : L2N.Takes X W) (ha : VAN X W n (e :: es) fs) (hg : Gl X x := by rfl) (hdb : (x == ("__debug__" : Str)) = false := by decide) (he : starEach (e :: es) X.env = (false, eval e X.env) :: starEach es X.env := by rfl) (hpl : (backTo pos (starEach es X.env)).any (·.1) = false := by rfl) :
    VO X W (.Call (.Name x p) (e :: es) [] pos) (vCall S fs) := by
  obtain ⟨f, fd, F, hm, hk, hb⟩ := D
  exact pe_imp (L2H.pe_callH F (hr.mono hkj) hot hg hm hk hb (fun σ => L2N.passAt tk σ) ha hdb he hpl) fun σ H Q ⟨G, env, fp, pv, rs, w⟩ => ⟨G, env, fp, pv, rs, PostR.seq w fun xs w vs G1 H1 e1 q1 hl => by
    refine ⟨by rw [q1.length]; exact hl, G1, xs.map vaF, fun _ => [], fun _ => .non, RS.args e1.s q1, ?_⟩
    cases z : S (xs.map vaF) with
    | ret s as =>
      rw [z] at w
      refine fun v G2 H2 fp2 r st rs2 ow nd fr => w v G2 H2 r (e1.trans (st.ext0 rs2.sub)) ow nd fun a m => ⟨?_, (fr a m).1⟩
      rcases (fr a m).2.2 with q | ⟨_, q⟩
      · exact none_back e1.h q
      · cases q
    | exc c =>
      rw [z] at w
      exact fun C G2 H2 m k _ => w C H2 m (e1.h.trans fun b o h => k.fr b o h fun _ q => by cases q)
    | bad => rw [z] at w; exact w.elim⟩
theorem hot_suite {X : Cx} {x : Addr} {oe : Obj} {cls : Value} {d : Option Addr} {pn : List (Addr × Obj)} (hz : L2N.Zn cls d oe) (hf : ∃ vs, oe.data = .fields vs) : L2H.HotC (X.suite x ((x, oe) :: pn)) := by
  obtain ⟨vs, h⟩ := hf
  exact ⟨(x, oe), ⟨rfl, vs, h, hz.2.2 vs h⟩, List.mem_cons_self⟩
end
end VL

set_option Elab.async false
set_option linter.all false
set_option maxRecDepth 100000
set_option maxHeartbeats 4000000
namespace VL
open PySem PySem.Spec PyProof.Rows L2

noncomputable def B_Table___init__ : ST := (vSeq (vIfS (vOrT (toT (vCmp .notin (vVarD 1) (toD (vC (.tuple (([5, 7, 11, 13, 17, 19, 23, 29, 31] : List Int).map .int)))))) (vOrT (vNotT (toT (vChain .le .le (toD (vC (.int 3))) (vVarD 2) (toD (vC (.int 7)))))) (toT (vCmp .ge (vVarD 2) (vVarD 1))))) (vRaise "BadTable") vSkip)
  (vSeq (vIfS (vOrT (vNotT (toT (vChain .le .le (toD (vC (.int 1))) (vVarD 3) (toD (vC (.int 2)))))) (toT (vCmp .ge (frD (v2 mulV (toD (vC (.int 2))) (vVarD 3))) (vVarD 2)))) (vRaise "BadTable") vSkip)
  (vSeq (vSetF "Table" 0 "prime" (unO (vVar 1)))
  (vSeq (vSetF "Table" 0 "hands" (unO (vVar 2)))
  (vSetF "Table" 0 "few" (unO (vVar 3)))))))
noncomputable def S_Table___init__ : Fn := mkFn 0 B_Table___init__

noncomputable def B__law_cell_at : ST := (vSeq (vIfS (toT (vCmp .lt (vVarD 1) (toD (vLenS (vVar 0))))) (vRetP (ixS (vVar 0) (vVarD 1))) vSkip)
  (vRetP (vC (.int 0))))
noncomputable def S__law_cell_at : Fn := mkFn 0 B__law_cell_at

noncomputable def B__law_whole : ST := (vRetP (vAnd (v1 (fun y => iB (isI .int y)) (vVarD 0)) (vNot (v1 (fun y => iB (isI .bool y)) (vVarD 0)))))
noncomputable def S__law_whole : Fn := mkFn 0 B__law_whole

noncomputable def B__law_due : ST := (vSeq (vIfS (toT (vCmp .notin (vVarD 0) (frD (vLst (vCons (toD (vC (.int 5))) (vCons (toD (vC (.int 7))) (vCons (toD (vC (.int 11))) (vCons (toD (vC (.int 13))) (vCons (toD (vC (.int 17))) (vCons (toD (vC (.int 19))) (vCons (toD (vC (.int 23))) (vCons (toD (vC (.int 29))) (vCons (toD (vC (.int 31))) vNil))))))))))))) (vRetP (vC (.bool false))) vSkip)
  (vRetP (vAnd (vChain .le .le (toD (vC (.int 3))) (vVarD 1) (toD (vC (.int 7)))) (vAnd (vCmp .lt (vVarD 1) (vVarD 0)) (vAnd (vChain .le .le (toD (vC (.int 1))) (vVarD 2) (toD (vC (.int 2)))) (vCmp .lt (frD (v2 mulV (toD (vC (.int 2))) (vVarD 2))) (vVarD 1)))))))
noncomputable def S__law_due : Fn := mkFn 0 B__law_due

noncomputable def B_law : ST := (vSeq (vSet 1 (v2 ixP (frD (vLst (vCons (toD (vC (.int 5))) (vCons (toD (vC (.int 7))) (vCons (toD (vC (.int 11))) (vCons (toD (vC (.int 13))) (vCons (toD (vC (.int 17))) (vCons (toD (vC (.int 19))) (vCons (toD (vC (.int 23))) (vCons (toD (vC (.int 29))) (vCons (toD (vC (.int 31))) vNil))))))))))) (toD (v2 modI (frD (vCall S__law_cell_at (aC (vVar 0) (aC (vC (.int 0)) aN)))) (toD (vC (.int 9)))))))
  (vSeq (vIfS (toT (vCmp .eq (toD (v2 modI (frD (vCall S__law_cell_at (aC (vVar 0) (aC (vC (.int 1)) aN)))) (toD (vC (.int 3))))) (toD (vC (.int 1))))) (vSet 1 (v2 subI (toD (v2 modI (toD (v2 divI (frD (vCall S__law_cell_at (aC (vVar 0) (aC (vC (.int 1)) aN)))) (toD (vC (.int 3))))) (toD (vC (.int 44))))) (toD (vC (.int 3))))) vSkip)
  (vSeq (vSet 2 (v2 ixP (frD (vLst (vCons (toD (v2 modI (toD (v2 divI (frD (vCall S__law_cell_at (aC (vVar 0) (aC (vC (.int 2)) aN)))) (toD (vC (.int 3))))) (toD (vC (.int 10))))) (vCons (toD (frO (v2 addV (toD (vC (.int 5))) (toD (v2 modI (toD (v2 divI (frD (vCall S__law_cell_at (aC (vVar 0) (aC (vC (.int 2)) aN)))) (toD (vC (.int 3))))) (toD (vC (.int 4)))))))) (vCons (toD (vC (.int 7))) vNil))))) (toD (v2 modI (frD (vCall S__law_cell_at (aC (vVar 0) (aC (vC (.int 2)) aN)))) (toD (vC (.int 3)))))))
  (vSeq (vSet 3 (frO (v2 addV (toD (vC (.int 1))) (toD (v2 modI (frD (vCall S__law_cell_at (aC (vVar 0) (aC (vC (.int 3)) aN)))) (toD (vC (.int 2))))))))
  (vSeq (vIfS (toT (vCmp .eq (toD (v2 modI (frD (vCall S__law_cell_at (aC (vVar 0) (aC (vC (.int 4)) aN)))) (toD (vC (.int 2))))) (toD (vC (.int 1))))) (vSet 3 (v2 subI (toD (v2 modI (toD (v2 divI (frD (vCall S__law_cell_at (aC (vVar 0) (aC (vC (.int 4)) aN)))) (toD (vC (.int 2))))) (toD (vC (.int 6))))) (toD (vC (.int 1))))) vSkip)
  (vSeq (vSet 4 (vC .none))
  (vSeq (vTry ["VeilError", "BadTable"] "BadTable" (vSet 4 (frO (vMake "Table" S_Table___init__ (aC (vVar 1) (aC (vVar 2) (aC (vVar 3) aN)))))) 5 (fun c => (vRetP (vAnd (vNot (frO (vCall S__law_due (aC (vVar 1) (aC (vVar 2) (aC (vVar 3) aN)))))) (vAnd (fun _ => iB (subE c "VeilError")) (vC (.bool true)))))))
  (vSeq (vSet 6 (frO (vLst (vCons (toD (vFld "Table" "prime" (vVar 4))) (vCons (toD (vFld "Table" "hands" (vVar 4))) (vCons (toD (vFld "Table" "few" (vVar 4))) vNil))))))
  (vRetP (vAnd (frO (vCall S__law_due (aC (vVar 1) (aC (vVar 2) (aC (vVar 3) aN))))) (vAnd (v1 allP (frD (vComp (vItL (vVarD 6)) (gN 7) vYes (vCall S__law_whole (aC (vVar 7) aN)) [7]))) (vCmp .eq (vVarD 6) (frD (vLst (vCons (toD (vVar 1)) (vCons (toD (vVar 2)) (vCons (toD (vVar 3)) vNil)))))))))))))))))
noncomputable def S_law : Fn := mkFn 7 B_law

end VL

set_option Elab.async false
set_option linter.all false
set_option maxRecDepth 100000
set_option maxHeartbeats 4000000
namespace VL
open PySem PySem.Spec PyProof.Rows L2

@[simp] theorem bind_ok {α β : Type} (a : α) (k : α → Res β) : (Res.ok a).bind k = k a := rfl
@[simp] theorem bind_err {α β : Type} (c : Str) (k : α → Res β) : (Res.err c : Res α).bind k = .err c := rfl
@[simp] theorem bind_bad {α β : Type} (k : α → Res β) : (Res.bad : Res α).bind k = .bad := rfl
theorem bind_congr {α β : Type} (r : Res α) {k k' : α → Res β} (h : ∀ x, k x = k' x) : r.bind k = r.bind k' := by cases r <;> simp [Res.bind, h]
theorem bind_assoc {α β γ : Type} (r : Res α) (k : α → Res β) (j : β → Res γ) : (r.bind k).bind j = r.bind fun a => (k a).bind j := by cases r <;> rfl
def dOf : FV → Res PyData
  | .d p => .ok p
  | _ => .bad
@[simp] theorem dOf_d (p : PyData) : dOf (.d p) = .ok p := rfl
def frF (s : SV) : Res FV := match s.frz? with
  | some x => .ok x
  | none => .bad
@[simp] theorem frF_f (x : FV) : frF (.f x) = .ok x := rfl
@[simp] theorem frF_dl (ds : List PyData) : frF (SV.dl ds) = .ok (.d (.list ds)) := by unfold frF; rw [frz?_dl]
@[simp] theorem toD_ap (f : FP) (e : Env) : toD f e = (f e).bind dOf := by
  exact bind_congr _ fun x => by cases x <;> rfl
@[simp] theorem frO_ap (f : FO) (e : Env) : frO f e = (f e).bind frF := rfl
theorem frz_frF (s : SV) : (match s.frz with | some x => Res.ok x | none => .bad) = (frF s).bind dOf := by
  cases s with
  | f x => cases x <;> rfl
  | own xs =>
    show (match (SV.frzs xs).map PyData.list with | some x => Res.ok x | none => .bad) = (match (SV.frzs xs).map (fun ps => FV.d (.list ps)) with | some x => Res.ok x | none => .bad).bind dOf
    cases SV.frzs xs <;> rfl
  | otup xs =>
    show (match (SV.frzs xs).map PyData.tuple with | some x => Res.ok x | none => .bad) = (match (SV.frzs xs).map (fun ps => FV.d (.tuple ps)) with | some x => Res.ok x | none => .bad).bind dOf
    cases SV.frzs xs <;> rfl
  | obj c fs =>
    show Res.bad = (match (SV.frzf fs).map (fun ps => FV.ob c ps) with | some x => Res.ok x | none => .bad).bind dOf
    cases SV.frzf fs <;> rfl
@[simp] theorem frD_ap (f : FO) (e : Env) : frD f e = ((f e).bind frF).bind dOf := by
  rw [bind_assoc]
  exact bind_congr _ fun s => frz_frF s
@[simp] theorem unO_ap (f : FP) (e : Env) : unO f e = (f e).bind fun x => .ok (.f x) := rfl
def ldP : Option Slot → Res FV
  | some (.va (.f x)) => .ok x
  | some (.rf (.f x)) => .ok x
  | some (.vw (.f x)) => .ok x
  | _ => .bad
@[simp] theorem ldP_va (x : FV) : ldP (some (.va (.f x))) = .ok x := rfl
@[simp] theorem ldP_rf (x : FV) : ldP (some (.rf (.f x))) = .ok x := rfl
@[simp] theorem ldP_vw (x : FV) : ldP (some (.vw (.f x))) = .ok x := rfl
@[simp] theorem vVar_ap (i : Nat) (e : Env) : vVar i e = ldP e[i]? := by
  unfold vVar ldP
  rfl
@[simp] theorem ldS_f (p : PyData) : ldS (.f (.d p)) = .ok p := rfl
@[simp] theorem ldS_dl (ds : List PyData) : ldS (SV.dl ds) = .ok (.list ds) := by
  show (match SV.leafs (ds.map fun p => .f (.d p)) with | some ds => Res.ok (PyData.list ds) | none => .bad) = _
  rw [leafs_map]
def ldD : Option Slot → Res PyData
  | some (.va s) => ldS s
  | some (.rf s) => ldS s
  | some (.vw s) => ldS s
  | _ => .bad
@[simp] theorem ldD_va (s : SV) : ldD (some (.va s)) = ldS s := rfl
@[simp] theorem ldD_rf (s : SV) : ldD (some (.rf s)) = ldS s := rfl
@[simp] theorem ldD_vw (s : SV) : ldD (some (.vw s)) = ldS s := rfl
@[simp] theorem vVarD_ap (i : Nat) (e : Env) : vVarD i e = ldD e[i]? := by
  unfold vVarD ldD ldS
  cases e[i]? with
  | none => rfl
  | some s =>
    cases s with
    | no => rfl
    | va s => cases s with
      | f x => cases x <;> rfl
      | _ => rfl
    | rf s => cases s with
      | f x => cases x <;> rfl
      | _ => rfl
    | vw s => cases s with
      | f x => cases x <;> rfl
      | _ => rfl
@[simp] theorem vC_ap (p : PyData) (e : Env) : vC p e = .ok (.d p) := rfl
@[simp] theorem v1_ap {α : Type} (h : PyData → Res α) (f : FD) (e : Env) : v1 h f e = (f e).bind h := rfl
@[simp] theorem v2_ap {α : Type} (h : PyData → PyData → Res α) (f g : FD) (e : Env) : v2 h f g e = (f e).bind fun x => (g e).bind fun y => h x y := rfl
@[simp] theorem vCmp_ap (c : Cop) (f g : FD) (e : Env) : vCmp c f g e = (f e).bind fun x => (g e).bind fun y => c.h x y := rfl
@[simp] theorem subI_i (i j : Int) : subI (.int i) (.int j) = .ok (.d (.int (i - j))) := rfl
@[simp] theorem cIf_yes {α : Type} {c : Prop} {a b : α} (h : c) : cIf c a b = a := cIf_pos h
@[simp] theorem modI_i (i j : Int) : modI (.int i) (.int j) = cIf (0 < j) (.ok (.d (.int (i % j)))) .bad := rfl
@[simp] theorem divI_i (i j : Int) : divI (.int i) (.int j) = cIf (0 < j ∧ j < 1073741824) (.ok (.d (.int (i / j)))) .bad := rfl
@[simp] theorem addV_i (i j : Int) : addV (.int i) (.int j) = .ok (.f (.d (.int (i + j)))) := rfl
@[simp] theorem addV_l (xs ys : List PyData) : addV (.list xs) (.list ys) = cIf (xs.length + ys.length ≤ 16777216) (.ok (SV.dl (xs ++ ys))) .bad := rfl
@[simp] theorem addV_t (xs ys : List PyData) : addV (.tuple xs) (.tuple ys) = cIf (xs.length + ys.length ≤ 16777216) (.ok (.f (.d (.tuple (xs ++ ys))))) .bad := rfl
@[simp] theorem mulV_i (i j : Int) : mulV (.int i) (.int j) = cIf ((-18446744073709551616 < i ∧ i < 18446744073709551616) ∨ (-18446744073709551616 < j ∧ j < 18446744073709551616)) (.ok (.f (.d (.int (i * j))))) .bad := rfl
@[simp] theorem mulV_rep (xs : List PyData) (k : Int) : mulV (.list xs) (.int k) = cIf (0 ≤ k ∧ k < 1000000 ∧ xs.length * k.toNat ≤ 16777216) (.ok (SV.dl (List.replicate k.toNat xs).flatten)) .bad := rfl
@[simp] theorem negI_i (i : Int) : negI (.int i) = .ok (.d (.int (-i))) := rfl
@[simp] theorem maxI_i (i j : Int) : maxI (.int i) (.int j) = .ok (.d (.int (if j > i then j else i))) := rfl
@[simp] theorem minI_i (i j : Int) : minI (.int i) (.int j) = .ok (.d (.int (if j < i then j else i))) := rfl
@[simp] theorem cop_lt (i j : Int) : Cop.h .lt (.int i) (.int j) = .ok (.d (.bool (decide (i < j)))) := rfl
@[simp] theorem cop_le (i j : Int) : Cop.h .le (.int i) (.int j) = .ok (.d (.bool (decide (i ≤ j)))) := rfl
@[simp] theorem cop_gt (i j : Int) : Cop.h .gt (.int i) (.int j) = .ok (.d (.bool (decide (j < i)))) := rfl
@[simp] theorem cop_ge (i j : Int) : Cop.h .ge (.int i) (.int j) = .ok (.d (.bool (decide (j ≤ i)))) := rfl
def fit : Nat → PyData → Bool
  | _, .none => true
  | _, .int _ => true
  | _, .str x => PyData.strOk x
  | n + 1, .list xs => xs.all (fit n)
  | n + 1, .tuple xs => xs.all (fit n)
  | _, _ => false
theorem fit_shape : ∀ (n : Nat) (d : PyData), fit n d = true → d.canLay0 = true ∧ d.depth ≤ n := by
  intro n
  induction n with
  | zero =>
    intro d h
    cases d with
    | none => exact ⟨by simp [PyData.canLay0], by simp [PyData.depth]⟩
    | int i => exact ⟨by simp [PyData.canLay0], by simp [PyData.depth]⟩
    | str x => exact ⟨by simpa [PyData.canLay0, fit] using h, by simp [PyData.depth]⟩
    | bool b => exact absurd h (by simp [fit])
    | list xs => exact absurd h (by simp [fit])
    | tuple xs => exact absurd h (by simp [fit])
    | dict xs => exact absurd h (by simp [fit])
  | succ n ih =>
    have key : ∀ xs : List PyData, xs.all (fit n) = true → PyData.canLayAll0 xs = true ∧ PyData.depthAll xs ≤ n := by
      intro xs
      induction xs with
      | nil => intro _; exact ⟨by simp [PyData.canLayAll0], by simp [PyData.depthAll]⟩
      | cons x xs ihx =>
        intro h
        rw [List.all_cons, Bool.and_eq_true] at h
        obtain ⟨a1, a2⟩ := ih x h.1
        obtain ⟨b1, b2⟩ := ihx h.2
        exact ⟨by simp [PyData.canLayAll0, a1, b1], by simp only [PyData.depthAll]; omega⟩
    intro d h
    cases d with
    | none => exact ⟨by simp [PyData.canLay0], by simp [PyData.depth]⟩
    | int i => exact ⟨by simp [PyData.canLay0], by simp [PyData.depth]⟩
    | str x => exact ⟨by simpa [PyData.canLay0, fit] using h, by simp [PyData.depth]⟩
    | bool b => exact absurd h (by simp [fit])
    | list xs =>
      obtain ⟨a, b⟩ := key xs (by simpa [fit] using h)
      exact ⟨by simpa [PyData.canLay0] using a, by simp only [PyData.depth]; omega⟩
    | tuple xs =>
      obtain ⟨a, b⟩ := key xs (by simpa [fit] using h)
      exact ⟨by simpa [PyData.canLay0] using a, by simp only [PyData.depth]; omega⟩
    | dict xs => exact absurd h (by simp [fit])
theorem fit_shaped {n : Nat} {d : PyData} (h : fit n d = true) (hn : n ≤ 64) : SeqAt.shaped d = true := by
  obtain ⟨a, b⟩ := fit_shape n d h
  unfold SeqAt.shaped
  rw [a, Bool.true_and]
  exact decide_eq_true (by omega)
theorem fit_eqv : ∀ (n : Nat) (d e : PyData), fit n d = true → fit n e = true → (PyData.eqv d e = true ↔ d = e) := by
  intro n
  induction n with
  | zero =>
    intro d e h h'
    cases d <;> cases e <;> simp_all [fit, PyData.eqv]
  | succ n ih =>
    have key : ∀ xs ys : List PyData, xs.all (fit n) = true → ys.all (fit n) = true → (PyData.eqvAll xs ys = true ↔ xs = ys) := by
      intro xs
      induction xs with
      | nil => intro ys _ _; cases ys <;> simp [PyData.eqvAll]
      | cons x xs ihx =>
        intro ys h h'
        cases ys with
        | nil => simp [PyData.eqvAll]
        | cons y ys =>
          rw [List.all_cons, Bool.and_eq_true] at h h'
          simp only [PyData.eqvAll, Bool.and_eq_true, ih x y h.1 h'.1, ihx ys h.2 h'.2, List.cons.injEq]
    intro d e h h'
    cases d with
    | list xs =>
      cases e with
      | list ys =>
        simp only [PyData.eqv, PyData.list.injEq]
        exact key xs ys (by simpa [fit] using h) (by simpa [fit] using h')
      | _ => simp_all [fit, PyData.eqv]
    | tuple xs =>
      cases e with
      | tuple ys =>
        simp only [PyData.eqv, PyData.tuple.injEq]
        exact key xs ys (by simpa [fit] using h) (by simpa [fit] using h')
      | _ => simp_all [fit, PyData.eqv]
    | _ => cases e <;> simp_all [fit, PyData.eqv]
open Classical in
theorem cop_eq {d e : PyData} (n : Nat) (h : fit n d = true) (h' : fit n e = true) (hn : n ≤ 64 := by decide) : Cop.h .eq d e = .ok (.d (.bool (decide (d = e)))) := by
  show eqP d e = _
  unfold eqP
  rw [if_pos ⟨fit_shaped h hn, fit_shaped h' hn⟩]
  have k := fit_eqv n d e h h'
  show Res.ok (FV.d (.bool (PyData.eqv d e))) = _
  by_cases q : d = e
  · rw [decide_eq_true q, k.mpr q]
  · rw [decide_eq_false q, Bool.eq_false_iff.mpr fun z => q (k.mp z)]
open Classical in
theorem cop_ne {d e : PyData} (n : Nat) (h : fit n d = true) (h' : fit n e = true) (hn : n ≤ 64 := by decide) : Cop.h .ne d e = .ok (.d (.bool (!decide (d = e)))) := by
  show neP d e = _
  unfold neP
  rw [if_pos ⟨fit_shaped h hn, fit_shaped h' hn⟩]
  have k := fit_eqv n d e h h'
  show Res.ok (FV.d (.bool (!PyData.eqv d e))) = _
  by_cases q : d = e
  · rw [decide_eq_true q, k.mpr q]
  · rw [decide_eq_false q, Bool.eq_false_iff.mpr fun z => q (k.mp z)]
@[simp] theorem cop_eq_i (i j : Int) : Cop.h .eq (.int i) (.int j) = .ok (.d (.bool (decide (i = j)))) := by
  rw [cop_eq 0 rfl rfl]
  simp
@[simp] theorem cop_ne_i (i j : Int) : Cop.h .ne (.int i) (.int j) = .ok (.d (.bool (!decide (i = j)))) := by
  rw [cop_ne 0 rfl rfl]
  simp
@[simp] theorem cop_eq_s (i j : Str) (hi : PyData.strOk i = true) (hj : PyData.strOk j = true) : Cop.h .eq (.str i) (.str j) = .ok (.d (.bool (decide (i = j)))) := by
  rw [cop_eq (d := .str i) (e := .str j) 0 hi hj]
  simp
@[simp] theorem cop_ne_s (i j : Str) (hi : PyData.strOk i = true) (hj : PyData.strOk j = true) : Cop.h .ne (.str i) (.str j) = .ok (.d (.bool (!decide (i = j)))) := by
  rw [cop_ne (d := .str i) (e := .str j) 0 hi hj]
  simp
def iL (ns : List Int) : PyData := .list (ns.map .int)
theorem fit_intsL (n : Nat) (ns : List Int) : (ns.map PyData.int).all (fit n) = true := by
  rw [List.all_eq_true]
  intro x m
  obtain ⟨i, _, rfl⟩ := List.mem_map.mp m
  cases n <;> rfl
theorem fit_ints (n : Nat) (ns : List Int) : fit (n + 1) (iL ns) = true := fit_intsL n ns
theorem map_int_inj {a b : List Int} : a.map PyData.int = b.map PyData.int ↔ a = b := by
  constructor
  · intro h
    induction a generalizing b with
    | nil => cases b with | nil => rfl | cons _ _ => cases h
    | cons x a ih => cases b with
      | nil => cases h
      | cons y b =>
        simp only [List.map_cons, List.cons.injEq, PyData.int.injEq] at h
        rw [h.1, ih h.2]
  · rintro rfl; rfl
@[simp] theorem cop_eq_ints (a b : List Int) : Cop.h .eq (.list (a.map .int)) (.list (b.map .int)) = .ok (.d (.bool (decide (a = b)))) := by
  rw [cop_eq (d := .list (a.map .int)) (e := .list (b.map .int)) 1 (fit_intsL 0 a) (fit_intsL 0 b)]
  simp [map_int_inj]
@[simp] theorem cop_ne_ints (a b : List Int) : Cop.h .ne (.list (a.map .int)) (.list (b.map .int)) = .ok (.d (.bool (!decide (a = b)))) := by
  rw [cop_ne (d := .list (a.map .int)) (e := .list (b.map .int)) 1 (fit_intsL 0 a) (fit_intsL 0 b)]
  simp [map_int_inj]
theorem inV_ints (x : Int) (ns : List Int) : inV (.int x) (ns.map fun i => V.int i) = decide (x ∈ ns) := by
  induction ns with
  | nil => rfl
  | cons n ns ih =>
    have e : inV (.int x) ((n :: ns).map fun i => V.int i) = ((n == x) || inV (.int x) (ns.map fun i => V.int i)) := rfl
    rw [e, ih]
    by_cases q : n = x
    · subst q; simp
    · have q' : ¬ x = n := fun z => q z.symm
      simp [q, q']
theorem flat_intsL (ns : List Int) : (ns.map PyData.int).all flatP = true := by
  rw [List.all_eq_true]
  intro x m
  obtain ⟨i, _, rfl⟩ := List.mem_map.mp m
  rfl
theorem toV_ints (ns : List Int) : (ns.map PyData.int).map toV = ns.map fun i => V.int i := by
  rw [List.map_map]; rfl
@[simp] theorem cop_in_ints (x : Int) (ns : List Int) : Cop.h .isin (.int x) (.list (ns.map .int)) = .ok (.d (.bool (decide (x ∈ ns)))) := by
  rw [show Cop.h .isin (.int x) (.list (ns.map .int)) = inP false (.int x) (.list (ns.map .int)) from rfl]
  show (if flatP (.int x) = true ∧ (ns.map PyData.int).all flatP = true then inB false (inV (toV (.int x)) ((ns.map PyData.int).map toV)) else _) = _
  rw [if_pos ⟨rfl, flat_intsL ns⟩, toV_ints]
  show Res.ok (FV.d (.bool (inV (.int x) _))) = _
  rw [inV_ints]
@[simp] theorem cop_notin_ints (x : Int) (ns : List Int) : Cop.h .notin (.int x) (.list (ns.map .int)) = .ok (.d (.bool (!decide (x ∈ ns)))) := by
  rw [show Cop.h .notin (.int x) (.list (ns.map .int)) = inP true (.int x) (.list (ns.map .int)) from rfl]
  show (if flatP (.int x) = true ∧ (ns.map PyData.int).all flatP = true then inB true (inV (toV (.int x)) ((ns.map PyData.int).map toV)) else _) = _
  rw [if_pos ⟨rfl, flat_intsL ns⟩, toV_ints]
  show Res.ok (FV.d (.bool (!inV (.int x) _))) = _
  rw [inV_ints]
@[simp] theorem cop_notin_tints (x : Int) (ns : List Int) : Cop.h .notin (.int x) (.tuple (ns.map .int)) = .ok (.d (.bool (!decide (x ∈ ns)))) := by
  rw [show Cop.h .notin (.int x) (.tuple (ns.map .int)) = inP true (.int x) (.tuple (ns.map .int)) from rfl]
  show (if flatP (.int x) = true ∧ (ns.map PyData.int).all flatP = true then inB true (inV (toV (.int x)) ((ns.map PyData.int).map toV)) else _) = _
  rw [if_pos ⟨rfl, flat_intsL ns⟩, toV_ints]
  show Res.ok (FV.d (.bool (!inV (.int x) _))) = _
  rw [inV_ints]
def bOf : FV → Res Bool
  | .d (.bool b) => .ok b
  | _ => .bad
@[simp] theorem bOf_b (b : Bool) : bOf (.d (.bool b)) = .ok b := rfl
@[simp] theorem toT_ap (f : FP) (e : Env) : toT f e = (f e).bind bOf := by
  exact bind_congr _ fun x => by
    cases x with
    | d p => cases p <;> rfl
    | _ => rfl
@[simp] theorem vAndT_ap (f g : FT) (e : Env) : vAndT f g e = (f e).bind fun b => if b = true then g e else .ok false := rfl
@[simp] theorem vOrT_ap (f g : FT) (e : Env) : vOrT f g e = (f e).bind fun b => if b = true then .ok true else g e := rfl
@[simp] theorem vNotT_ap (f : FT) (e : Env) : vNotT f e = (f e).bind fun b => .ok (!b) := rfl
@[simp] theorem bB_b {α : Type} (k : Bool → Res α) (b : Bool) : bB k (.d (.bool b)) = k b := rfl
@[simp] theorem vAnd_ap (f g : FP) (e : Env) : vAnd f g e = (f e).bind (bB fun b => if b = true then g e else .ok (.d (.bool false))) := rfl
@[simp] theorem vOr_ap (f g : FP) (e : Env) : vOr f g e = (f e).bind (bB fun b => if b = true then .ok (.d (.bool true)) else g e) := rfl
@[simp] theorem vNot_ap (f : FP) (e : Env) : vNot f e = (f e).bind (bB fun b => .ok (.d (.bool (!b)))) := rfl
@[simp] theorem vIf_ap {α : Type} (t : FT) (f g : Env → Res α) (e : Env) : vIf t f g e = (t e).bind fun b => if b = true then f e else g e := rfl
@[simp] theorem iB_ap (b : Bool) : iB b = .ok (.d (.bool b)) := rfl
@[simp] theorem iI_ap (b : Int) : iI b = .ok (.d (.int b)) := rfl
def chB (k : Res FV) : FV → Res FV
  | .d (.bool true) => k
  | .d (.bool false) => .ok (.d (.bool false))
  | _ => .bad
@[simp] theorem chB_b (k : Res FV) (b : Bool) : chB k (.d (.bool b)) = if b = true then k else .ok (.d (.bool false)) := by cases b <;> rfl
@[simp] theorem vChain_ap (c c' : Cop) (f g h : FD) (e : Env) : vChain c c' f g h e = (f e).bind fun x => (g e).bind fun y => (c.h x y).bind (chB ((h e).bind fun z => c'.h y z)) := by
  exact bind_congr _ fun x => bind_congr _ fun y => bind_congr _ fun z => by
    cases z with
    | d p => cases p with
      | bool b => cases b <;> rfl
      | _ => rfl
    | _ => rfl
@[simp] theorem isN_none : isN .none = true := rfl
@[simp] theorem isN_int (i : Int) : isN (.int i) = false := rfl
@[simp] theorem isN_str (i : Str) : isN (.str i) = false := rfl
@[simp] theorem isN_list (i : List PyData) : isN (.list i) = false := rfl
@[simp] theorem isN_tuple (i : List PyData) : isN (.tuple i) = false := rfl
@[simp] theorem isN_bool (i : Bool) : isN (.bool i) = false := rfl
@[simp] theorem isI_int (i : Int) : isI .int (.int i) = true := rfl
@[simp] theorem isI_intB (i : Int) : isI .bool (.int i) = false := rfl
@[simp] theorem isI_intL (i : Int) : isI .list (.int i) = false := rfl
@[simp] theorem isI_intT (i : Int) : isI .tuple (.int i) = false := rfl
@[simp] theorem isI_listL (i : List PyData) : isI .list (.list i) = true := rfl
@[simp] theorem isI_listT (i : List PyData) : isI .tuple (.list i) = false := rfl
@[simp] theorem isI_listI (i : List PyData) : isI .int (.list i) = false := rfl
@[simp] theorem isI_tupL (i : List PyData) : isI .list (.tuple i) = false := rfl
@[simp] theorem isI_tupT (i : List PyData) : isI .tuple (.tuple i) = true := rfl
@[simp] theorem isI_noneL : isI .list .none = false := rfl
@[simp] theorem isI_noneT : isI .tuple .none = false := rfl
@[simp] theorem isI_noneI : isI .int .none = false := rfl
@[simp] theorem vFld_ap (cn n : Str) (f : FP) (e : Env) : vFld cn n f e = (f e).bind (fldP cn n) := rfl
def oP : Option PyData → Res FV
  | some d => .ok (.d d)
  | none => .bad
@[simp] theorem oP_some (d : PyData) : oP (some d) = .ok (.d d) := rfl
@[simp] theorem ixP_l (ds : List PyData) (i : Int) : ixP (.list ds) (.int i) = oP (atI ds i) := rfl
@[simp] theorem ixP_t (ds : List PyData) (i : Int) : ixP (.tuple ds) (.int i) = oP (atI ds i) := rfl
def oI : Option Int → Res FV
  | some d => .ok (.d (.int d))
  | none => .bad
theorem atI_pos {α : Type} {xs : List α} {i : Int} (h0 : 0 ≤ i) : atI xs i = xs[i.toNat]? := by
  unfold L2.atI L2.ixN
  rw [if_pos h0]
  by_cases h : i < xs.length
  · rw [if_pos h]; rfl
  · rw [if_neg h]
    show none = _
    rw [List.getElem?_eq_none (by omega)]
@[simp] theorem vNil_ap (e : Env) : vNil e = .ok [] := rfl
@[simp] theorem vCons_ap (f : FD) (g : Env → Res (List PyData)) (e : Env) : vCons f g e = (f e).bind fun x => (g e).bind fun xs => .ok (x :: xs) := rfl
@[simp] theorem vLst_ap (g : Env → Res (List PyData)) (e : Env) : vLst g e = (g e).bind fun xs => cIf (xs.length ≤ 16777216) (.ok (SV.dl xs)) .bad := rfl
@[simp] theorem vTup_ap (g : Env → Res (List PyData)) (e : Env) : vTup g e = (g e).bind fun xs => cIf (xs.length ≤ 16777216) (.ok (.d (.tuple xs))) .bad := rfl
@[simp] theorem aN_ap (e : Env) : aN e = .ok [] := rfl
@[simp] theorem aC_ap (f : FP) (g : Env → Res (List FV)) (e : Env) : aC f g e = (f e).bind fun x => (g e).bind fun xs => .ok (x :: xs) := rfl
@[simp] theorem lenP_l (ds : List PyData) : lenP (.list ds) = .ok (.d (.int ds.length)) := rfl
@[simp] theorem lenP_t (ds : List PyData) : lenP (.tuple ds) = .ok (.d (.int ds.length)) := rfl
@[simp] theorem listP_l (ds : List PyData) : listP (.list ds) = .ok (SV.dl ds) := rfl
@[simp] theorem listP_t (ds : List PyData) : listP (.tuple ds) = .ok (SV.dl ds) := rfl
@[simp] theorem sumP_ints (ns : List Int) : sumP (.list (ns.map .int)) = .ok (.d (.int ns.sum)) := by
  show (match intsOf (ns.map .int) with | some ns => iI ns.sum | none => .bad) = _
  rw [intsOf_map]; rfl
@[simp] theorem allP_bools (ns : List Bool) : allP (.list (ns.map .bool)) = .ok (.d (.bool (ns.all id))) := by
  show (match boolsOf (ns.map .bool) with | some ns => iB (ns.all id) | none => .bad) = _
  rw [boolsOf_map]; rfl
@[simp] theorem sortP_ints (ns : List Int) : sortP (.list (ns.map .int)) = .ok (SV.dl ((srtI ns).map .int)) := by
  show (match intsOf (ns.map .int) with | some ns => Res.ok (SV.dl ((srtI ns).map .int)) | none => .bad) = _
  rw [intsOf_map]
@[simp] theorem intP_i (i : Int) : intP (.int i) = .ok (.f (.d (.int i))) := rfl
@[simp] theorem intP_b (b : Bool) : intP (.bool b) = .ok (.f (.d (.int (if b then 1 else 0)))) := rfl
def run (S : Fn) (xs : List FV) : Res FV := (outR (S (xs.map vaF))).bind frF
@[simp] theorem vCall_fr (S : Fn) (fs : Env → Res (List FV)) (e : Env) : (vCall S fs e).bind frF = (fs e).bind (run S) := by
  unfold vCall run
  rw [bind_assoc]
def Flow.andThen (f : Flow) (g : ST) : Flow := match f with
  | .nx e => g e
  | r => r
@[simp] theorem andThen_nx (e : Env) (g : ST) : (Flow.nx e).andThen g = g e := rfl
@[simp] theorem andThen_rt (v : SV) (e : Env) (g : ST) : (Flow.rt v e).andThen g = .rt v e := rfl
@[simp] theorem andThen_err (c : Str) (e : Env) (g : ST) : (Flow.err c e).andThen g = .err c e := rfl
@[simp] theorem andThen_bad (g : ST) : (Flow.bad).andThen g = .bad := rfl
@[simp] theorem vSeq_ap (f g : ST) (e : Env) : vSeq f g e = (f e).andThen g := by
  unfold vSeq Flow.andThen
  cases f e <;> rfl
@[simp] theorem vSkip_ap (e : Env) : vSkip e = .nx e := rfl
@[simp] theorem ofR_ok {α : Type} (a : α) (e : Env) (k : α → Flow) : ofR (.ok a) e k = k a := rfl
@[simp] theorem ofR_err {α : Type} (c : Str) (e : Env) (k : α → Flow) : ofR (.err c : Res α) e k = .err c e := rfl
@[simp] theorem ofR_bad {α : Type} (e : Env) (k : α → Flow) : ofR (.bad : Res α) e k = .bad := rfl
def free : Slot → Bool
  | .rf _ => false
  | _ => true
@[simp] theorem free_no : free .no = true := id rfl
@[simp] theorem free_va (s : SV) : free (.va s) = true := id rfl
@[simp] theorem free_vw (s : SV) : free (.vw s) = true := id rfl
theorem setS_ap {e : Env} {i : Nat} {s t : Slot} (h : e[i]? = some t) (f : free t = true) : setS e i s = .nx (e.set i s) := by
  unfold setS
  have : canSet e i = true := by
    unfold canSet
    rw [h]
    cases t <;> first | rfl | cases f
  rw [if_pos this]
@[simp] theorem setS_0 (t : Slot) (r : Env) (s : Slot) (f : free t = true) : setS (t :: r) 0 s = .nx (s :: r) := setS_ap (t := t) rfl f
@[simp] theorem setS_1 (a t : Slot) (r : Env) (s : Slot) (f : free t = true) : setS (a :: t :: r) 1 s = .nx (a :: s :: r) := setS_ap (t := t) rfl f
@[simp] theorem setS_2 (a b t : Slot) (r : Env) (s : Slot) (f : free t = true) : setS (a :: b :: t :: r) 2 s = .nx (a :: b :: s :: r) := setS_ap (t := t) rfl f
@[simp] theorem setS_n (i : Nat) (a b c : Slot) (r : Env) (s : Slot) (f : ((r[i]?).map free) = some true) : setS (a :: b :: c :: r) (i + 3) s = .nx (a :: b :: c :: r.set i s) := by
  cases z : r[i]? with
  | none => rw [z] at f; cases f
  | some t =>
    rw [z] at f
    exact setS_ap (t := t) (by simpa using z) (Option.some.inj f)
@[simp] theorem vSet_ap (i : Nat) (f : FP) (e : Env) : vSet i f e = ofR (f e) e fun x => setS e i (.va (.f x)) := rfl
@[simp] theorem vSetO_ap (i : Nat) (f : FO) (e : Env) : vSetO i f e = ofR (f e) e fun x => setS e i (.va x) := rfl
@[simp] theorem vIfS_ap (t : FT) (f g : ST) (e : Env) : vIfS t f g e = ofR (t e) e fun b => if b = true then f e else g e := rfl
@[simp] theorem vRaise_ap (c : Str) (e : Env) : vRaise c e = .err c e := rfl
@[simp] theorem vRetN_ap (e : Env) : vRetN e = .rt (.f (.d .none)) e := rfl
@[simp] theorem vRetP_ap (f : FP) (e : Env) : vRetP f e = ofR (f e) e fun x => .rt (.f x) e := rfl
@[simp] theorem vRet_ap (f : FO) (e : Env) : vRet f e = ofR (f e) e fun x => .rt x e := rfl
def fin : Flow → Res FV
  | .rt s _ => frF s
  | .nx _ => .ok (.d .none)
  | .err c _ => .err c
  | .bad => .bad
@[simp] theorem fin_rt (s : SV) (e : Env) : fin (.rt s e) = frF s := rfl
@[simp] theorem fin_nx (e : Env) : fin (.nx e) = .ok (.d .none) := rfl
@[simp] theorem fin_err (c : Str) (e : Env) : fin (.err c e) = .err c := rfl
@[simp] theorem fin_ret (r : Res SV) (e : Env) : fin (ofR r e fun s => .rt s e) = r.bind frF := by cases r <;> rfl
theorem run_mk (nl : Nat) (body : ST) (xs : List FV) : run (mkFn nl body) xs = fin (body (xs.map vaF ++ List.replicate nl .no)) := by
  unfold run mkFn
  cases body (xs.map vaF ++ List.replicate nl .no) <;> rfl
@[simp] theorem vaF_eq (x : FV) : vaF x = .va (.f x) := rfl
@[simp] theorem vItL_ap (f : FD) (e : Env) : vItL f e = (f e).bind asL := rfl
@[simp] theorem asL_l (ds : List PyData) : asL (.list ds) = .ok ds := rfl
@[simp] theorem vItRev_ap (f : FD) (e : Env) : vItRev f e = (f e).bind fun x => (asL x).bind fun ds => .ok ds.reverse := rfl
@[simp] theorem vItEnum_ap (f : FD) (e : Env) : vItEnum f e = (f e).bind fun x => (asL x).bind fun ds => .ok (enumP 0 ds) := rfl
@[simp] theorem vItZip_ap (f g : FD) (e : Env) : vItZip f g e = (f e).bind fun x => (g e).bind fun y => (asL x).bind fun ds => (asL y).bind fun es => .ok (zipP ds es) := rfl
@[simp] theorem rng1_ap (j : Int) : rng1 (.int j) = cIf (-4611686018427387904 ≤ j ∧ j < 4611686018427387904) (.ok (rngP 0 j.toNat)) .bad := rfl
@[simp] theorem rng2_ap (i j : Int) : rng2 (.int i) (.int j) = cIf (-4611686018427387904 ≤ i ∧ i < 4611686018427387904 ∧ -4611686018427387904 ≤ j ∧ j < 4611686018427387904) (.ok (rngP i (j - i).toNat)) .bad := rfl
@[simp] theorem lrg2_ap (i j : Int) : lrg2 (.int i) (.int j) = cIf (0 ≤ i ∧ i ≤ 16777216 ∧ 0 ≤ j ∧ j ≤ 16777216) (.ok (SV.dl (rngP i (j - i).toNat))) .bad := rfl
@[simp] theorem vFor_ap (it : IT) (g : Tgt) (b : ST) (e : Env) : vFor it g b e = ofR (it e) e fun items => forL g b items e := rfl
@[simp] theorem forL_nil (g : Tgt) (b : ST) (e : Env) : forL g b [] e = .nx e := rfl
theorem gN_ap {i : Nat} {x : PyData} {e : Env} {t : Slot} (h : e[i]? = some t) (f : free t = true) : gN i x e = some (e.set i (.va (.f (.d x)))) := by
  unfold gN
  have : canSet e i = true := by
    unfold canSet
    rw [h]
    cases t <;> first | rfl | cases f
  rw [if_pos this]
@[simp] theorem gN_0 (x : PyData) (t : Slot) (r : Env) (f : free t = true) : gN 0 x (t :: r) = some (.va (.f (.d x)) :: r) := gN_ap (t := t) rfl f
@[simp] theorem gN_1 (x : PyData) (a t : Slot) (r : Env) (f : free t = true) : gN 1 x (a :: t :: r) = some (a :: .va (.f (.d x)) :: r) := gN_ap (t := t) rfl f
@[simp] theorem gN_2 (x : PyData) (a b t : Slot) (r : Env) (f : free t = true) : gN 2 x (a :: b :: t :: r) = some (a :: b :: .va (.f (.d x)) :: r) := gN_ap (t := t) rfl f
@[simp] theorem gN_n (i : Nat) (x : PyData) (a b c : Slot) (r : Env) (f : ((r[i]?).map free) = some true) : gN (i + 3) x (a :: b :: c :: r) = some (a :: b :: c :: r.set i (.va (.f (.d x)))) := by
  cases z : r[i]? with
  | none => rw [z] at f; cases f
  | some t =>
    rw [z] at f
    exact gN_ap (t := t) (by simpa using z) (Option.some.inj f)
@[simp] theorem gsN_ap (e : Env) : gsN [] e = some e := rfl
@[simp] theorem gsC_ap (g : Tgt) (r : Tgts) (x : PyData) (xs : List PyData) (e : Env) : gsC g r (x :: xs) e = (g x e).bind (r xs) := rfl
@[simp] theorem gT_ap (n : Nat) (g : Tgts) (ds : List PyData) (e : Env) : gT n g (.tuple ds) e = if ds.length = n then g ds e else none := rfl
@[simp] theorem wipeE_nil (e : Env) : wipeE e [] = e := rfl
@[simp] theorem wipeE_cons (e : Env) (v : Nat) (vs : List Nat) : wipeE e (v :: vs) = (wipeE e vs).set v .no := rfl
@[simp] theorem vYes_ap (e : Env) : vYes e = .ok true := rfl
@[simp] theorem noE_ok' {α : Type} (a : α) : noE (.ok a) = .ok a := rfl
theorem vComp_ap (it : IT) (g : Tgt) (t : FT) (elt : FO) (vs : List Nat) (e : Env) : vComp it g t elt vs e = (it e).bind fun items => cIf (items.length ≤ 16777216) ((compL g t elt (wipeE e vs) items).bind fun ys => .ok (.own ys)) .bad := rfl
def turnC (g : Tgt) (t : FT) (elt : FO) (e : Env) (x : PyData) : Res (Option SV) := match g x e with
  | none => .bad
  | some e1 => (t e1).bind fun b => if b = true then (elt e1).bind fun y => .ok (some y) else .ok none
theorem compL_ap {g : Tgt} {t : FT} {elt : FO} {e : Env} {F : PyData → Option PyData} : ∀ {items : List PyData}, (∀ x ∈ items, ∃ o : Option SV, turnC g t elt e x = .ok o ∧ (o.map SV.frz) = (F x).map some) → ∃ ys, compL g t elt e items = .ok ys ∧ SV.frzs ys = some (items.filterMap F)
  | [], _ => ⟨[], rfl, rfl⟩
  | x :: items, h => by
    obtain ⟨ys, h1, h2⟩ := compL_ap (items := items) fun y m => h y (List.mem_cons_of_mem _ m)
    obtain ⟨o, k1, k2⟩ := h x List.mem_cons_self
    unfold turnC at k1
    show ∃ ys, (match g x e with | none => Res.bad | some e1 => (noE (t e1)).bind fun b => if b = true then (noE (elt e1)).bind fun y => (compL g t elt e items).bind fun ys => .ok (y :: ys) else compL g t elt e items) = .ok ys ∧ _
    cases z : g x e with
    | none => rw [z] at k1; cases k1
    | some e1 =>
      rw [z] at k1
      dsimp only at k1 ⊢
      cases zt : t e1 with
      | err c => rw [zt] at k1; cases k1
      | bad => rw [zt] at k1; cases k1
      | ok b =>
        rw [zt] at k1
        rw [noE_ok', bind_ok]
        rw [bind_ok] at k1
        cases b with
        | false =>
          rw [if_neg Bool.false_ne_true] at k1 ⊢
          cases k1
          refine ⟨ys, h1, ?_⟩
          cases zF : F x with
          | none => rw [h2, List.filterMap_cons_none zF]
          | some y => rw [zF] at k2; cases k2
        | true =>
          rw [if_pos rfl] at k1 ⊢
          cases ze : elt e1 with
          | err c => rw [ze] at k1; cases k1
          | bad => rw [ze] at k1; cases k1
          | ok y =>
            rw [ze, bind_ok] at k1
            cases k1
            rw [noE_ok', bind_ok, h1, bind_ok]
            refine ⟨y :: ys, rfl, ?_⟩
            cases zF : F x with
            | none => rw [zF] at k2; cases k2
            | some p =>
              rw [zF] at k2
              have k3 : SV.frz y = some p := Option.some.inj k2
              rw [List.filterMap_cons_some zF]
              show (match SV.frz y, SV.frzs ys with | some p, some ps => some (p :: ps) | _, _ => none) = _
              rw [k3, h2]
theorem comp_fr {it : IT} {g : Tgt} {t : FT} {elt : FO} {vs : List Nat} {e : Env} {items : List PyData} (F : PyData → Option PyData) (hi : it e = .ok items) (hl : items.length ≤ 16777216)
    (h : ∀ x ∈ items, ∃ o : Option SV, turnC g t elt (wipeE e vs) x = .ok o ∧ (o.map SV.frz) = (F x).map some) : (vComp it g t elt vs e).bind frF = .ok (.d (.list (items.filterMap F))) := by
  obtain ⟨ys, h1, h2⟩ := compL_ap h
  rw [vComp_ap, hi, bind_ok, cIf_pos hl, h1, bind_ok, bind_ok]
  unfold frF
  show (match (SV.frzs ys).map (fun ps => FV.d (.list ps)) with | some x => Res.ok x | none => .bad) = _
  rw [h2]
  rfl
theorem frz_of_frF {s : SV} {p : PyData} (h : frF s = .ok (.d p)) : SV.frz s = some p := by
  have k := frz_frF s
  rw [h] at k
  cases z : s.frz with
  | none => rw [z] at k; cases k
  | some q => rw [z] at k; cases k; rfl
theorem comp_map {it : IT} {g : Tgt} {elt : FO} {vs : List Nat} {e : Env} {items : List PyData} (F : PyData → PyData) (hi : it e = .ok items) (hl : items.length ≤ 16777216)
    (h : ∀ x ∈ items, ∃ e1, g x (wipeE e vs) = some e1 ∧ (elt e1).bind frF = .ok (.d (F x))) : (vComp it g vYes elt vs e).bind frF = .ok (.d (.list (items.map F))) := by
  rw [comp_fr (fun x => some (F x)) hi hl fun x m => ?_]
  · rw [List.filterMap_eq_map']
  · obtain ⟨e1, h1, h2⟩ := h x m
    cases z : elt e1 with
    | err c => rw [z] at h2; cases h2
    | bad => rw [z] at h2; cases h2
    | ok s =>
      rw [z] at h2
      refine ⟨some s, ?_, ?_⟩
      · unfold turnC
        rw [h1]
        dsimp only
        rw [vYes_ap, bind_ok, if_pos rfl, z, bind_ok]
      · rw [Option.map_some, Option.map_some, frz_of_frF h2]

@[simp] theorem ite_andThen (c : Prop) [Decidable c] (a b : Flow) (g : ST) : (if c then a else b).andThen g = if c then a.andThen g else b.andThen g := by split <;> rfl
@[simp] theorem ite_bind {α β : Type} (c : Prop) [Decidable c] (a b : Res α) (k : α → Res β) : (if c then a else b).bind k = if c then a.bind k else b.bind k := by split <;> rfl
@[simp] theorem ite_ofR {α : Type} (c : Prop) [Decidable c] (a b : Res α) (e : Env) (k : α → Flow) : ofR (if c then a else b) e k = if c then ofR a e k else ofR b e k := by split <;> rfl
@[simp] theorem fin_ite (c : Prop) [Decidable c] (a b : Flow) : fin (if c then a else b) = if c then fin a else fin b := by split <;> rfl
def ixS1 (ns : List Int) : PyData → Res FV
  | .int i => oI (atI ns i)
  | _ => .bad
@[simp] theorem ixS1_sc (ns : List Int) (i : Int) : ixS1 ns (.int i) = oI (atI ns i) := rfl
def ixS2 (r : Res PyData) : FV → Res FV
  | .sc ns => r.bind (ixS1 ns)
  | _ => .bad
@[simp] theorem ixS2_sc (r : Res PyData) (ns : List Int) : ixS2 r (.sc ns) = r.bind (ixS1 ns) := rfl
@[simp] theorem ixS_ap (f : FP) (g : FD) (e : Env) : ixS f g e = (f e).bind (ixS2 (g e)) := by
  unfold ixS
  refine bind_congr _ fun x => ?_
  cases x with
  | sc ns =>
    refine bind_congr _ fun y => ?_
    cases y with
    | int i =>
      show (match atI ns i with | some d => iI d | none => .bad) = oI (atI ns i)
      cases atI ns i <;> rfl
    | _ => rfl
  | _ => rfl
@[simp] theorem oI_some (i : Int) : oI (some i) = .ok (.d (.int i)) := rfl
def lenS1 : FV → Res FV
  | .sc ns => .ok (.d (.int ns.length))
  | _ => .bad
@[simp] theorem lenS1_sc (ns : List Int) : lenS1 (.sc ns) = .ok (.d (.int ns.length)) := rfl
@[simp] theorem vLenS_ap (f : FP) (e : Env) : vLenS f e = (f e).bind lenS1 := by
  unfold vLenS
  exact bind_congr _ fun x => by cases x <;> rfl
@[simp] theorem nth_0 {α : Type} (a : α) (r : List α) : (a :: r)[0]? = some a := rfl
@[simp] theorem nth_s {α : Type} (a : α) (r : List α) (i : Nat) : (a :: r)[i + 1]? = r[i]? := rfl
def tbl (p h f : Int) : FV := .ob "Table" [("prime", .int p), ("hands", .int h), ("few", .int f)]
@[simp] theorem tbl_p (p h f : Int) : fldP "Table" "prime" (tbl p h f) = .ok (.d (.int p)) := by rfl
@[simp] theorem tbl_h (p h f : Int) : fldP "Table" "hands" (tbl p h f) = .ok (.d (.int h)) := by rfl
@[simp] theorem tbl_f (p h f : Int) : fldP "Table" "few" (tbl p h f) = .ok (.d (.int f)) := by rfl
end VL

set_option Elab.async false
set_option linter.all false
set_option maxRecDepth 100000
set_option maxHeartbeats 4000000
namespace VL
open PySem PySem.Spec PyProof.Rows L2
def rdS : Option Slot → Option SV
  | some (.va s) => some s
  | some (.rf s) => some s
  | some (.vw s) => some s
  | _ => none
@[simp] theorem rdS_va (s : SV) : rdS (some (.va s)) = some s := rfl
@[simp] theorem rdS_rf (s : SV) : rdS (some (.rf s)) = some s := rfl
@[simp] theorem rdS_vw (s : SV) : rdS (some (.vw s)) = some s := rfl
@[simp] theorem rd_ap (e : Env) (i : Nat) : rd e i = rdS e[i]? := by
  unfold rd rdS
  rfl
def plO (i : Nat) : Option SV → Res Plc
  | some s => .ok (i, [], s)
  | none => .bad
@[simp] theorem plO_some (i : Nat) (s : SV) : plO i (some s) = .ok (i, [], s) := rfl
@[simp] theorem plN_ap (i : Nat) (e : Env) : plN i e = plO i (rd e i) := by
  unfold plN plO
  rfl
@[simp] theorem plX_ap (f : Env → Res Plc) (g : FD) (e : Env) : plX f g e = (f e).bind fun x => (g e).bind (plX1 x) := rfl
@[simp] theorem plF_ap (cn n : Str) (f : Env → Res Plc) (e : Env) : plF cn n f e = (f e).bind (plS (.fld cn n)) := rfl
@[simp] theorem plP_ap (f : Env → Res Plc) (e : Env) : plP f e = (f e).bind plP1 := rfl
@[simp] theorem plD_ap (f : Env → Res Plc) (e : Env) : plD f e = (f e).bind fun x => ldS x.2.2 := rfl
@[simp] theorem plL_ap (f : Env → Res Plc) (e : Env) : plL f e = (f e).bind plL1 := rfl
@[simp] theorem plX1_int (x : Plc) (k : Int) : plX1 x (.int k) = plS (.ix k) x := rfl
@[simp] theorem plP1_f (i : Nat) (ps : List Pst) (x : FV) : plP1 (i, ps, .f x) = .ok x := rfl
@[simp] theorem plL1_own (i : Nat) (ps : List Pst) (xs : List SV) : plL1 (i, ps, .own xs) = .ok (.d (.int xs.length)) := rfl
@[simp] theorem plL1_dl (i : Nat) (ps : List Pst) (ds : List PyData) : plL1 (i, ps, SV.dl ds) = .ok (.d (.int ds.length)) := by
  show Res.ok (FV.d (.int ((ds.map fun p => SV.f (.d p)).length : Nat))) = _
  rw [List.length_map]
def SV.dll (qs : List (List PyData)) : SV := .own (qs.map SV.dl)
theorem frzs_dll (qs : List (List PyData)) : SV.frzs (qs.map SV.dl) = some (qs.map .list) := by
  induction qs with
  | nil => rfl
  | cons q qs ih =>
    show (match SV.frz (SV.dl q), SV.frzs (qs.map SV.dl) with | some p, some ps => some (p :: ps) | _, _ => none) = _
    rw [frz_dl, ih]
    rfl
@[simp] theorem frF_dll (qs : List (List PyData)) : frF (SV.dll qs) = .ok (.d (.list (qs.map .list))) := by
  unfold frF
  show (match (SV.frzs (qs.map SV.dl)).map (fun ps => FV.d (.list ps)) with | some x => Res.ok x | none => .bad) = _
  rw [frzs_dll]
  rfl
@[simp] theorem lstP_own (i : Nat) (ps : List Pst) (xs : List SV) : lstP (i, ps, .own xs) = .ok (i, ps, .own xs) := rfl
@[simp] theorem lstP_dl (i : Nat) (ps : List Pst) (ds : List PyData) : lstP (i, ps, SV.dl ds) = .ok (i, ps, SV.dl ds) := rfl
@[simp] theorem lstP_dll (i : Nat) (ps : List Pst) (ds : List (List PyData)) : lstP (i, ps, SV.dll ds) = .ok (i, ps, SV.dll ds) := rfl
@[simp] theorem dv_va (s : SV) : dv (.va s) = .va s := rfl
@[simp] theorem dv_rf (s : SV) : dv (.rf s) = .rf s := rfl
@[simp] theorem dv_vw (s : SV) : dv (.vw s) = .no := rfl
@[simp] theorem dv_no : dv .no = .no := rfl
@[simp] theorem free_dv (s : Slot) : free (dv s) = free s := by cases s <;> rfl
theorem tree_va {e : Env} {i : Nat} {s : SV} (h : e[i]? = some (.va s)) : tree e i = some (.va, s) := by unfold tree; rw [h]
@[simp] theorem vSetI_ap (f : Env → Res Plc) (g : FD) (h : FO) (e : Env) : vSetI f g h e = ofR (h e) e fun s => ofR ((f e).bind lstP) e fun x => ofR (g e) e fun k => setI1 e x s k := rfl
@[simp] theorem setI_dl {e : Env} {i : Nat} {ds : List PyData} {k : Int} {p : PyData} (h : e[i]? = some (.va (SV.dl ds))) (h0 : 0 ≤ k) (h1 : k < ds.length) : setI1 e (i, [], SV.dl ds) (.f (.d p)) (.int k) = .nx ((e.map dv).set i (.va (SV.dl (ds.set k.toNat p)))) := by
  show (match ixN (ds.map fun p => SV.f (.d p)).length k with | some j => (match putP e (i, [], SV.dl ds) ((ds.map fun p => SV.f (.d p)).set j (.f (.d p))) with | some e => Flow.nx e | none => .bad) | none => .bad) = _
  have hx : ixN (ds.map fun p => SV.f (.d p)).length k = some k.toNat := by
    unfold ixN
    rw [if_pos h0, if_pos (by rw [List.length_map]; exact h1)]
  rw [hx]
  dsimp only
  unfold putP
  rw [tree_va h]
  show Flow.nx ((e.map dv).set i (.va (.own ((ds.map fun p => SV.f (.d p)).set k.toNat (.f (.d p)))))) = _
  rw [show (ds.map fun p => SV.f (.d p)).set k.toNat (.f (.d p)) = (ds.set k.toNat p).map fun p => SV.f (.d p) from (List.map_set ..).symm]
  rfl
@[simp] theorem obind_ok {α β : Type} (a : α) (e : Env) (k : α → Env → Out β) : (Out.ok a e).bind k = k a e := rfl
@[simp] theorem obind_err {α β : Type} (c : Str) (k : α → Env → Out β) : (Out.err c : Out α).bind k = .err c := rfl
@[simp] theorem oR_ok {α β : Type} (a : α) (k : α → Out β) : oR (.ok a) k = k a := rfl
@[simp] theorem oR_err {α β : Type} (c : Str) (k : α → Out β) : oR (.err c : Res α) k = .err c := rfl
@[simp] theorem ofO_ok {α : Type} (a : α) (e env : Env) (k : α → Env → Flow) : ofO (.ok a e) env k = k a e := rfl
@[simp] theorem ofO_err {α : Type} (c : Str) (env : Env) (k : α → Env → Flow) : ofO (.err c : Out α) env k = .err c (env.map keepF) := rfl
@[simp] theorem vEx_ap (f : FE) (e : Env) : vEx f e = ofO (f e) e fun _ e => .nx e := rfl
@[simp] theorem vSetE_ap (i : Nat) (f : FE) (e : Env) : vSetE i f e = ofO (f e) e fun s e => setS e i (.va s) := rfl
@[simp] theorem vRetE_ap (f : FE) (e : Env) : vRetE f e = ofO (f e) e fun s e => .rt s e := rfl
@[simp] theorem eO_ap (f : FO) (e : Env) : eO f e = oR (f e) fun s => .ok s e := rfl
@[simp] theorem vApp_ap (f : Env → Res Plc) (g : FO) (e : Env) : vApp f g e = oR ((f e).bind lstP) fun x => oR (g e) fun s => vApp1 e x s := rfl
@[simp] theorem app_dl {e : Env} {i : Nat} {ds : List PyData} {p : PyData} (h : e[i]? = some (.va (SV.dl ds))) (hl : ds.length < 16777216) : vApp1 e (i, [], SV.dl ds) (.f (.d p)) = .ok (.f (.d .none)) ((e.map dv).set i (.va (SV.dl (ds ++ [p])))) := by
  show cIf ((ds.map fun p => SV.f (.d p)).length < 16777216) (oE (.f (.d .none)) (putP e (i, [], SV.dl ds) ((ds.map fun p => SV.f (.d p)) ++ [.f (.d p)]))) .bad = _
  rw [cIf_pos (by rw [List.length_map]; exact hl)]
  unfold putP
  rw [tree_va h]
  show Out.ok (SV.f (.d .none)) ((e.map dv).set i (.va (.own ((ds.map fun p => SV.f (.d p)) ++ [.f (.d p)])))) = _
  rw [show (ds.map fun p => SV.f (.d p)) ++ [SV.f (.d p)] = (ds ++ [p]).map fun p => SV.f (.d p) by rw [List.map_append]; rfl]
  rfl
@[simp] theorem app_dll {e : Env} {i : Nat} {ds : List (List PyData)} {p : List PyData} (h : e[i]? = some (.va (SV.dll ds))) (hl : ds.length < 16777216) : vApp1 e (i, [], SV.dll ds) (SV.dl p) = .ok (.f (.d .none)) ((e.map dv).set i (.va (SV.dll (ds ++ [p])))) := by
  show cIf ((ds.map SV.dl).length < 16777216) (oE (.f (.d .none)) (putP e (i, [], SV.dll ds) ((ds.map SV.dl) ++ [SV.dl p]))) .bad = _
  rw [cIf_pos (by rw [List.length_map]; exact hl)]
  unfold putP
  rw [tree_va h]
  show Out.ok (SV.f (.d .none)) ((e.map dv).set i (.va (.own ((ds.map SV.dl) ++ [SV.dl p])))) = _
  rw [show (ds.map SV.dl) ++ [SV.dl p] = (ds ++ [p]).map SV.dl by rw [List.map_append]; rfl]
  rfl
def fzA (i : Nat) (e : Env) : Res FV → Flow
  | .ok x => .nx (e.set i (.va (.f x)))
  | _ => .bad
@[simp] theorem fzA_ok (i : Nat) (e : Env) (x : FV) : fzA i e (.ok x) = .nx (e.set i (.va (.f x))) := rfl
def fzB (i : Nat) (e : Env) : Option Slot → Flow
  | some (.va s) => fzA i e (frF s)
  | some (.rf s) => (match frF s with | .ok x => .nx (e.set i (.rf (.f x))) | _ => .bad)
  | _ => .bad
@[simp] theorem fzB_va (i : Nat) (e : Env) (s : SV) : fzB i e (some (.va s)) = fzA i e (frF s) := rfl
@[simp] theorem vFrz_ap (i : Nat) (e : Env) : vFrz i [] e = fzB i e e[i]? := by
  unfold vFrz frzE tree fzB fzA frF
  cases e[i]? with
  | none => rfl
  | some sl =>
    cases sl with
    | no => rfl
    | vw _ => rfl
    | va s => simp only [subS]; cases s.frz? <;> rfl
    | rf s => simp only [subS]; cases s.frz? <;> rfl
@[simp] theorem vRetV_va (i : Nat) (e : Env) (s : SV) (h : e[i]? = some (.va s)) : vRetV i e = .rt s (e.set i .no) := by
  unfold vRetV; rw [h]
@[simp] theorem vDrop_ap (f : FO) (e : Env) : vDrop f e = ofR (f e) e fun _ => .nx e := rfl
@[simp] theorem ret_andThen {α : Type} (r : Res α) (e e' : Env) (k : α → SV) (g : ST) : (ofR r e fun a => Flow.rt (k a) e').andThen g = ofR r e fun a => Flow.rt (k a) e' := by cases r <;> rfl
def partI : PyData → Res (Option Int)
  | .int i => .ok (some i)
  | _ => .bad
@[simp] theorem partI_int (i : Int) : partI (.int i) = .ok (some i) := rfl
@[simp] theorem vNoPart_ap (e : Env) : vNoPart e = .ok none := rfl
@[simp] theorem vPart_ap (f : FD) (e : Env) : vPart f e = (f e).bind partI := by
  unfold vPart
  exact bind_congr _ fun x => by cases x <;> rfl
@[simp] theorem vSl_ap (f : FD) (lo hi : FI) (e : Env) : vSl f lo hi e = (f e).bind fun x => (lo e).bind fun l => (hi e).bind fun h => slP x l h := rfl
@[simp] theorem slP_l (ds : List PyData) (lo hi : Option Int) : slP (.list ds) lo hi = .ok (SV.dl (cutP ds lo hi)) := rfl
@[simp] theorem slP_t (ds : List PyData) (lo hi : Option Int) : slP (.tuple ds) lo hi = .ok (.f (.d (.tuple (cutP ds lo hi)))) := rfl
end VL

set_option Elab.async false
set_option linter.all false
set_option maxRecDepth 100000
set_option maxHeartbeats 4000000
namespace VL
open PySem PySem.Spec PyProof.Rows L2

def cellAt (ns : List Int) (k : Int) : Int := ns.getD k.toNat 0
@[simp] theorem run_cell (ns : List Int) (k : Int) (hk : 0 ≤ k) : run S__law_cell_at [.sc ns, .d (.int k)] = .ok (.d (.int (cellAt ns k))) := by
  unfold S__law_cell_at B__law_cell_at
  rw [run_mk]
  simp
  unfold cellAt
  split
  · rename_i h
    rw [atI_pos hk, List.getElem?_eq_getElem (by omega)]
    simp [show k.toNat < ns.length by omega]
  · rename_i h
    simp [List.getD, List.getElem?_eq_none (show ns.length ≤ k.toNat by omega)]
def unI : PyData → Int
  | .int i => i
  | _ => 0
@[simp] theorem unI_int (i : Int) : unI (.int i) = i := rfl
@[simp] theorem run_whole_i (i : Int) : run S__law_whole [.d (.int i)] = .ok (.d (.bool true)) := by
  unfold S__law_whole B__law_whole
  rw [run_mk]
  simp
structure Tb (p h f : Int) : Prop where
  pr : p ∈ ([5, 7, 11, 13, 17, 19, 23, 29, 31] : List Int)
  h3 : 3 ≤ h
  h7 : h ≤ 7
  hp : h < p
  f1 : 1 ≤ f
  f2 : f ≤ 2
  fh : 2 * f < h
theorem Tb.pos {p h f : Int} (t : Tb p h f) : 5 ≤ p ∧ p ≤ 31 := by
  have := t.pr
  simp only [List.mem_cons, List.not_mem_nil, or_false] at this
  omega
def runM (c : Str) (S : Fn) (xs : List FV) : Res FV := (outM (S (.rf (.obj c []) :: xs.map vaF))).bind frF
@[simp] theorem vMake_fr (c : Str) (S : Fn) (fs : Env → Res (List FV)) (e : Env) : (vMake c S fs e).bind frF = (fs e).bind (runM c S) := by
  unfold vMake runM
  rw [bind_assoc]
def finM : Flow → Res FV
  | .rt (.f (.d .none)) (.rf s :: _) => frF s
  | .nx (.rf s :: _) => frF s
  | .err c _ => .err c
  | _ => .bad
theorem runM_mk (c : Str) (nl : Nat) (body : ST) (xs : List FV) : runM c (mkFn nl body) xs = finM (body (.rf (.obj c []) :: (xs.map vaF ++ List.replicate nl .no))) := by
  unfold runM mkFn
  show (outM (match body (.rf (.obj c []) :: (xs.map vaF ++ List.replicate nl .no)) with | .rt s e => .ret s (backA _ e) | .nx e => .ret (.f (.d .none)) (backA _ e) | .err c _ => .exc c | .bad => .bad)).bind frF = _
  cases body (.rf (.obj c []) :: (xs.map vaF ++ List.replicate nl .no)) with
  | nx e =>
    cases e with
    | nil => rfl
    | cons s e => cases s <;> rfl
  | rt v e =>
    cases v with
    | f x =>
      cases x with
      | d p =>
        cases p with
        | none => cases e with
          | nil => rfl
          | cons s e => cases s <;> rfl
        | _ => cases e <;> rfl
      | _ => cases e <;> rfl
    | _ => cases e <;> rfl
  | err c e => rfl
  | bad => rfl
theorem run_table (p h f : Int) (t : Tb p h f) : runM "Table" S_Table___init__ [.d (.int p), .d (.int h), .d (.int f)] = .ok (tbl p h f) := by
  unfold S_Table___init__ B_Table___init__
  rw [runM_mk]
  have h1 := t.pr
  have h2 := t.h3
  have h3 := t.h7
  have h4 := t.hp
  have h5 := t.f1
  have h6 := t.f2
  have h7 := t.fh
  rw [vSeq_ap]
  rw [show (vIfS (vOrT (toT (vCmp .notin (vVarD 1) (toD (vC (.tuple (([5, 7, 11, 13, 17, 19, 23, 29, 31] : List Int).map .int)))))) (vOrT (vNotT (toT (vChain .le .le (toD (vC (.int 3))) (vVarD 2) (toD (vC (.int 7)))))) (toT (vCmp .ge (vVarD 2) (vVarD 1))))) (vRaise "BadTable") vSkip)
    (.rf (.obj "Table" []) :: ([FV.d (.int p), .d (.int h), .d (.int f)].map vaF ++ List.replicate 0 .no)) = .nx (.rf (.obj "Table" []) :: ([FV.d (.int p), .d (.int h), .d (.int f)].map vaF ++ List.replicate 0 .no)) from ?_]
  · rw [andThen_nx, vSeq_ap]
    rw [show (vIfS (vOrT (vNotT (toT (vChain .le .le (toD (vC (.int 1))) (vVarD 3) (toD (vC (.int 2)))))) (toT (vCmp .ge (frD (v2 mulV (toD (vC (.int 2))) (vVarD 3))) (vVarD 2)))) (vRaise "BadTable") vSkip)
      (.rf (.obj "Table" []) :: ([FV.d (.int p), .d (.int h), .d (.int f)].map vaF ++ List.replicate 0 .no)) = .nx (.rf (.obj "Table" []) :: ([FV.d (.int p), .d (.int h), .d (.int f)].map vaF ++ List.replicate 0 .no)) from ?_]
    · rfl
    · simp (disch := first | rfl | assumption | omega | simp) [h5, h6]
      omega
  · have hr : ∀ e : Env, e[1]? = some (.va (.f (.d (.int p)))) → vCmp .notin (vVarD 1) (toD (vC (.tuple (([5, 7, 11, 13, 17, 19, 23, 29, 31] : List Int).map .int)))) e = .ok (.d (.bool false)) := fun e he => by
      rw [vCmp_ap, vVarD_ap, he, ldD_va, ldS_f, bind_ok, toD_ap, vC_ap, bind_ok, dOf_d, bind_ok, cop_notin_tints, decide_eq_true h1]
      rfl
    rw [vIfS_ap, vOrT_ap, toT_ap, hr _ rfl]
    simp (disch := first | rfl | assumption | omega | simp) [h2, h3]
    omega
def tabP (c : Int) : Int := ([5, 7, 11, 13, 17, 19, 23, 29, 31] : List Int).getD (c % 9).toNat 0
theorem tabP_at (c : Int) : atI ([.int 5, .int 7, .int 11, .int 13, .int 17, .int 19, .int 23, .int 29, .int 31] : List PyData) (c % 9) = some (.int (tabP c)) := by
  have h0 : 0 ≤ c % 9 := Int.emod_nonneg _ (by omega)
  have h9 : c % 9 < 9 := Int.emod_lt_of_pos _ (by omega)
  rw [atI_pos h0]
  unfold tabP
  have : (c % 9).toNat < 9 := by omega
  generalize (c % 9).toNat = k at this
  match k, this with
  | 0, _ => rfl
  | 1, _ => rfl
  | 2, _ => rfl
  | 3, _ => rfl
  | 4, _ => rfl
  | 5, _ => rfl
  | 6, _ => rfl
  | 7, _ => rfl
  | 8, _ => rfl
end VL

set_option Elab.async false
set_option linter.all false
set_option maxRecDepth 100000
set_option maxHeartbeats 4000000
namespace VL
open PySem PySem.Spec PyProof.Rows L2

def peval : List Int → Int → Int
  | [], _ => 0
  | a :: r, x => a + x * peval r x
theorem Tb.mul {p h f : Int} (t : Tb p h f) {a : Int} (h0 : 0 ≤ a) (h1 : a < p) : -18446744073709551616 < a ∧ a < 18446744073709551616 := by
  have := t.pos; omega
theorem law_end {S : Fn} {x : FV} (h : run S [x] = .ok (.d (.bool true))) : ∃ a, S [.va (.f x)] = .ret (.f (.d (.bool true))) a := by
  unfold run at h
  cases z : S ([x].map vaF) with
  | ret s a =>
    rw [z] at h
    have h' : frF s = .ok (.d (.bool true)) := h
    cases s with
    | f y =>
      cases h'
      exact ⟨a, z⟩
    | own xs =>
      have h2 : (match (SV.frzs xs).map (fun ps => FV.d (.list ps)) with | some x => Res.ok x | none => .bad) = Res.ok (FV.d (.bool true)) := h'
      cases q : SV.frzs xs with
      | none => rw [q] at h2; cases h2
      | some ps => rw [q] at h2; cases h2
    | otup xs =>
      have h2 : (match (SV.frzs xs).map (fun ps => FV.d (.tuple ps)) with | some x => Res.ok x | none => .bad) = Res.ok (FV.d (.bool true)) := h'
      cases q : SV.frzs xs with
      | none => rw [q] at h2; cases h2
      | some ps => rw [q] at h2; cases h2
    | obj c fs =>
      have h2 : (match (SV.frzf fs).map (fun ps => FV.ob c ps) with | some x => Res.ok x | none => .bad) = Res.ok (FV.d (.bool true)) := h'
      cases q : SV.frzf fs with
      | none => rw [q] at h2; cases h2
      | some ps => rw [q] at h2; cases h2
  | exc c => rw [z] at h; cases h
  | bad => rw [z] at h; cases h
end VL

set_option Elab.async false
set_option linter.all false
set_option maxRecDepth 100000
set_option maxHeartbeats 4000000
namespace VL
open PySem PySem.Spec PyProof.Rows L2

def Flow.wp (f : Flow) (P : Env → Prop) : Prop := match f with
  | .nx e => P e
  | _ => False
@[simp] theorem wp_nx (e : Env) (P : Env → Prop) : (Flow.nx e).wp P = P e := rfl
@[simp] theorem wp_andThen (f : Flow) (g : ST) (P : Env → Prop) : (f.andThen g).wp P = f.wp fun e => (g e).wp P := by cases f <;> rfl
@[simp] theorem wp_ite (c : Prop) [Decidable c] (a b : Flow) (P : Env → Prop) : (if c then a else b).wp P = if c then a.wp P else b.wp P := by split <;> rfl
theorem wp_imp {f : Flow} {P Q : Env → Prop} (h : f.wp P) (k : ∀ e, P e → Q e) : f.wp Q := by
  cases f with
  | nx e => exact k e h
  | _ => exact h.elim
def oW (o : Option Env) (P : Env → Prop) : Prop := match o with
  | some e => P e
  | none => False
@[simp] theorem oW_some (e : Env) (P : Env → Prop) : oW (some e) P = P e := rfl
theorem fin_wp {f : Flow} {k : ST} {R : Res FV} (h : f.wp fun e => fin (k e) = R) : fin (f.andThen k) = R := by
  cases f with
  | nx e => exact h
  | _ => exact h.elim
def bkI (p n : Int) : Nat → Int
  | 0 => 1
  | k + 1 => bkI p n k * n % p
def bk (p n : Int) : Int := bkI p n (p - 2).toNat
end VL

set_option Elab.async false
set_option linter.all false
set_option maxRecDepth 100000
set_option maxHeartbeats 4000000
namespace VL
open PySem PySem.Spec PyProof.Rows L2
def finO : Flow → Res SV
  | .rt s _ => .ok s
  | .nx _ => .ok (.f (.d .none))
  | .err c _ => .err c
  | .bad => .bad
@[simp] theorem finO_rt (s : SV) (e : Env) : finO (.rt s e) = .ok s := rfl
@[simp] theorem finO_err (c : Str) (e : Env) : finO (.err c e) = .err c := rfl
@[simp] theorem finO_ret (r : Res SV) (e : Env) : finO (ofR r e fun s => .rt s e) = r := by cases r <;> rfl
@[simp] theorem finO_ite (c : Prop) [Decidable c] (a b : Flow) : finO (if c then a else b) = if c then finO a else finO b := by split <;> rfl
end VL

set_option Elab.async false
set_option linter.all false
set_option maxRecDepth 100000
set_option maxHeartbeats 4000000
namespace VL
open PySem PySem.Spec PyProof.Rows L2

def Rng (p : Int) (F : List Int) : Prop := ∀ c ∈ F, 0 ≤ c ∧ c < p
theorem Rng.set {p : Int} {F : List Int} (h : Rng p F) {i : Nat} {c : Int} (hc : 0 ≤ c ∧ c < p) : Rng p (F.set i c) := fun d m => by
  rcases List.mem_or_eq_of_mem_set m with q | q
  · exact h d q
  · rw [q]; exact hc
theorem Rng.rep {p : Int} (hp : 0 < p) (n : Nat) : Rng p (List.replicate n 0) := fun d m => by
  rw [(List.mem_replicate.mp m).2]; omega
def Cg (p a b : Int) : Prop := ∃ k, a = b + p * k
theorem Cg.refl (p a : Int) : Cg p a a := ⟨0, by omega⟩
theorem Cg.symm {p a b : Int} (h : Cg p a b) : Cg p b a := by obtain ⟨k, h⟩ := h; exact ⟨-k, by grind⟩
theorem Cg.trans {p a b c : Int} (h : Cg p a b) (h' : Cg p b c) : Cg p a c := by
  obtain ⟨k, h⟩ := h; obtain ⟨j, h'⟩ := h'; exact ⟨k + j, by grind⟩
theorem Cg.add {p a b c d : Int} (h : Cg p a b) (h' : Cg p c d) : Cg p (a + c) (b + d) := by
  obtain ⟨k, h⟩ := h; obtain ⟨j, h'⟩ := h'; exact ⟨k + j, by grind⟩
theorem Cg.mul {p a b c d : Int} (h : Cg p a b) (h' : Cg p c d) : Cg p (a * c) (b * d) := by
  obtain ⟨k, h⟩ := h; obtain ⟨j, h'⟩ := h'; exact ⟨b * j + k * d + p * k * j, by grind⟩
theorem Cg.mod_eq {p a b : Int} (h : Cg p a b) : a % p = b % p := by
  obtain ⟨k, h⟩ := h
  rw [h, Int.add_mul_emod_self_left]
theorem Cg.eq {p a b : Int} (h : Cg p a b) (ha : 0 ≤ a ∧ a < p) (hb : 0 ≤ b ∧ b < p) : a = b := by
  have := h.mod_eq
  rwa [Int.emod_eq_of_lt ha.1 ha.2, Int.emod_eq_of_lt hb.1 hb.2] at this
end VL

set_option Elab.async false
set_option linter.all false
set_option maxRecDepth 100000
set_option maxHeartbeats 4000000
namespace VL
open PySem PySem.Spec PyProof.Rows L2

def Flow.wx (f : Flow) (c : Str) (E : Prop) (P : Env → Prop) : Prop := match f with
  | .nx e => P e
  | .err d _ => d = c ∧ E
  | _ => False
@[simp] theorem wx_nx (e : Env) (c : Str) (E : Prop) (P : Env → Prop) : (Flow.nx e).wx c E P = P e := rfl
@[simp] theorem wx_err (d : Str) (e : Env) (c : Str) (E : Prop) (P : Env → Prop) : (Flow.err d e).wx c E P = (d = c ∧ E) := rfl
@[simp] theorem wx_andThen (f : Flow) (g : ST) (c : Str) (E : Prop) (P : Env → Prop) : (f.andThen g).wx c E P = f.wx c E fun e => (g e).wx c E P := by cases f <;> rfl
@[simp] theorem wx_ite (b : Prop) [Decidable b] (x y : Flow) (c : Str) (E : Prop) (P : Env → Prop) : (if b then x else y).wx c E P = if b then x.wx c E P else y.wx c E P := by split <;> rfl
end VL

set_option Elab.async false
set_option linter.all false
set_option maxRecDepth 100000
set_option maxHeartbeats 4000000
namespace VL
open PySem PySem.Spec PyProof.Rows L2

def allT (n : Nat) : PyData := .list ((List.replicate n true).map .bool)
@[simp] theorem allP_T (n : Nat) : allP (allT n) = .ok (.d (.bool true)) := by
  unfold allT
  rw [allP_bools]
  have : ((List.replicate n true).all id) = true := by rw [List.all_eq_true]; intro x m; rw [(List.mem_replicate.mp m).2]; rfl
  rw [this]
theorem comp_true {it : IT} {g : Tgt} {elt : FO} {vs : List Nat} {e : Env} {items : List PyData} (hi : it e = .ok items) (hl : items.length ≤ 16777216)
    (h : ∀ x ∈ items, ∃ e1, g x (wipeE e vs) = some e1 ∧ (elt e1).bind frF = .ok (.d (.bool true))) : (vComp it g vYes elt vs e).bind frF = .ok (.d (allT items.length)) := by
  rw [comp_map (fun _ => .bool true) hi hl h]
  unfold allT
  rw [List.map_replicate]
  congr 3
  clear h hl hi
  induction items with
  | nil => rfl
  | cons x items ih => rw [List.map_cons, ih]; rfl
@[simp] theorem all_tt {α : Type} (items : List α) : ((items.map fun _ => true).all id) = true := by
  rw [List.all_eq_true]; intro x m; obtain ⟨_, _, rfl⟩ := List.mem_map.mp m; rfl

end VL

set_option Elab.async false
set_option linter.all false
set_option maxRecDepth 100000
set_option maxHeartbeats 4000000
namespace VL
open PySem PySem.Spec PyProof.Rows L2

def rowsD (rows : List (List Int)) : List (List PyData) := rows.map fun r => r.map .int
def rowsP (rows : List (List Int)) : PyData := .list (rows.map fun r => .list (r.map .int))
end VL

set_option Elab.async false
set_option linter.all false
set_option maxRecDepth 100000
set_option maxHeartbeats 4000000
namespace VL
open PySem PySem.Spec PyProof.Rows L2

theorem step_nx {f g : ST} {e e' : Env} {R : Res FV} (h : f e = .nx e') (k : fin (g e') = R) : fin (vSeq f g e) = R := by
  rw [vSeq_ap, h]
  exact k
theorem step_wp {f g : ST} {e : Env} {P : Env → Prop} {R : Res FV} (h : (f e).wp P) (k : ∀ e', P e' → fin (g e') = R) : fin (vSeq f g e) = R := by
  rw [vSeq_ap]
  exact fin_wp (wp_imp h k)
end VL

set_option Elab.async false
set_option linter.all false
set_option maxRecDepth 100000
set_option maxHeartbeats 4000000
namespace VL
open PySem PySem.Spec PyProof.Rows L2

end VL

set_option Elab.async false
set_option linter.all false
set_option maxRecDepth 100000
set_option maxHeartbeats 4000000
namespace VL
open PySem PySem.Spec PyProof.Rows L2

def Flow.wr (f : Flow) (R : Res FV → Prop) (P : Env → Prop) : Prop := match f with
  | .nx e => P e
  | f => R (fin f)
@[simp] theorem wr_nx (e : Env) (R : Res FV → Prop) (P : Env → Prop) : (Flow.nx e).wr R P = P e := rfl
@[simp] theorem wr_rt (s : SV) (e : Env) (R : Res FV → Prop) (P : Env → Prop) : (Flow.rt s e).wr R P = R (frF s) := rfl
@[simp] theorem wr_err (c : Str) (e : Env) (R : Res FV → Prop) (P : Env → Prop) : (Flow.err c e).wr R P = R (.err c) := rfl
@[simp] theorem wr_andThen (f : Flow) (g : ST) (R : Res FV → Prop) (P : Env → Prop) : (f.andThen g).wr R P = f.wr R fun e => (g e).wr R P := by cases f <;> rfl
@[simp] theorem wr_ite (c : Prop) [Decidable c] (a b : Flow) (R : Res FV → Prop) (P : Env → Prop) : (if c then a else b).wr R P = if c then a.wr R P else b.wr R P := by split <;> rfl
end VL

set_option Elab.async false
set_option linter.all false
set_option maxRecDepth 100000
set_option maxHeartbeats 4000000
namespace VL
open PySem PySem.Spec PyProof.Rows L2

end VL

set_option Elab.async false
set_option linter.all false
set_option maxRecDepth 100000
set_option maxHeartbeats 4000000
namespace VL
open PySem PySem.Spec PyProof.Rows L2

end VL

set_option Elab.async false
set_option linter.all false
set_option maxRecDepth 100000
set_option maxHeartbeats 4000000
namespace VL
open PySem PySem.Spec PyProof.Rows L2

end VL

set_option Elab.async false
set_option linter.all false
set_option maxRecDepth 100000
set_option maxHeartbeats 4000000
namespace VL
open PySem PySem.Spec PyProof.Rows L2

end VL

set_option Elab.async false
set_option linter.all false
set_option maxRecDepth 100000
set_option maxHeartbeats 4000000
namespace VL
open PySem PySem.Spec PyProof.Rows L2

structure Sok (p h : Int) (S : List (Option Int)) : Prop where
  len : S.length = h.toNat
  rng : ∀ v, some v ∈ S → 0 ≤ v ∧ v < p
theorem Sok.set {p h : Int} {S : List (Option Int)} (s : Sok p h S) (i : Nat) {o : Option Int} (ho : ∀ v, o = some v → 0 ≤ v ∧ v < p) : Sok p h (S.set i o) :=
  ⟨by rw [List.length_set, s.len], fun v m => by
    rcases List.mem_or_eq_of_mem_set m with z | z
    · exact s.rng v z
    · exact ho v z.symm⟩
end VL

set_option Elab.async false
set_option linter.all false
set_option maxRecDepth 100000
set_option maxHeartbeats 4000000
namespace VL
open PySem PySem.Spec PyProof.Rows L2

@[simp] theorem sok_in : PyData.strOk (Str.ofString "in") = true := by decide +kernel
@[simp] theorem sok_fix : PyData.strOk (Str.ofString "fix") = true := by decide +kernel
@[simp] theorem sok_by : PyData.strOk (Str.ofString "by") = true := by decide +kernel
@[simp] theorem sok_sum : PyData.strOk (Str.ofString "sum") = true := by decide +kernel
@[simp] theorem sok_less : PyData.strOk (Str.ofString "less") = true := by decide +kernel
@[simp] theorem sok_mul : PyData.strOk (Str.ofString "mul") = true := by decide +kernel
@[simp] theorem sok_anew : PyData.strOk (Str.ofString "anew") = true := by decide +kernel
@[simp] theorem sok_open : PyData.strOk (Str.ofString "open") = true := by decide +kernel
@[simp] theorem w_in_fix : (Str.ofString "in" = Str.ofString "fix") = False := eq_false (by decide +kernel)
@[simp] theorem w_in_by : (Str.ofString "in" = Str.ofString "by") = False := eq_false (by decide +kernel)
@[simp] theorem w_in_sum : (Str.ofString "in" = Str.ofString "sum") = False := eq_false (by decide +kernel)
@[simp] theorem w_in_less : (Str.ofString "in" = Str.ofString "less") = False := eq_false (by decide +kernel)
@[simp] theorem w_in_mul : (Str.ofString "in" = Str.ofString "mul") = False := eq_false (by decide +kernel)
@[simp] theorem w_in_anew : (Str.ofString "in" = Str.ofString "anew") = False := eq_false (by decide +kernel)
@[simp] theorem w_in_open : (Str.ofString "in" = Str.ofString "open") = False := eq_false (by decide +kernel)
@[simp] theorem w_fix_in : (Str.ofString "fix" = Str.ofString "in") = False := eq_false (by decide +kernel)
@[simp] theorem w_fix_by : (Str.ofString "fix" = Str.ofString "by") = False := eq_false (by decide +kernel)
@[simp] theorem w_fix_sum : (Str.ofString "fix" = Str.ofString "sum") = False := eq_false (by decide +kernel)
@[simp] theorem w_fix_less : (Str.ofString "fix" = Str.ofString "less") = False := eq_false (by decide +kernel)
@[simp] theorem w_fix_mul : (Str.ofString "fix" = Str.ofString "mul") = False := eq_false (by decide +kernel)
@[simp] theorem w_fix_anew : (Str.ofString "fix" = Str.ofString "anew") = False := eq_false (by decide +kernel)
@[simp] theorem w_fix_open : (Str.ofString "fix" = Str.ofString "open") = False := eq_false (by decide +kernel)
@[simp] theorem w_by_in : (Str.ofString "by" = Str.ofString "in") = False := eq_false (by decide +kernel)
@[simp] theorem w_by_fix : (Str.ofString "by" = Str.ofString "fix") = False := eq_false (by decide +kernel)
@[simp] theorem w_by_sum : (Str.ofString "by" = Str.ofString "sum") = False := eq_false (by decide +kernel)
@[simp] theorem w_by_less : (Str.ofString "by" = Str.ofString "less") = False := eq_false (by decide +kernel)
@[simp] theorem w_by_mul : (Str.ofString "by" = Str.ofString "mul") = False := eq_false (by decide +kernel)
@[simp] theorem w_by_anew : (Str.ofString "by" = Str.ofString "anew") = False := eq_false (by decide +kernel)
@[simp] theorem w_by_open : (Str.ofString "by" = Str.ofString "open") = False := eq_false (by decide +kernel)
@[simp] theorem w_sum_in : (Str.ofString "sum" = Str.ofString "in") = False := eq_false (by decide +kernel)
@[simp] theorem w_sum_fix : (Str.ofString "sum" = Str.ofString "fix") = False := eq_false (by decide +kernel)
@[simp] theorem w_sum_by : (Str.ofString "sum" = Str.ofString "by") = False := eq_false (by decide +kernel)
@[simp] theorem w_sum_less : (Str.ofString "sum" = Str.ofString "less") = False := eq_false (by decide +kernel)
@[simp] theorem w_sum_mul : (Str.ofString "sum" = Str.ofString "mul") = False := eq_false (by decide +kernel)
@[simp] theorem w_sum_anew : (Str.ofString "sum" = Str.ofString "anew") = False := eq_false (by decide +kernel)
@[simp] theorem w_sum_open : (Str.ofString "sum" = Str.ofString "open") = False := eq_false (by decide +kernel)
@[simp] theorem w_less_in : (Str.ofString "less" = Str.ofString "in") = False := eq_false (by decide +kernel)
@[simp] theorem w_less_fix : (Str.ofString "less" = Str.ofString "fix") = False := eq_false (by decide +kernel)
@[simp] theorem w_less_by : (Str.ofString "less" = Str.ofString "by") = False := eq_false (by decide +kernel)
@[simp] theorem w_less_sum : (Str.ofString "less" = Str.ofString "sum") = False := eq_false (by decide +kernel)
@[simp] theorem w_less_mul : (Str.ofString "less" = Str.ofString "mul") = False := eq_false (by decide +kernel)
@[simp] theorem w_less_anew : (Str.ofString "less" = Str.ofString "anew") = False := eq_false (by decide +kernel)
@[simp] theorem w_less_open : (Str.ofString "less" = Str.ofString "open") = False := eq_false (by decide +kernel)
@[simp] theorem w_mul_in : (Str.ofString "mul" = Str.ofString "in") = False := eq_false (by decide +kernel)
@[simp] theorem w_mul_fix : (Str.ofString "mul" = Str.ofString "fix") = False := eq_false (by decide +kernel)
@[simp] theorem w_mul_by : (Str.ofString "mul" = Str.ofString "by") = False := eq_false (by decide +kernel)
@[simp] theorem w_mul_sum : (Str.ofString "mul" = Str.ofString "sum") = False := eq_false (by decide +kernel)
@[simp] theorem w_mul_less : (Str.ofString "mul" = Str.ofString "less") = False := eq_false (by decide +kernel)
@[simp] theorem w_mul_anew : (Str.ofString "mul" = Str.ofString "anew") = False := eq_false (by decide +kernel)
@[simp] theorem w_mul_open : (Str.ofString "mul" = Str.ofString "open") = False := eq_false (by decide +kernel)
@[simp] theorem w_anew_in : (Str.ofString "anew" = Str.ofString "in") = False := eq_false (by decide +kernel)
@[simp] theorem w_anew_fix : (Str.ofString "anew" = Str.ofString "fix") = False := eq_false (by decide +kernel)
@[simp] theorem w_anew_by : (Str.ofString "anew" = Str.ofString "by") = False := eq_false (by decide +kernel)
@[simp] theorem w_anew_sum : (Str.ofString "anew" = Str.ofString "sum") = False := eq_false (by decide +kernel)
@[simp] theorem w_anew_less : (Str.ofString "anew" = Str.ofString "less") = False := eq_false (by decide +kernel)
@[simp] theorem w_anew_mul : (Str.ofString "anew" = Str.ofString "mul") = False := eq_false (by decide +kernel)
@[simp] theorem w_anew_open : (Str.ofString "anew" = Str.ofString "open") = False := eq_false (by decide +kernel)
@[simp] theorem w_open_in : (Str.ofString "open" = Str.ofString "in") = False := eq_false (by decide +kernel)
@[simp] theorem w_open_fix : (Str.ofString "open" = Str.ofString "fix") = False := eq_false (by decide +kernel)
@[simp] theorem w_open_by : (Str.ofString "open" = Str.ofString "by") = False := eq_false (by decide +kernel)
@[simp] theorem w_open_sum : (Str.ofString "open" = Str.ofString "sum") = False := eq_false (by decide +kernel)
@[simp] theorem w_open_less : (Str.ofString "open" = Str.ofString "less") = False := eq_false (by decide +kernel)
@[simp] theorem w_open_mul : (Str.ofString "open" = Str.ofString "mul") = False := eq_false (by decide +kernel)
@[simp] theorem w_open_anew : (Str.ofString "open" = Str.ofString "anew") = False := eq_false (by decide +kernel)
inductive Op where
  | inn (hand : Int)
  | fix (n : Int)
  | byy (a n : Int)
  | sum (a b : Int)
  | less (a b : Int)
  | mul (a b : Int)
  | anew (a : Int)
  | opn (a : Int)
def Op.D : Op → PyData
  | .inn hd => .tuple [.str "in", .int hd]
  | .fix n => .tuple [.str "fix", .int n]
  | .byy a n => .tuple [.str "by", .int a, .int n]
  | .sum a b => .tuple [.str "sum", .int a, .int b]
  | .less a b => .tuple [.str "less", .int a, .int b]
  | .mul a b => .tuple [.str "mul", .int a, .int b]
  | .anew a => .tuple [.str "anew", .int a]
  | .opn a => .tuple [.str "open", .int a]
def Op.ok (p h at_ : Int) : Op → Bool
  | .inn hd => decide (1 ≤ hd) && decide (hd ≤ h)
  | .fix n => decide (0 ≤ n) && decide (n < p)
  | .byy a n => (decide (0 ≤ a) && decide (a < at_)) && (decide (0 ≤ n) && decide (n < p))
  | .sum a b => (decide (0 ≤ a) && decide (a < at_)) && (decide (0 ≤ b) && decide (b < at_))
  | .less a b => (decide (0 ≤ a) && decide (a < at_)) && (decide (0 ≤ b) && decide (b < at_))
  | .mul a b => (decide (0 ≤ a) && decide (a < at_)) && (decide (0 ≤ b) && decide (b < at_))
  | .anew a => decide (0 ≤ a) && decide (a < at_)
  | .opn a => decide (0 ≤ a) && decide (a < at_)
def opsD (os : List Op) : PyData := .list (os.map Op.D)
end VL

set_option Elab.async false
set_option linter.all false
set_option maxRecDepth 100000
set_option maxHeartbeats 4000000
namespace VL
open PySem PySem.Spec PyProof.Rows L2

def opsT (os : List Op) : SV := SV.dl (os.map Op.D)
end VL

set_option Elab.async false
set_option linter.all false
set_option maxRecDepth 100000
set_option maxHeartbeats 4000000
namespace VL
open PySem PySem.Spec PyProof.Rows L2

@[simp] theorem isI_bb (b : Bool) : isI .bool (.bool b) = true := rfl
end VL

set_option Elab.async false
set_option linter.all false
set_option maxRecDepth 100000
set_option maxHeartbeats 4000000
namespace VL
open PySem PySem.Spec PyProof.Rows L2

theorem strOk_D : ∀ o : Op, fit 1 o.D = true := fun o => by cases o <;> (unfold Op.D fit; simp [fit])
theorem fit_ops (os : List Op) : fit 2 (opsD os) = true := by
  unfold opsD
  show (os.map Op.D).all (fit 1) = true
  rw [List.all_eq_true]
  intro x m
  obtain ⟨o, _, rfl⟩ := List.mem_map.mp m
  exact strOk_D o
@[simp] theorem cop_eq_ops (os : List Op) : Cop.h .eq (opsD os) (opsD os) = .ok (.d (.bool true)) := by
  rw [cop_eq 2 (fit_ops os) (fit_ops os)]
  simp
@[simp] theorem frF_opsT (os : List Op) : frF (opsT os) = .ok (.d (opsD os)) := frF_dl _
end VL

set_option Elab.async false
set_option linter.all false
set_option maxRecDepth 100000
set_option maxHeartbeats 4000000
namespace VL
open PySem PySem.Spec PyProof.Rows L2

@[simp] theorem vAppE_ap (f : Env → Res Plc) (g : FE) (e : Env) : vAppE f g e = oR ((f e).bind lstP) fun x => if fldsOnly x.2.1 = true then (g e).bind (vAppE1 x) else .bad := rfl
@[simp] theorem vPop0_ap (f : Env → Res Plc) (e : Env) : vPop0 f e = oR ((f e).bind lstP) (pop1 e) := rfl
@[simp] theorem vIns_ap (f : Env → Res Plc) (g : FD) (h : FP) (e : Env) : vIns f g h e = oR ((f e).bind lstP) fun x => oR (g e) fun k => oR (h e) fun y => ins1 e x y k := rfl
@[simp] theorem fldsOnly_nil : fldsOnly [] = true := rfl
def isInn (hd : Int) : Op → Bool
  | .inn x => decide (x = hd)
  | _ => false
def usedM (os : List Op) (hd : Int) : Nat := os.countP (isInn hd)
end VL

set_option Elab.async false
set_option linter.all false
set_option maxRecDepth 100000
set_option maxHeartbeats 4000000
namespace VL
open PySem PySem.Spec PyProof.Rows L2

end VL

set_option Elab.async false
set_option linter.all false
set_option maxRecDepth 100000
set_option maxHeartbeats 4000000
namespace VL
open PySem PySem.Spec PyProof.Rows L2

def restM (os : List Op) (ins : List (List Int)) (i : Nat) : List (List Int) := ins.mapIdx fun k r => r.drop (usedM (os.take i) ((k : Int) + 1))
end VL

set_option Elab.async false
set_option linter.all false
set_option maxRecDepth 100000
set_option maxHeartbeats 4000000
namespace VL
open PySem PySem.Spec PyProof.Rows L2

end VL

set_option Elab.async false
set_option linter.all false
set_option maxRecDepth 100000
set_option maxHeartbeats 4000000
namespace VL
open PySem PySem.Spec PyProof.Rows L2

theorem fit_rows (ins : List (List Int)) : fit 3 (rowsP ins) = true := by
  show (ins.map fun r => PyData.list (r.map .int)).all (fit 2) = true
  rw [List.all_eq_true]
  intro x m
  obtain ⟨r, _, rfl⟩ := List.mem_map.mp m
  exact fit_ints 1 r
@[simp] theorem cop_eq_rows (ins : List (List Int)) : Cop.h .eq (rowsP ins) (rowsP ins) = .ok (.d (.bool true)) := by
  rw [cop_eq 3 (fit_rows ins) (fit_rows ins)]
  simp
end VL

set_option Elab.async false
set_option linter.all false
set_option maxRecDepth 100000
set_option maxHeartbeats 4000000
namespace VL
open PySem PySem.Spec PyProof.Rows L2

def hw (h : Int) (G : List Int) : List Int := (List.range h.toNat).map fun (k : Nat) => peval G (1 + (k : Int))
end VL

set_option Elab.async false
set_option linter.all false
set_option maxRecDepth 100000
set_option maxHeartbeats 4000000
namespace VL
open PySem PySem.Spec PyProof.Rows L2

def vprod (p : Int) : List Int → Int → Int
  | [], _ => 1
  | a :: r, x => (1 + x * (-bk p a)) * vprod p r x
end VL

set_option Elab.async false
set_option linter.all false
set_option maxRecDepth 100000
set_option maxHeartbeats 4000000
namespace VL
open PySem PySem.Spec PyProof.Rows L2

structure DS where
  left : List (List Int)
  chance : List Int
  shares : List (List Int)
  letters : List PyData
def lst (r : List Int) : PyData := .list (r.map .int)
def dsk (p h f : Int) (W : List Int) (s : DS) : SV := .obj "Desk" [("table", .f (tbl p h f)), ("left", SV.dll (rowsD s.left)), ("chance", .f (.d (lst s.chance))), ("shares", SV.dl (s.shares.map lst)), ("letters", SV.dl s.letters), ("weights", .f (.d (lst W)))]
section
variable (p h f : Int) (W : List Int) (s : DS) (i : Nat) (ps : List Pst)
@[simp] theorem pl_table : plS (.fld "Desk" "table") (i, ps, dsk p h f W s) = .ok (i, ps ++ [.fld "Desk" "table"], .f (tbl p h f)) := by rfl
@[simp] theorem pl_left : plS (.fld "Desk" "left") (i, ps, dsk p h f W s) = .ok (i, ps ++ [.fld "Desk" "left"], SV.dll (rowsD s.left)) := by rfl
@[simp] theorem pl_chance : plS (.fld "Desk" "chance") (i, ps, dsk p h f W s) = .ok (i, ps ++ [.fld "Desk" "chance"], .f (.d (lst s.chance))) := by rfl
@[simp] theorem pl_shares : plS (.fld "Desk" "shares") (i, ps, dsk p h f W s) = .ok (i, ps ++ [.fld "Desk" "shares"], SV.dl (s.shares.map lst)) := by rfl
@[simp] theorem pl_letters : plS (.fld "Desk" "letters") (i, ps, dsk p h f W s) = .ok (i, ps ++ [.fld "Desk" "letters"], SV.dl s.letters) := by rfl
@[simp] theorem pl_weights : plS (.fld "Desk" "weights") (i, ps, dsk p h f W s) = .ok (i, ps ++ [.fld "Desk" "weights"], .f (.d (lst W))) := by rfl
end
@[simp] theorem pN_ap (e : Env) : pN e = .ok [] := rfl
@[simp] theorem pF_ap (f : FP) (g : Env → Res (List AV)) (e : Env) : pF f g e = (f e).bind fun x => (g e).bind fun xs => .ok (.fz x :: xs) := rfl
@[simp] theorem xP_ap (f : Env → Res (List AV)) (e : Env) : xP f e = oR (f e) fun xs => .ok xs e := rfl
@[simp] theorem xF_ap (f : FP) (g : Env → Out (List AV)) (e : Env) : xF f g e = oR (f e) fun x => (g e).bind fun xs e => .ok (.fz x :: xs) e := rfl
@[simp] theorem xE_ap (f : FE) (g : Env → Out (List AV)) (e : Env) : xE f g e = (f e).bind (xE1 g) := rfl
@[simp] theorem xE1_f (g : Env → Out (List AV)) (x : FV) (e : Env) : xE1 g (.f x) e = (g e).bind fun xs e => .ok (.fz x :: xs) e := rfl
end VL

set_option Elab.async false
set_option linter.all false
set_option maxRecDepth 100000
set_option maxHeartbeats 4000000
namespace VL
open PySem PySem.Spec PyProof.Rows L2

end VL

set_option Elab.async false
set_option linter.all false
set_option maxRecDepth 100000
set_option maxHeartbeats 4000000
namespace VL
open PySem PySem.Spec PyProof.Rows L2

def Op.two : Op → Option (Int × Int)
  | .sum a b => some (a, b)
  | .less a b => some (a, b)
  | .mul a b => some (a, b)
  | _ => none
end VL

set_option Elab.async false
set_option linter.all false
set_option maxRecDepth 100000
set_option maxHeartbeats 4000000
namespace VL
open PySem PySem.Spec PyProof.Rows L2

structure DOk (p h f : Int) (W : List Int) (s : DS) : Prop where
  row : ∀ r ∈ s.shares, Rng p r ∧ (r.length : Int) = h
  lt : s.letters.length < 10000000
  wl : (W.length : Int) = h
  wr : Rng p W
section
variable {p h f : Int} {W : List Int} {s : DS}
theorem share_at (d : DOk p h f W s) {a : Int} (ha : 0 ≤ a ∧ a < s.shares.length) : s.shares[a.toNat]? = some (s.shares.getD a.toNat []) ∧ Rng p (s.shares.getD a.toNat []) ∧ ((s.shares.getD a.toNat []).length : Int) = h := by
  have al : a.toNat < s.shares.length := by omega
  have e : s.shares[a.toNat]? = some (s.shares.getD a.toNat []) := by simp only [List.getD, List.getElem?_eq_getElem al, Option.getD_some]
  exact ⟨e, (d.row _ (List.mem_of_getElem? e)).1, (d.row _ (List.mem_of_getElem? e)).2⟩
end
end VL

set_option Elab.async false
set_option linter.all false
set_option maxRecDepth 100000
set_option maxHeartbeats 4000000
namespace VL
open PySem PySem.Spec PyProof.Rows L2

section
variable {p h f : Int} {W : List Int} {s : DS}
end
end VL

set_option Elab.async false
set_option linter.all false
set_option maxRecDepth 100000
set_option maxHeartbeats 4000000
namespace VL
open PySem PySem.Spec PyProof.Rows L2

section
variable {p h f : Int} {W : List Int} {s : DS}
end
end VL

set_option Elab.async false
set_option linter.all false
set_option maxRecDepth 100000
set_option maxHeartbeats 4000000
namespace VL
open PySem PySem.Spec PyProof.Rows L2

section
variable {p h f : Int} {W : List Int} {s : DS}
end
end VL

set_option Elab.async false
set_option linter.all false
set_option maxRecDepth 100000
set_option maxHeartbeats 4000000
namespace VL
open PySem PySem.Spec PyProof.Rows L2

section
variable {p h f : Int} {W : List Int} {ins : List (List Int)} {ch : List Int} {os : List Op}
structure Dsk (p h f : Int) (W : List Int) (ins : List (List Int)) (os : List Op) (s : DS) (i : Nat) : Prop where
  row : ∀ r ∈ s.shares, Rng p r ∧ (r.length : Int) = h
  num : s.shares.length = i
  left : s.left = restM os ins i
  lt : s.letters.length ≤ 49 * i
theorem Dsk.ok {s : DS} {i : Nat} (d : Dsk p h f W ins os s i) (hi : i ≤ 1000) (wl : (W.length : Int) = h) (wr : Rng p W) : DOk p h f W s := ⟨d.row, by have := d.lt; omega, wl, wr⟩
end
end VL

set_option Elab.async false
set_option linter.all false
set_option maxRecDepth 100000
set_option maxHeartbeats 4000000
namespace VL
open PySem PySem.Spec PyProof.Rows L2

@[simp] theorem vTupX_ap (fs : Env → Out (List AV)) (e : Env) : vTupX fs e = (fs e).bind tupX := rfl
@[simp] theorem vIxE_ap (fe : FE) (k : Int) (e : Env) : vIxE fe k e = (fe e).bind (ixE1 k) := rfl
end VL

set_option Elab.async false
set_option linter.all false
set_option maxRecDepth 100000
set_option maxHeartbeats 4000000
namespace VL
open PySem PySem.Spec PyProof.Rows L2

def dealR (p h : Int) (R : List Int) : List Int := (List.range h.toNat).map fun (k : Nat) => peval R (1 + (k : Int)) % p
theorem dealR_length (p h : Int) (R : List Int) : (dealR p h R).length = h.toNat := by unfold dealR; simp
theorem getD_map_range {n k : Nat} (F : Nat → Int) (hk : k < n) : ((List.range n).map F).getD k 0 = F k := by
  rw [List.getD_eq_getElem?_getD, List.getElem?_map, List.getElem?_range hk]
  rfl
theorem getD_dealR {p h : Int} {R : List Int} {k : Nat} (hk : k < h.toNat) : (dealR p h R).getD k 0 = peval R (1 + (k : Int)) % p := getD_map_range _ hk
def Sh (p h : Int) (A R : List Int) : Prop := ∀ k, k < h.toNat → Cg p (A.getD k 0) (peval R (1 + (k : Int)))
theorem Sh.eq {p h : Int} {A R : List Int} (s : Sh p h A R) (hp : 0 < p) (ra : Rng p A) (la : (A.length : Int) = h) : A = dealR p h R := by
  refine List.ext_getElem (by rw [dealR_length]; omega) fun k h1 h2 => ?_
  have hk : k < h.toNat := by omega
  have e1 : A.getD k 0 = A[k] := by rw [List.getD_eq_getElem?_getD, List.getElem?_eq_getElem h1]; rfl
  have e2 : (dealR p h R).getD k 0 = (dealR p h R)[k] := by rw [List.getD_eq_getElem?_getD, List.getElem?_eq_getElem h2]; rfl
  rw [← e1, ← e2, getD_dealR hk]
  have r := ra (A.getD k 0) (by rw [e1]; exact List.getElem_mem _)
  rw [← (s k hk).mod_eq, Int.emod_eq_of_lt r.1 r.2]
def RowOf (p h f v : Int) (A : List Int) : Prop := ∃ R : List Int, R.length = (f + 1).toNat ∧ Rng p R ∧ R.getD 0 0 = v ∧ Sh p h A R
section
variable {p h f : Int} {W : List Int} {s : DS}
end
end VL

set_option Elab.async false
set_option linter.all false
set_option maxRecDepth 100000
set_option maxHeartbeats 4000000
namespace VL
open PySem PySem.Spec PyProof.Rows L2

section
variable {p h f : Int} {W : List Int} {s : DS}
theorem RowOf.rng {v : Int} {A : List Int} (r : RowOf p h f v A) (hf : 0 ≤ f) : 0 ≤ v ∧ v < p := by
  obtain ⟨R, l, rr, e, _⟩ := r
  rw [← e]
  refine rr _ ?_
  rw [List.getD_eq_getElem?_getD, List.getElem?_eq_getElem (show 0 < R.length by omega)]
  exact List.getElem_mem _
end
end VL

set_option Elab.async false
set_option linter.all false
set_option maxRecDepth 100000
set_option maxHeartbeats 4000000
namespace VL
open PySem PySem.Spec PyProof.Rows L2

section
variable {p h f : Int} {W : List Int} {ins : List (List Int)} {ch : List Int} {os : List Op}
end
end VL

set_option Elab.async false
set_option linter.all false
set_option maxRecDepth 100000
set_option maxHeartbeats 4000000
namespace VL
open PySem PySem.Spec PyProof.Rows L2

theorem getD_mem {A : List Int} {k : Nat} (hk : k < A.length) : A.getD k 0 ∈ A := by
  rw [List.getD_eq_getElem?_getD, List.getElem?_eq_getElem hk]
  exact List.getElem_mem _
end VL

set_option Elab.async false
set_option linter.all false
set_option maxRecDepth 100000
set_option maxHeartbeats 4000000
namespace VL
open PySem PySem.Spec PyProof.Rows L2

end VL

set_option Elab.async false
set_option linter.all false
set_option maxRecDepth 100000
set_option maxHeartbeats 4000000
namespace VL
open PySem PySem.Spec PyProof.Rows L2

end VL

set_option Elab.async false
set_option linter.all false
set_option maxRecDepth 100000
set_option maxHeartbeats 4000000
namespace VL
open PySem PySem.Spec PyProof.Rows L2

end VL

set_option Elab.async false
set_option linter.all false
set_option maxRecDepth 100000
set_option maxHeartbeats 4000000
namespace VL
open PySem PySem.Spec PyProof.Rows L2

@[simp] theorem se_BadSteps_BadSteps : subE (Str.ofString "BadSteps") (Str.ofString "BadSteps") = true := by decide +kernel
@[simp] theorem se_BadSteps_BadInputs : subE (Str.ofString "BadSteps") (Str.ofString "BadInputs") = false := by decide +kernel
@[simp] theorem se_BadSteps_BadChance : subE (Str.ofString "BadSteps") (Str.ofString "BadChance") = false := by decide +kernel
@[simp] theorem se_BadSteps_BadHands : subE (Str.ofString "BadSteps") (Str.ofString "BadHands") = false := by decide +kernel
@[simp] theorem se_BadSteps_NoVeil : subE (Str.ofString "BadSteps") (Str.ofString "NoVeil") = false := by decide +kernel
@[simp] theorem se_BadSteps_V : subE (Str.ofString "BadSteps") (Str.ofString "VeilError") = true := by decide +kernel
@[simp] theorem se_BadInputs_BadSteps : subE (Str.ofString "BadInputs") (Str.ofString "BadSteps") = false := by decide +kernel
@[simp] theorem se_BadInputs_BadInputs : subE (Str.ofString "BadInputs") (Str.ofString "BadInputs") = true := by decide +kernel
@[simp] theorem se_BadInputs_BadChance : subE (Str.ofString "BadInputs") (Str.ofString "BadChance") = false := by decide +kernel
@[simp] theorem se_BadInputs_BadHands : subE (Str.ofString "BadInputs") (Str.ofString "BadHands") = false := by decide +kernel
@[simp] theorem se_BadInputs_NoVeil : subE (Str.ofString "BadInputs") (Str.ofString "NoVeil") = false := by decide +kernel
@[simp] theorem se_BadInputs_V : subE (Str.ofString "BadInputs") (Str.ofString "VeilError") = true := by decide +kernel
@[simp] theorem se_BadChance_BadSteps : subE (Str.ofString "BadChance") (Str.ofString "BadSteps") = false := by decide +kernel
@[simp] theorem se_BadChance_BadInputs : subE (Str.ofString "BadChance") (Str.ofString "BadInputs") = false := by decide +kernel
@[simp] theorem se_BadChance_BadChance : subE (Str.ofString "BadChance") (Str.ofString "BadChance") = true := by decide +kernel
@[simp] theorem se_BadChance_BadHands : subE (Str.ofString "BadChance") (Str.ofString "BadHands") = false := by decide +kernel
@[simp] theorem se_BadChance_NoVeil : subE (Str.ofString "BadChance") (Str.ofString "NoVeil") = false := by decide +kernel
@[simp] theorem se_BadChance_V : subE (Str.ofString "BadChance") (Str.ofString "VeilError") = true := by decide +kernel
@[simp] theorem se_BadHands_BadSteps : subE (Str.ofString "BadHands") (Str.ofString "BadSteps") = false := by decide +kernel
@[simp] theorem se_BadHands_BadInputs : subE (Str.ofString "BadHands") (Str.ofString "BadInputs") = false := by decide +kernel
@[simp] theorem se_BadHands_BadChance : subE (Str.ofString "BadHands") (Str.ofString "BadChance") = false := by decide +kernel
@[simp] theorem se_BadHands_BadHands : subE (Str.ofString "BadHands") (Str.ofString "BadHands") = true := by decide +kernel
@[simp] theorem se_BadHands_NoVeil : subE (Str.ofString "BadHands") (Str.ofString "NoVeil") = false := by decide +kernel
@[simp] theorem se_BadHands_V : subE (Str.ofString "BadHands") (Str.ofString "VeilError") = true := by decide +kernel
@[simp] theorem se_NoVeil_BadSteps : subE (Str.ofString "NoVeil") (Str.ofString "BadSteps") = false := by decide +kernel
@[simp] theorem se_NoVeil_BadInputs : subE (Str.ofString "NoVeil") (Str.ofString "BadInputs") = false := by decide +kernel
@[simp] theorem se_NoVeil_BadChance : subE (Str.ofString "NoVeil") (Str.ofString "BadChance") = false := by decide +kernel
@[simp] theorem se_NoVeil_BadHands : subE (Str.ofString "NoVeil") (Str.ofString "BadHands") = false := by decide +kernel
@[simp] theorem se_NoVeil_NoVeil : subE (Str.ofString "NoVeil") (Str.ofString "NoVeil") = true := by decide +kernel
@[simp] theorem se_NoVeil_V : subE (Str.ofString "NoVeil") (Str.ofString "VeilError") = true := by decide +kernel
@[simp] theorem catL_l (a b : List PyData) : catL (.list a) (.list b) = cIf (a.length + b.length ≤ 16777216) (.ok (SV.dl (a ++ b))) .bad := rfl
end VL

set_option Elab.async false
set_option linter.all false
set_option maxRecDepth 100000
set_option maxHeartbeats 4000000
namespace VL
open PySem PySem.Spec PyProof.Rows L2

end VL

set_option Elab.async false
set_option linter.all false
set_option maxRecDepth 100000
set_option maxHeartbeats 4000000
namespace VL
open PySem PySem.Spec PyProof.Rows L2

section
variable {p h f : Int} {W : List Int} {s : DS}
end
end VL

set_option Elab.async false
set_option linter.all false
set_option maxRecDepth 100000
set_option maxHeartbeats 4000000
namespace VL
open PySem PySem.Spec PyProof.Rows L2

section
variable {p h f : Int} {W : List Int}
end
section
variable {p h f : Int} {W : List Int} {ins : List (List Int)} {os : List Op}
end
section
variable {p h f : Int} {W V hs : List Int} {ins oth : List (List Int)} {os : List Op} {ch : List Int}
end
end VL

set_option Elab.async false
set_option linter.all false
set_option maxRecDepth 100000
set_option maxHeartbeats 4000000
namespace VL
open PySem PySem.Spec PyProof.Rows L2

section
variable {p h f : Int} {O I1 I2 C : FV} {d1 d2 fd : SV} {hs V : List Int} {od ds0 : FV}
end
end VL

set_option Elab.async false
set_option linter.all false
set_option maxRecDepth 100000
set_option maxHeartbeats 4000000
namespace VL
open PySem PySem.Spec PyProof.Rows L2

section
variable {p h f : Int} {W V hs : List Int} {I1 I2 C O : FV}
end
end VL

set_option Elab.async false
set_option linter.all false
set_option maxRecDepth 100000
set_option maxHeartbeats 4000000
namespace VL
open PySem PySem.Spec PyProof.Rows L2

end VL

set_option Elab.async false
set_option linter.all false
set_option maxRecDepth 100000
set_option maxHeartbeats 4000000
namespace VL
open PySem PySem.Spec PyProof.Rows L2

structure VeilP (p h f : Int) (hs V : List Int) : Prop where
  len : (V.length : Int) = f + 1
  rng : Rng p V
  one : V.getD 0 0 = 1
  nil : ∀ a ∈ hs, Cg p (peval V a) 0
  val : ∀ x, Cg p (peval V x) (vprod p hs x)
section
variable {p h f : Int} {V hs ds diffs c0 : List Int}
end
end VL

set_option Elab.async false
set_option linter.all false
set_option maxRecDepth 100000
set_option maxHeartbeats 4000000
namespace VL
open PySem PySem.Spec PyProof.Rows L2

section
variable {p h f : Int} {W V hs : List Int}
structure Pair (p h f : Int) (W V hs : List Int) (P Q : List Int) (s1 s2 : DS) : Prop where
  d1 : DOk p h f W s1
  d2 : DOk p h f W s2
  num : s1.shares.length = s2.shares.length
  r1 : ∀ j : Nat, j < s1.shares.length → RowOf p h f (P.getD j 0) (s1.shares.getD j [])
  r2 : ∀ j : Nat, j < s1.shares.length → RowOf p h f (Q.getD j 0) (s2.shares.getD j [])
  sh : ∀ j : Nat, j < s1.shares.length → ∀ k : Nat, k < h.toNat → Cg p ((s2.shares.getD j []).getD k 0) ((s1.shares.getD j []).getD k 0 + (Q.getD j 0 - P.getD j 0) * peval V (1 + (k : Int)))
theorem Pair.look {P Q : List Int} {s1 s2 : DS} (pr : Pair p h f W V hs P Q s1 s2) (v : VeilP p h f hs V) (hp : 0 < p) {j k : Nat} (hj : j < s1.shares.length) (hk : k < h.toNat) (hm : 1 + (k : Int) ∈ hs) : (s2.shares.getD j []).getD k 0 = (s1.shares.getD j []).getD k 0 := by
  have e := pr.sh j hj k hk
  have z := (Cg.refl p (Q.getD j 0 - P.getD j 0)).mul (v.nil _ hm)
  rw [Int.mul_zero] at z
  have e2 := e.trans ((Cg.refl p _).add z)
  rw [Int.add_zero] at e2
  obtain ⟨_, ra, la⟩ := share_at pr.d1 (a := (j : Int)) (by omega)
  obtain ⟨_, rb, lb⟩ := share_at pr.d2 (a := (j : Int)) (by rw [← pr.num]; omega)
  rw [show (j : Int).toNat = j by omega] at ra la rb lb
  exact e2.eq (rb _ (getD_mem (by omega))) (ra _ (getD_mem (by omega)))
end
end VL

set_option Elab.async false
set_option linter.all false
set_option maxRecDepth 100000
set_option maxHeartbeats 4000000
namespace VL
open PySem PySem.Spec PyProof.Rows L2

theorem Cg.sub {p a b c d : Int} (h : Cg p a b) (h' : Cg p c d) : Cg p (a - c) (b - d) := by
  have := h.add ((Cg.refl p (-1)).mul h')
  rw [show a + -1 * c = a - c by omega, show b + -1 * d = b - d by omega] at this
  exact this
section
variable {p h f : Int} {W V hs : List Int}
end
end VL

set_option Elab.async false
set_option linter.all false
set_option maxRecDepth 100000
set_option maxHeartbeats 4000000
namespace VL
open PySem PySem.Spec PyProof.Rows L2

section
variable {p h f : Int} {W V hs : List Int} {ins oth : List (List Int)} {os : List Op} {ch : List Int}
end
end VL

set_option Elab.async false
set_option linter.all false
set_option maxRecDepth 100000
set_option maxHeartbeats 4000000
namespace VL
open PySem PySem.Spec PyProof.Rows L2

section
variable {p h f : Int} {W V hs : List Int} {ins oth : List (List Int)} {os : List Op} {ch : List Int}
end
end VL

set_option Elab.async false
set_option linter.all false
set_option maxRecDepth 100000
set_option maxHeartbeats 4000000
namespace VL
open PySem PySem.Spec PyProof.Rows L2

end VL

set_option Elab.async false
set_option linter.all false
set_option maxRecDepth 100000
set_option maxHeartbeats 4000000
namespace VL
open PySem PySem.Spec PyProof.Rows L2

section
variable {ns : List Int} {p h f many way one two : Int}
end
end VL

set_option Elab.async false
set_option linter.all false
set_option maxRecDepth 100000
set_option maxHeartbeats 4000000
namespace VL
open PySem PySem.Spec PyProof.Rows L2

theorem run_table_bad (p h f : Int) (hf : -100 < f ∧ f < 100) (t : ¬ Tb p h f) : runM "Table" S_Table___init__ [.d (.int p), .d (.int h), .d (.int f)] = .err "BadTable" := by
  unfold S_Table___init__ B_Table___init__
  rw [runM_mk]
  have hr : ∀ e : Env, e[1]? = some (.va (.f (.d (.int p)))) → vCmp .notin (vVarD 1) (toD (vC (.tuple (([5, 7, 11, 13, 17, 19, 23, 29, 31] : List Int).map .int)))) e = .ok (.d (.bool (!decide (p ∈ ([5, 7, 11, 13, 17, 19, 23, 29, 31] : List Int))))) := fun e he => by
    rw [vCmp_ap, vVarD_ap, he, ldD_va, ldS_f, bind_ok, toD_ap, vC_ap, bind_ok, dOf_d, bind_ok, cop_notin_tints]
  rw [vSeq_ap]
  by_cases h1 : p ∈ ([5, 7, 11, 13, 17, 19, 23, 29, 31] : List Int) ∧ (3 ≤ h ∧ h ≤ 7) ∧ h < p
  · have e1 : (vIfS (vOrT (toT (vCmp .notin (vVarD 1) (toD (vC (.tuple (([5, 7, 11, 13, 17, 19, 23, 29, 31] : List Int).map .int)))))) (vOrT (vNotT (toT (vChain .le .le (toD (vC (.int 3))) (vVarD 2) (toD (vC (.int 7)))))) (toT (vCmp .ge (vVarD 2) (vVarD 1))))) (vRaise "BadTable") vSkip)
      (.rf (.obj "Table" []) :: ([FV.d (.int p), .d (.int h), .d (.int f)].map vaF ++ List.replicate 0 .no)) = .nx (.rf (.obj "Table" []) :: ([FV.d (.int p), .d (.int h), .d (.int f)].map vaF ++ List.replicate 0 .no)) := by
      rw [vIfS_ap, vOrT_ap, toT_ap, hr _ rfl, decide_eq_true h1.1]
      have a := h1.2.1.1
      have b := h1.2.1.2
      have c := h1.2.2
      simp (disch := first | rfl | assumption | omega | simp) [a, b]
      omega
    rw [e1, andThen_nx, vSeq_ap]
    have h2 : ¬ ((1 ≤ f ∧ f ≤ 2) ∧ 2 * f < h) := fun q => t ⟨h1.1, h1.2.1.1, h1.2.1.2, h1.2.2, q.1.1, q.1.2, q.2⟩
    have e2 : (vIfS (vOrT (vNotT (toT (vChain .le .le (toD (vC (.int 1))) (vVarD 3) (toD (vC (.int 2)))))) (toT (vCmp .ge (frD (v2 mulV (toD (vC (.int 2))) (vVarD 3))) (vVarD 2)))) (vRaise "BadTable") vSkip)
      (.rf (.obj "Table" []) :: ([FV.d (.int p), .d (.int h), .d (.int f)].map vaF ++ List.replicate 0 .no)) = .err "BadTable" (.rf (.obj "Table" []) :: ([FV.d (.int p), .d (.int h), .d (.int f)].map vaF ++ List.replicate 0 .no)) := by
      by_cases b1 : 1 ≤ f
      · by_cases b2 : f ≤ 2
        · have b3 : h ≤ 2 * f := by
            rcases Int.lt_or_le (2 * f) h with z | z
            · exact absurd ⟨⟨b1, b2⟩, z⟩ h2
            · exact z
          simp (disch := first | rfl | assumption | omega | simp) [b1, b2, b3, vRaise]
        · simp (disch := first | rfl | assumption | omega | simp) [b1, b2, vRaise]
      · simp (disch := first | rfl | assumption | omega | simp) [b1, vRaise]
    rw [e2]
    rfl
  · have e1 : (vIfS (vOrT (toT (vCmp .notin (vVarD 1) (toD (vC (.tuple (([5, 7, 11, 13, 17, 19, 23, 29, 31] : List Int).map .int)))))) (vOrT (vNotT (toT (vChain .le .le (toD (vC (.int 3))) (vVarD 2) (toD (vC (.int 7)))))) (toT (vCmp .ge (vVarD 2) (vVarD 1))))) (vRaise "BadTable") vSkip)
      (.rf (.obj "Table" []) :: ([FV.d (.int p), .d (.int h), .d (.int f)].map vaF ++ List.replicate 0 .no)) = .err "BadTable" (.rf (.obj "Table" []) :: ([FV.d (.int p), .d (.int h), .d (.int f)].map vaF ++ List.replicate 0 .no)) := by
      rw [vIfS_ap, vOrT_ap, toT_ap, hr _ rfl]
      by_cases q : p ∈ ([5, 7, 11, 13, 17, 19, 23, 29, 31] : List Int)
      · rw [decide_eq_true q]
        by_cases b1 : 3 ≤ h
        · by_cases b2 : h ≤ 7
          · have b3 : p ≤ h := by
              rcases Int.lt_or_le h p with z | z
              · exact absurd ⟨q, ⟨b1, b2⟩, z⟩ h1
              · exact z
            simp (disch := first | rfl | assumption | omega | simp) [b1, b2, b3, vRaise]
          · simp (disch := first | rfl | assumption | omega | simp) [b1, b2, vRaise]
        · simp (disch := first | rfl | assumption | omega | simp) [b1, vRaise]
      · rw [decide_eq_false q]
        simp (disch := first | rfl | assumption | omega | simp) [vRaise]
    rw [e1]
    rfl
theorem run_due1 (p h f : Int) (hf : -100 < f ∧ f < 100) : (Tb p h f → run S__law_due [.d (.int p), .d (.int h), .d (.int f)] = .ok (.d (.bool true))) ∧ (¬ Tb p h f → run S__law_due [.d (.int p), .d (.int h), .d (.int f)] = .ok (.d (.bool false))) := by
  have hc := cop_notin_ints p [5, 7, 11, 13, 17, 19, 23, 29, 31]
  have hc' : Cop.h .notin (.int p) (.list [.int 5, .int 7, .int 11, .int 13, .int 17, .int 19, .int 23, .int 29, .int 31]) = .ok (.d (.bool (!decide (p ∈ ([5, 7, 11, 13, 17, 19, 23, 29, 31] : List Int))))) := hc
  have e1 : ∀ b : Bool, decide (p ∈ ([5, 7, 11, 13, 17, 19, 23, 29, 31] : List Int)) = b → run S__law_due [.d (.int p), .d (.int h), .d (.int f)] = if b = true then (fin ((vRetP (vAnd (vChain .le .le (toD (vC (.int 3))) (vVarD 1) (toD (vC (.int 7)))) (vAnd (vCmp .lt (vVarD 1) (vVarD 0)) (vAnd (vChain .le .le (toD (vC (.int 1))) (vVarD 2) (toD (vC (.int 2)))) (vCmp .lt (frD (v2 mulV (toD (vC (.int 2))) (vVarD 2))) (vVarD 1)))))) ([FV.d (.int p), .d (.int h), .d (.int f)].map vaF ++ List.replicate 0 .no))) else .ok (.d (.bool false)) := by
    intro b hb
    unfold S__law_due B__law_due
    rw [run_mk, vSeq_ap]
    rw [hb] at hc'
    cases b <;> simp (disch := first | rfl | assumption | omega | simp) [hc']
  refine ⟨fun t => ?_, fun t => ?_⟩
  · rw [e1 true (decide_eq_true t.pr), if_pos rfl]
    have a := t.h3
    have b := t.h7
    have c := t.hp
    have d := t.f1
    have e := t.f2
    have g := t.fh
    simp (disch := first | rfl | assumption | omega | simp) [a, b, c, d, e, g]
  · by_cases q : p ∈ ([5, 7, 11, 13, 17, 19, 23, 29, 31] : List Int)
    · rw [e1 true (decide_eq_true q), if_pos rfl]
      by_cases b1 : 3 ≤ h
      · by_cases b2 : h ≤ 7
        · by_cases b3 : h < p
          · by_cases b4 : 1 ≤ f
            · by_cases b5 : f ≤ 2
              · have b6 : ¬ 2 * f < h := fun z => t ⟨q, b1, b2, b3, b4, b5, z⟩
                simp (disch := first | rfl | assumption | omega | simp) [b1, b2, b3, b4, b5, b6]
              · simp (disch := first | rfl | assumption | omega | simp) [b1, b2, b3, b4, b5]
            · simp (disch := first | rfl | assumption | omega | simp) [b1, b2, b3, b4]
          · simp (disch := first | rfl | assumption | omega | simp) [b1, b2, b3]
        · simp (disch := first | rfl | assumption | omega | simp) [b1, b2]
      · simp (disch := first | rfl | assumption | omega | simp) [b1]
    · rw [e1 false (decide_eq_false q)]
      rfl
def taE (ns : List Int) (s1 s2 s3 s4 s5 s6 : Slot) : Env := [.va (.f (.sc ns)), s1, s2, s3, s4, s5, s6, .no]
theorem run_law01 (ns : List Int) : run S_law [.sc ns] = .ok (.d (.bool true)) := by
  unfold S_law B_law
  rw [run_mk]
  have hp0 := tabP_at (cellAt ns 0)
  generalize tabP (cellAt ns 0) = p0 at *
  refine step_nx (e' := taE ns (.va (.f (.d (.int p0)))) .no .no .no .no .no) (by unfold taE; simp (disch := first | rfl | assumption | omega | simp [*]) [hp0]) ?_
  refine step_wp (P := fun e => ∃ p : Int, e = taE ns (.va (.f (.d (.int p)))) .no .no .no .no .no) ?_ ?_
  · by_cases q : cellAt ns 1 % 3 = 1
    · have e1 : (vIfS (toT (vCmp .eq (toD (v2 modI (frD (vCall S__law_cell_at (aC (vVar 0) (aC (vC (.int 1)) aN)))) (toD (vC (.int 3))))) (toD (vC (.int 1))))) (vSet 1 (v2 subI (toD (v2 modI (toD (v2 divI (frD (vCall S__law_cell_at (aC (vVar 0) (aC (vC (.int 1)) aN)))) (toD (vC (.int 3))))) (toD (vC (.int 44))))) (toD (vC (.int 3))))) vSkip) (taE ns (.va (.f (.d (.int p0)))) .no .no .no .no .no) = .nx (taE ns (.va (.f (.d (.int (cellAt ns 1 / 3 % 44 - 3))))) .no .no .no .no .no) := by
        unfold taE; simp (disch := first | rfl | assumption | omega | simp [*]) [q]
      rw [e1]
      exact ⟨_, rfl⟩
    · have e1 : (vIfS (toT (vCmp .eq (toD (v2 modI (frD (vCall S__law_cell_at (aC (vVar 0) (aC (vC (.int 1)) aN)))) (toD (vC (.int 3))))) (toD (vC (.int 1))))) (vSet 1 (v2 subI (toD (v2 modI (toD (v2 divI (frD (vCall S__law_cell_at (aC (vVar 0) (aC (vC (.int 1)) aN)))) (toD (vC (.int 3))))) (toD (vC (.int 44))))) (toD (vC (.int 3))))) vSkip) (taE ns (.va (.f (.d (.int p0)))) .no .no .no .no .no) = .nx (taE ns (.va (.f (.d (.int p0)))) .no .no .no .no .no) := by
        unfold taE; simp (disch := first | rfl | assumption | omega | simp [*]) [q]
      rw [e1]
      exact ⟨_, rfl⟩
  rintro e ⟨p, rfl⟩
  refine step_wp (P := fun e => ∃ h : Int, e = taE ns (.va (.f (.d (.int p)))) (.va (.f (.d (.int h)))) .no .no .no .no) ?_ ?_
  · have a0 := Int.emod_nonneg (cellAt ns 2) (show (3 : Int) ≠ 0 by omega)
    have a1 := Int.emod_lt_of_pos (cellAt ns 2) (show (0 : Int) < 3 by omega)
    have hat : ∃ h : Int, atI [PyData.int (cellAt ns 2 / 3 % 10), .int (5 + cellAt ns 2 / 3 % 4), .int 7] (cellAt ns 2 % 3) = some (.int h) := by
      rw [atI_pos a0]
      have : (cellAt ns 2 % 3).toNat < 3 := by omega
      generalize (cellAt ns 2 % 3).toNat = k at this
      match k, this with
      | 0, _ => exact ⟨_, rfl⟩
      | 1, _ => exact ⟨_, rfl⟩
      | 2, _ => exact ⟨_, rfl⟩
    obtain ⟨h, hh⟩ := hat
    have e1 : (vSet 2 (v2 ixP (frD (vLst (vCons (toD (v2 modI (toD (v2 divI (frD (vCall S__law_cell_at (aC (vVar 0) (aC (vC (.int 2)) aN)))) (toD (vC (.int 3))))) (toD (vC (.int 10))))) (vCons (toD (frO (v2 addV (toD (vC (.int 5))) (toD (v2 modI (toD (v2 divI (frD (vCall S__law_cell_at (aC (vVar 0) (aC (vC (.int 2)) aN)))) (toD (vC (.int 3))))) (toD (vC (.int 4)))))))) (vCons (toD (vC (.int 7))) vNil))))) (toD (v2 modI (frD (vCall S__law_cell_at (aC (vVar 0) (aC (vC (.int 2)) aN)))) (toD (vC (.int 3))))))) (taE ns (.va (.f (.d (.int p)))) .no .no .no .no .no) = .nx (taE ns (.va (.f (.d (.int p)))) (.va (.f (.d (.int h)))) .no .no .no .no) := by
      unfold taE; simp (disch := first | rfl | assumption | omega | simp [*]) [hh]
    rw [e1]
    exact ⟨_, rfl⟩
  rintro e ⟨h, rfl⟩
  have b0 := Int.emod_nonneg (cellAt ns 3) (show (2 : Int) ≠ 0 by omega)
  have b1 := Int.emod_lt_of_pos (cellAt ns 3) (show (0 : Int) < 2 by omega)
  refine step_nx (e' := taE ns (.va (.f (.d (.int p)))) (.va (.f (.d (.int h)))) (.va (.f (.d (.int (1 + cellAt ns 3 % 2))))) .no .no .no) (by unfold taE; simp (disch := first | rfl | assumption | omega | simp [*])) ?_
  refine step_wp (P := fun e => ∃ f : Int, (-100 < f ∧ f < 100) ∧ e = taE ns (.va (.f (.d (.int p)))) (.va (.f (.d (.int h)))) (.va (.f (.d (.int f)))) .no .no .no) ?_ ?_
  · by_cases q : cellAt ns 4 % 2 = 1
    · have c0 := Int.emod_nonneg (cellAt ns 4 / 2) (show (6 : Int) ≠ 0 by omega)
      have c1 := Int.emod_lt_of_pos (cellAt ns 4 / 2) (show (0 : Int) < 6 by omega)
      have e1 : (vIfS (toT (vCmp .eq (toD (v2 modI (frD (vCall S__law_cell_at (aC (vVar 0) (aC (vC (.int 4)) aN)))) (toD (vC (.int 2))))) (toD (vC (.int 1))))) (vSet 3 (v2 subI (toD (v2 modI (toD (v2 divI (frD (vCall S__law_cell_at (aC (vVar 0) (aC (vC (.int 4)) aN)))) (toD (vC (.int 2))))) (toD (vC (.int 6))))) (toD (vC (.int 1))))) vSkip) (taE ns (.va (.f (.d (.int p)))) (.va (.f (.d (.int h)))) (.va (.f (.d (.int (1 + cellAt ns 3 % 2))))) .no .no .no) = .nx (taE ns (.va (.f (.d (.int p)))) (.va (.f (.d (.int h)))) (.va (.f (.d (.int (cellAt ns 4 / 2 % 6 - 1))))) .no .no .no) := by
        unfold taE; simp (disch := first | rfl | assumption | omega | simp [*]) [q]
      rw [e1]
      exact ⟨_, ⟨by omega, by omega⟩, rfl⟩
    · have e1 : (vIfS (toT (vCmp .eq (toD (v2 modI (frD (vCall S__law_cell_at (aC (vVar 0) (aC (vC (.int 4)) aN)))) (toD (vC (.int 2))))) (toD (vC (.int 1))))) (vSet 3 (v2 subI (toD (v2 modI (toD (v2 divI (frD (vCall S__law_cell_at (aC (vVar 0) (aC (vC (.int 4)) aN)))) (toD (vC (.int 2))))) (toD (vC (.int 6))))) (toD (vC (.int 1))))) vSkip) (taE ns (.va (.f (.d (.int p)))) (.va (.f (.d (.int h)))) (.va (.f (.d (.int (1 + cellAt ns 3 % 2))))) .no .no .no) = .nx (taE ns (.va (.f (.d (.int p)))) (.va (.f (.d (.int h)))) (.va (.f (.d (.int (1 + cellAt ns 3 % 2))))) .no .no .no) := by
        unfold taE; simp (disch := first | rfl | assumption | omega | simp [*]) [q]
      rw [e1]
      exact ⟨_, ⟨by omega, by omega⟩, rfl⟩
  rintro e ⟨f, hf, rfl⟩
  clear b0 b1 hp0
  obtain ⟨dt, df⟩ := run_due1 p h f hf
  refine step_nx (e' := taE ns (.va (.f (.d (.int p)))) (.va (.f (.d (.int h)))) (.va (.f (.d (.int f)))) (.va (.f (.d .none))) .no .no) (by unfold taE; simp) ?_
  by_cases t : Tb p h f
  · have ht := run_table p h f t
    have hd := dt t
    refine step_nx (e' := taE ns (.va (.f (.d (.int p)))) (.va (.f (.d (.int h)))) (.va (.f (.d (.int f)))) (.va (.f (tbl p h f))) .no .no) ?_ ?_
    · unfold vTry
      have hb : (vSet 4 (frO (vMake "Table" S_Table___init__ (aC (vVar 1) (aC (vVar 2) (aC (vVar 3) aN)))))) (taE ns (.va (.f (.d (.int p)))) (.va (.f (.d (.int h)))) (.va (.f (.d (.int f)))) (.va (.f (.d .none))) .no .no) = .nx (taE ns (.va (.f (.d (.int p)))) (.va (.f (.d (.int h)))) (.va (.f (.d (.int f)))) (.va (.f (tbl p h f))) .no .no) := by
        unfold taE; simp (disch := first | rfl | assumption | omega | simp [*]) [ht]
      rw [hb]
    · refine step_nx (e' := taE ns (.va (.f (.d (.int p)))) (.va (.f (.d (.int h)))) (.va (.f (.d (.int f)))) (.va (.f (tbl p h f))) .no (.va (.f (.d (.list ([p, h, f].map .int)))))) (by unfold taE; simp (disch := first | rfl | assumption | omega | simp [*])) ?_
      have hal : (vComp (vItL (vVarD 6)) (gN 7) vYes (vCall S__law_whole (aC (vVar 7) aN)) [7] (taE ns (.va (.f (.d (.int p)))) (.va (.f (.d (.int h)))) (.va (.f (.d (.int f)))) (.va (.f (tbl p h f))) .no (.va (.f (.d (.list ([p, h, f].map .int))))))).bind frF = .ok (.d (allT ([p, h, f].map PyData.int).length)) := by
        refine comp_true ?_ (by simp) fun x m => ?_
        · unfold taE; simp
        · obtain ⟨a, ma, rfl⟩ := List.mem_map.mp m
          exact ⟨_, rfl, by unfold taE; simp (disch := first | rfl | assumption | omega | simp [*])⟩
      have ceq := cop_eq_ints [p, h, f] [p, h, f]
      unfold taE at hal ⊢
      simp only [List.map_cons, List.map_nil] at hal ceq
      simp (disch := first | rfl | assumption | omega | simp [*]) [hal, hd, ceq]
  · have ht := run_table_bad p h f hf t
    have hd := df t
    unfold vTry
    have hb : (vSet 4 (frO (vMake "Table" S_Table___init__ (aC (vVar 1) (aC (vVar 2) (aC (vVar 3) aN)))))) (taE ns (.va (.f (.d (.int p)))) (.va (.f (.d (.int h)))) (.va (.f (.d (.int f)))) (.va (.f (.d .none))) .no .no) = .err "BadTable" (taE ns (.va (.f (.d (.int p)))) (.va (.f (.d (.int h)))) (.va (.f (.d (.int f)))) (.va (.f (.d .none))) .no .no) := by
      unfold taE; simp (disch := first | rfl | assumption | omega | simp [*]) [ht]
    rw [vSeq_ap]
    dsimp only
    rw [hb]
    dsimp only
    rw [if_pos ⟨by decide +kernel, by unfold taE; simp⟩, if_pos (by decide +kernel)]
    have k1 : subE (Str.ofString "BadTable") (Str.ofString "VeilError") = true := by decide +kernel
    unfold taE
    simp (disch := first | rfl | assumption | omega | simp [*]) [k1, offI, hd]
theorem law01 : ∀ ns : List Int, ns.length ≤ 63 → ∃ a, S_law [.va (.f (.sc ns))] = .ret (.f (.d (.bool true))) a := fun ns _ => law_end (run_law01 ns)
end VL

set_option Elab.async false
set_option linter.all false
set_option maxRecDepth 100000
set_option maxHeartbeats 4000000

namespace K01
open PySem PySem.Spec PyProof.Rows L2 VL

def topS (i : Nat) : Stmt := PySem.Challenge.pw_veilsum_k01_tables.main.body.getD i (.Pass ⟨0, 0, 0, 0⟩)
/-- what the top has written, as the walk asks for it -/
structure Txt (K : PySem.W.Frag) (mg : Str → Option Value) : Prop where
  no : ∀ x : Str, ((["ValueError", "all", "bool", "int", "isinstance", "len"] : List Str).contains x) = true → mg x = none
  f_Table_few : FldK K mg "Table" "few"
  f_Table_hands : FldK K mg "Table" "hands"
  f_Table_prime : FldK K mg "Table" "prime"
  e_BadTable : ExF K mg "BadTable"
  exs : Exs K mg ["VeilError", "BadTable"]
  g_PRIMES : GTup K mg "PRIMES" [5, 7, 11, 13, 17, 19, 23, 29, 31]
section
variable {P : Program} {w : World} {K : PySem.W.Frag} {mg : Str → Option Value} {base : Heap}
abbrev st__law_cell_at : Stmt := topS 7
abbrev N__law_cell_at : List Str := ["script", "k"]
theorem sc__law_cell_at : FnScope N__law_cell_at ["script", "k"] (defScope st__law_cell_at) := ⟨rfl, rfl, rfl, by decide +kernel, rfl, by decide +kernel, by decide +kernel⟩
theorem ok__law_cell_at (F : Sits K mg "_law_cell_at" st__law_cell_at ["script", "k"]) (T : Txt K mg)  : Def P w K mg base 1 2 "_law_cell_at" ["script", "k"] S__law_cell_at := by
  unfold S__law_cell_at B__law_cell_at
  exact def_ok F sc__law_cell_at rfl rfl fun f cdv A outer s H E hr =>
  (vss_cons (vs_if (vt_cmp .lt (hu65 hr) (vd_var (pv 1)) (vd_p (vp_lenS (T.no "len" rfl) (vp_var (pv 0)))) rfl) (vss_one (vs_retP (vp_ixS (vp_var (pv 0)) (vd_var (pv 1)) (fun _ _ => rfl)))) vss_nil)
  (vss_one (vs_retP vp_int)))
abbrev st__law_due : Stmt := topS 9
abbrev N__law_due : List Str := ["prime", "hands", "few"]
theorem sc__law_due : FnScope N__law_due ["prime", "hands", "few"] (defScope st__law_due) := ⟨rfl, rfl, rfl, by decide +kernel, rfl, by decide +kernel, by decide +kernel⟩
theorem ok__law_due (F : Sits K mg "_law_due" st__law_due ["prime", "hands", "few"]) (T : Txt K mg)  : Def P w K mg base 1 3 "_law_due" ["prime", "hands", "few"] S__law_due := by
  unfold S__law_due B__law_due
  exact def_ok F sc__law_due rfl rfl fun f cdv A outer s H E hr =>
  (vss_cons (vs_if (vt_cmp .notin (hu65 hr) (vd_var (pv 0)) (vd_o (vo_lst (va_cons vp_int (va_cons vp_int (va_cons vp_int (va_cons vp_int (va_cons vp_int (va_cons vp_int (va_cons vp_int (va_cons vp_int (va_cons vp_int va_nil rfl) rfl) rfl) rfl) rfl) rfl) rfl) rfl) rfl))) rfl) (vss_one (vs_retP vp_bl)) vss_nil)
  (vss_one (vs_retP (vp_and (vp_chain .le .le (hu65 hr) (vd_p vp_int) (vd_var (pv 1)) (vd_p vp_int) rfl) (vp_and (vp_cmp .lt (hu65 hr) (vd_var (pv 1)) (vd_var (pv 0)) rfl) (vp_and (vp_chain .le .le (hu65 hr) (vd_p vp_int) (vd_var (pv 2)) (vd_p vp_int) rfl) (vp_one (vp_cmp .lt (hu65 hr) (vd_o (vo_mul (vd_p vp_int) (vd_var (pv 2)))) (vd_var (pv 1)) rfl))))))))
theorem okH__law_due (F : Sits K mg "_law_due" st__law_due ["prime", "hands", "few"]) (T : Txt K mg) : DefH P w K mg base 1 3 "_law_due" ["prime", "hands", "few"] S__law_due := by
  unfold S__law_due B__law_due
  exact def_okH F sc__law_due rfl rfl fun f cdv A outer s H E p hot hr =>
  (vss_cons (vs_if (vt_cmp .notin (hu65H hr) (vd_var (pv 0)) (vd_o (vo_lst (va_cons vp_int (va_cons vp_int (va_cons vp_int (va_cons vp_int (va_cons vp_int (va_cons vp_int (va_cons vp_int (va_cons vp_int (va_cons vp_int va_nil rfl) rfl) rfl) rfl) rfl) rfl) rfl) rfl) rfl))) rfl) (vss_one (vs_retP vp_bl)) vss_nil)
  (vss_one (vs_retP (vp_and (vp_chain .le .le (hu65H hr) (vd_p vp_int) (vd_var (pv 1)) (vd_p vp_int) rfl) (vp_and (vp_cmp .lt (hu65H hr) (vd_var (pv 1)) (vd_var (pv 0)) rfl) (vp_and (vp_chain .le .le (hu65H hr) (vd_p vp_int) (vd_var (pv 2)) (vd_p vp_int) rfl) (vp_one (vp_cmp .lt (hu65H hr) (vd_o (vo_mul (vd_p vp_int) (vd_var (pv 2)))) (vd_var (pv 1)) rfl))))))))
abbrev st__law_whole : Stmt := topS 8
abbrev N__law_whole : List Str := ["found"]
theorem sc__law_whole : FnScope N__law_whole ["found"] (defScope st__law_whole) := ⟨rfl, rfl, rfl, by decide +kernel, rfl, by decide +kernel, by decide +kernel⟩
theorem ok__law_whole (F : Sits K mg "_law_whole" st__law_whole ["found"]) (T : Txt K mg)  : Def P w K mg base 1 1 "_law_whole" ["found"] S__law_whole := by
  unfold S__law_whole B__law_whole
  exact def_ok F sc__law_whole rfl rfl fun f cdv A outer s H E hr =>
  (vss_one (vs_retP (vp_and (vp_isi .int boot_int (T.no "int" rfl) (T.no "isinstance" rfl) (vd_var (pv 0)) rfl (by decide) (by decide)) (vp_one (vp_not (vp_isi .bool boot_bool (T.no "bool" rfl) (T.no "isinstance" rfl) (vd_var (pv 0)) rfl (by decide) (by decide)))))))
abbrev st_Table___init__ : Stmt := inClass (topS 5) 0
abbrev N_Table___init__ : List Str := ["self", "prime", "hands", "few"]
theorem sc_Table___init__ : FnScope N_Table___init__ ["self", "prime", "hands", "few"] (defScope st_Table___init__) := ⟨rfl, rfl, rfl, by decide +kernel, rfl, by decide +kernel, by decide +kernel⟩
theorem ok_Table___init__ {f : Addr} (F : SitsM K "__init__" "Table.__init__" st_Table___init__ ["self", "prime", "hands", "few"] f) (T : Txt K mg)  : ∃ fd, FnOk P w K mg base (L2N.CX P w) 1 f fd ["self", "prime", "hands", "few"] (spV K mg 4 S_Table___init__) ∧ Binds K fd ["self", "prime", "hands", "few"] [] := by
  unfold S_Table___init__ B_Table___init__
  exact meth_ok F sc_Table___init__ rfl rfl fun cdv A outer s H E hr =>
  (vss_cons (vs_if (vt_w (vw_or (vt_cmp .notin (hu65 hr) (vd_var (pv 1)) (vd_p (vp_gtup T.g_PRIMES)) rfl) (vw_or (vt_not (vt_chain .le .le (hu65 hr) (vd_p vp_int) (vd_var (pv 2)) (vd_p vp_int) rfl)) (vw_or1 (vt_cmp .ge (hu65 hr) (vd_var (pv 2)) (vd_var (pv 1)) rfl))))) (vss_one (vs_raiseE T.e_BadTable rfl tk_body)) vss_nil)
  (vss_cons (vs_if (vt_w (vw_or (vt_not (vt_chain .le .le (hu65 hr) (vd_p vp_int) (vd_var (pv 3)) (vd_p vp_int) rfl)) (vw_or1 (vt_cmp .ge (hu65 hr) (vd_o (vo_mul (vd_p vp_int) (vd_var (pv 3)))) (vd_var (pv 2)) rfl)))) (vss_one (vs_raiseE T.e_BadTable rfl tk_body)) vss_nil)
  (vss_cons (vs_setF T.f_Table_prime (pv 0) (vo_p (vp_var (pv 1))) rfl)
  (vss_cons (vs_setF T.f_Table_hands (pv 0) (vo_p (vp_var (pv 2))) rfl)
  (vss_one (vs_setF T.f_Table_few (pv 0) (vo_p (vp_var (pv 3))) rfl))))))
abbrev st_law : Stmt := topS 10
abbrev N_law : List Str := ["script", "prime", "hands", "few", "found", "e", "told", "x"]
theorem sc_law : FnScope N_law ["script"] (defScope st_law) := ⟨rfl, rfl, rfl, by decide +kernel, rfl, by decide +kernel, by decide +kernel⟩
theorem ok_law {f : Addr} {fd : FuncData} (F : Fun K "law" "law" st_law f fd) (T : Txt K mg) (D__law_cell_at : Def P w K mg base 1 2 "_law_cell_at" ["script", "k"] S__law_cell_at) (D__law_due : Def P w K mg base 1 3 "_law_due" ["prime", "hands", "few"] S__law_due) (D__law_whole : Def P w K mg base 1 1 "_law_whole" ["found"] S__law_whole) (C_Table : ClsOk P w K mg base 1 (3 + 1) "Table" ["self", "prime", "hands", "few"] S_Table___init__) (H__law_due : DefH P w K mg base 1 3 "_law_due" ["prime", "hands", "few"] S__law_due) : FnOk P w K mg base (L2N.CX P w) 3 f fd ["script"] (spV K mg 1 S_law) := by
  unfold S_law B_law
  exact fn_ok F sc_law rfl rfl fun cdv A outer s H E hr =>
  (vss_cons (vs_set (i := 1) sc_law.nd rfl (by first | exact .inl rfl | exact .inr rfl) (vp_ix (vd_o (vo_lst (va_cons vp_int (va_cons vp_int (va_cons vp_int (va_cons vp_int (va_cons vp_int (va_cons vp_int (va_cons vp_int (va_cons vp_int (va_cons vp_int va_nil rfl) rfl) rfl) rfl) rfl) rfl) rfl) rfl) rfl))) (vd_p (vp_mod (vd_o (vo_callD D__law_cell_at hr (by decide) tk_body (van_cons (vp_var (pv 0)) (van_cons vp_int van_nil rfl) rfl))) (vd_p vp_int))) (fun _ _ => rfl)) rfl (by first | exact .inl rfl | exact .inr rfl))
  (vss_cons (vs_if (vt_cmp .eq (hu65 hr) (vd_p (vp_mod (vd_o (vo_callD D__law_cell_at hr (by decide) tk_body (van_cons (vp_var (pv 0)) (van_cons vp_int van_nil rfl) rfl))) (vd_p vp_int))) (vd_p vp_int) rfl) (vss_one (vs_set (i := 1) sc_law.nd rfl (by first | exact .inl rfl | exact .inr rfl) (vp_sub (vd_p (vp_mod (vd_p (vp_div (vd_o (vo_callD D__law_cell_at hr (by decide) tk_body (van_cons (vp_var (pv 0)) (van_cons vp_int van_nil rfl) rfl))) (vd_p vp_int))) (vd_p vp_int))) (vd_p vp_int)) rfl (by first | exact .inl rfl | exact .inr rfl))) vss_nil)
  (vss_cons (vs_set (i := 2) sc_law.nd rfl (by first | exact .inl rfl | exact .inr rfl) (vp_ix (vd_o (vo_lst (va_cons (vp_mod (vd_p (vp_div (vd_o (vo_callD D__law_cell_at hr (by decide) tk_body (van_cons (vp_var (pv 0)) (van_cons vp_int van_nil rfl) rfl))) (vd_p vp_int))) (vd_p vp_int)) (va_cons (vp_o (vo_add (vd_p vp_int) (vd_p (vp_mod (vd_p (vp_div (vd_o (vo_callD D__law_cell_at hr (by decide) tk_body (van_cons (vp_var (pv 0)) (van_cons vp_int van_nil rfl) rfl))) (vd_p vp_int))) (vd_p vp_int))))) (va_cons vp_int va_nil rfl) rfl) rfl))) (vd_p (vp_mod (vd_o (vo_callD D__law_cell_at hr (by decide) tk_body (van_cons (vp_var (pv 0)) (van_cons vp_int van_nil rfl) rfl))) (vd_p vp_int))) (fun _ _ => rfl)) rfl (by first | exact .inl rfl | exact .inr rfl))
  (vss_cons (vs_set (i := 3) sc_law.nd rfl (by first | exact .inl rfl | exact .inr rfl) (vp_o (vo_add (vd_p vp_int) (vd_p (vp_mod (vd_o (vo_callD D__law_cell_at hr (by decide) tk_body (van_cons (vp_var (pv 0)) (van_cons vp_int van_nil rfl) rfl))) (vd_p vp_int))))) rfl (by first | exact .inl rfl | exact .inr rfl))
  (vss_cons (vs_if (vt_cmp .eq (hu65 hr) (vd_p (vp_mod (vd_o (vo_callD D__law_cell_at hr (by decide) tk_body (van_cons (vp_var (pv 0)) (van_cons vp_int van_nil rfl) rfl))) (vd_p vp_int))) (vd_p vp_int) rfl) (vss_one (vs_set (i := 3) sc_law.nd rfl (by first | exact .inl rfl | exact .inr rfl) (vp_sub (vd_p (vp_mod (vd_p (vp_div (vd_o (vo_callD D__law_cell_at hr (by decide) tk_body (van_cons (vp_var (pv 0)) (van_cons vp_int van_nil rfl) rfl))) (vd_p vp_int))) (vd_p vp_int))) (vd_p vp_int)) rfl (by first | exact .inl rfl | exact .inr rfl))) vss_nil)
  (vss_cons (vs_set (i := 4) sc_law.nd rfl (by first | exact .inl rfl | exact .inr rfl) vp_non rfl (by first | exact .inl rfl | exact .inr rfl))
  (vss_cons (vs_try (i := 5) T.exs (by decide) rfl rfl sc_law.nd rfl rfl rfl (by decide) tk_body (fun W pn xe tk po => (vss_one (vs_set (i := 4) sc_law.nd rfl (by first | exact .inl rfl | exact .inr rfl) (vp_o (vo_makeD C_Table hr (by decide) tk (van_cons (vp_var (pv 1)) (van_cons (vp_var (pv 2)) (van_cons (vp_var (pv 3)) van_nil rfl) rfl) rfl))) rfl (by first | exact .inl rfl | exact .inr rfl))))
  (fun c D x oe pn hc mc hz hf => (vsx_ret (vpx_and (vpx_l (vp_not (vp_o (vo_callHD H__law_due (roomS hr) (by decide) (hot_suite hz hf) VL.takes0N (van_cons (vp_var (pv 1)) (van_cons (vp_var (pv 2)) (van_cons (vp_var (pv 3)) van_nil rfl) rfl) rfl))))) (vpx_and (vpx_isE T.exs hc (by decide) mc hz hf (pv 5) (T.no "isinstance" rfl)) (vpx_one (vpx_isV T.exs hc mc hz hf (pv 5) (T.no "isinstance" rfl) (T.no "ValueError" rfl))))))))
  (vss_cons (vs_set (i := 6) sc_law.nd rfl (by first | exact .inl rfl | exact .inr rfl) (vp_o (vo_lst (va_cons (vp_fld T.f_Table_prime (vp_var (pv 4)) rfl) (va_cons (vp_fld T.f_Table_hands (vp_var (pv 4)) rfl) (va_cons (vp_fld T.f_Table_few (vp_var (pv 4)) rfl) va_nil rfl) rfl) rfl))) rfl (by first | exact .inl rfl | exact .inr rfl))
  (vss_one (vs_retP (vp_and (vp_o (vo_callD D__law_due hr (by decide) tk_body (van_cons (vp_var (pv 1)) (van_cons (vp_var (pv 2)) (van_cons (vp_var (pv 3)) van_nil rfl) rfl) rfl))) (vp_and (vp_all rfl (T.no "all" rfl) (vd_o (vo_comp (own := [("x", 7)]) (ts := [7]) rfl sc_law.nd (vir_list (vd_var (pv 6))) (blkOk_by (N := N_law) (sc := defScope st_law) (by decide +kernel)) (fun _ _ _ _ _ => (vg_name sc_law.nd rfl (by first | exact .inl rfl | exact .inr rfl) (by first | exact .inl rfl | exact .inr rfl))) (fun _ _ _ _ _ => vts_nil) (fun _ _ _ _ _ => (vo_callD D__law_whole hr (by decide) VL.takes0N (van_cons (vp_var (pv 7)) van_nil rfl))) (by decide)))) (vp_one (vp_cmp .eq (hu65 hr) (vd_var (pv 6)) (vd_o (vo_lst (va_cons (vp_var (pv 1)) (va_cons (vp_var (pv 2)) (va_cons (vp_var (pv 3)) va_nil rfl) rfl) rfl))) rfl))))))))))))))
end
theorem all_mk {l : PySem.W.OpenLaw} {w : World} {K : PySem.W.Frag} {h : Heap} {mg : Str → Option Value} {fa CTable EBadTable EVeilError f1 f2 f3 f4 f5 gPRIMES : Addr} (X : K.In h) (G : h.Ns mainGlobals mg) (hfa : mg "law" = some (.ref fa))
    {od1 an1 od2 an2 od3 an3 od4 an4 od5 an5 : Option Addr} {sl1 sl2 sl3 sl4 sl5 : Array (Option Value)} {oc1 kV1 dc1 pm1 cd1 ct1 oc2 kV2 dc2 pm2 cd2 ct2 oc3 kV3 dc3 pm3 cd3 ct3 oc4 kV4 dc4 pm4 cd4 ct4 oc5 kV5 dc5 pm5 cd5 ct5 : Value} {odGPRIMES : Option Addr} {nGPRIMES : Nat} {slGPRIMES : Array (Option Value)} {tPRIMES0 tPRIMES1 tPRIMES2 tPRIMES3 tPRIMES4 tPRIMES5 tPRIMES6 tPRIMES7 tPRIMES8 : Tok}
    (a_Table : PySem.W.nsIn K mainGlobals "Table" = some (some (.ref CTable))) (pg_Table : PySem.W.plainGet K CTable Str.empty = true) (hd_Table : PySem.W.hasDictIn K CTable = true) (po_Table : PySem.W.plainOver K CTable = true)
    (sa_Table : PySem.W.findIn K (.ref CTable) "__setattr__" = some (some (.builtin "object.__setattr__"))) (mk_Table : PySem.W.makesIn K CTable = true) (kc_Table : PySem.W.keepIn K (.ref CTable) = true) (n_Table_few : PySem.W.findIn K (.ref CTable) "few" = some none)
    (n_Table_hands : PySem.W.findIn K (.ref CTable) "hands" = some none) (n_Table_prime : PySem.W.findIn K (.ref CTable) "prime" = some none) (a_BadTable : PySem.W.nsIn K mainGlobals "BadTable" = some (some (.ref EBadTable))) (x_BadTable : PySem.W.excIn K EBadTable [.type "ValueError", .type "Exception", .type "BaseException", .type "object"] "ValueError.__new__" = true)
    (k_BadTable : PySem.W.keepIn K (.ref EBadTable) = true) (s_BadTable : PySem.W.subIn K (.ref EBadTable) (.type "BaseException") = some true) (t_BadTable : PySem.W.typeIn K (.ref EBadTable) = some (.type "type")) (xn : PySem.W.specialIn K (.builtin "object.__class__") "__get__" = some (some (.builtin "getset_descriptor.__get__")))
    (xt : PySem.W.takesIn K (.builtin "object.__class__") = some true) (a_VeilError : PySem.W.nsIn K mainGlobals "VeilError" = some (some (.ref EVeilError))) (s_VeilError : PySem.W.subIn K (.ref EVeilError) (.type "BaseException") = some true) (t_VeilError : PySem.W.typeIn K (.ref EVeilError) = some (.type "type"))
    (xg_VeilError : PySem.W.findIn K (.ref EVeilError) "__getattribute__" = some (some (.builtin "BaseException.__getattribute__"))) (xk_VeilError : PySem.W.findIn K (.ref EVeilError) "__getattr__" = some none) (xd_VeilError : PySem.W.hasDictIn K EVeilError = true) (xa_VeilError : PySem.W.findIn K (.ref EVeilError) "__class__" = some (some (.builtin "object.__class__")))
    (xm_VeilError : PySem.W.mroIn K EVeilError (.type "object") = some true) (xv_VeilError : PySem.W.subIn K (.ref EVeilError) (.type "ValueError") = some true) (xe_VeilError_VeilError : PySem.W.subIn K (.ref EVeilError) (.ref EVeilError) = some true) (xe_VeilError_BadTable : PySem.W.subIn K (.ref EVeilError) (.ref EBadTable) = some false)
    (xg_BadTable : PySem.W.findIn K (.ref EBadTable) "__getattribute__" = some (some (.builtin "BaseException.__getattribute__"))) (xk_BadTable : PySem.W.findIn K (.ref EBadTable) "__getattr__" = some none) (xd_BadTable : PySem.W.hasDictIn K EBadTable = true) (xa_BadTable : PySem.W.findIn K (.ref EBadTable) "__class__" = some (some (.builtin "object.__class__")))
    (xm_BadTable : PySem.W.mroIn K EBadTable (.type "object") = some true) (xv_BadTable : PySem.W.subIn K (.ref EBadTable) (.type "ValueError") = some true) (xe_BadTable_VeilError : PySem.W.subIn K (.ref EBadTable) (.ref EVeilError) = some true) (xe_BadTable_BadTable : PySem.W.subIn K (.ref EBadTable) (.ref EBadTable) = some true)
    (z_ValueError : PySem.W.nsIn K mainGlobals "ValueError" = some none) (z_all : PySem.W.nsIn K mainGlobals "all" = some none) (z_bool : PySem.W.nsIn K mainGlobals "bool" = some none) (z_int : PySem.W.nsIn K mainGlobals "int" = some none)
    (z_isinstance : PySem.W.nsIn K mainGlobals "isinstance" = some none) (z_len : PySem.W.nsIn K mainGlobals "len" = some none) (a_PRIMES : PySem.W.nsIn K mainGlobals "PRIMES" = some (some (.ref gPRIMES))) (l_PRIMES : K.lookup gPRIMES = some ⟨.type "tuple", odGPRIMES, .seq #[.int 5 tPRIMES0, .int 7 tPRIMES1, .int 11 tPRIMES2, .int 13 tPRIMES3, .int 17 tPRIMES4, .int 19 tPRIMES5, .int 23 tPRIMES6, .int 29 tPRIMES7, .int 31 tPRIMES8] nGPRIMES, slGPRIMES⟩)
    (a1 : PySem.W.nsIn K mainGlobals "_law_cell_at" = some (some (.ref f1))) (l1 : K.lookup f1 = some ⟨oc1, od1, .func (PySem.W.fnOf "_law_cell_at" "_law_cell_at" (defArgs st__law_cell_at) (defBody st__law_cell_at) (defScope st__law_cell_at) .none kV1 dc1 pm1 an1 cd1 ct1), sl1⟩) (c1 : PySem.W.codeIn K cd1 "_law_cell_at" = true) (k1 : PySem.W.keepIn K (.ref f1) = true)
    (a2 : PySem.W.nsIn K mainGlobals "_law_due" = some (some (.ref f2))) (l2 : K.lookup f2 = some ⟨oc2, od2, .func (PySem.W.fnOf "_law_due" "_law_due" (defArgs st__law_due) (defBody st__law_due) (defScope st__law_due) .none kV2 dc2 pm2 an2 cd2 ct2), sl2⟩) (c2 : PySem.W.codeIn K cd2 "_law_due" = true) (k2 : PySem.W.keepIn K (.ref f2) = true)
    (a3 : PySem.W.nsIn K mainGlobals "_law_whole" = some (some (.ref f3))) (l3 : K.lookup f3 = some ⟨oc3, od3, .func (PySem.W.fnOf "_law_whole" "_law_whole" (defArgs st__law_whole) (defBody st__law_whole) (defScope st__law_whole) .none kV3 dc3 pm3 an3 cd3 ct3), sl3⟩) (c3 : PySem.W.codeIn K cd3 "_law_whole" = true) (k3 : PySem.W.keepIn K (.ref f3) = true)
    (a4 : PySem.W.findIn K (.ref CTable) "__init__" = some (some (.ref f4))) (i4 : PySem.W.isFn K (.ref f4) = true) (l4 : K.lookup f4 = some ⟨oc4, od4, .func (PySem.W.fnOf "__init__" "Table.__init__" (defArgs st_Table___init__) (defBody st_Table___init__) (defScope st_Table___init__) .none kV4 dc4 pm4 an4 cd4 ct4), sl4⟩) (c4 : PySem.W.codeIn K cd4 "Table.__init__" = true)
    (k4 : PySem.W.keepIn K (.ref f4) = true) (a5 : PySem.W.nsIn K mainGlobals "law" = some (some (.ref f5))) (l5 : K.lookup f5 = some ⟨oc5, od5, .func (PySem.W.fnOf "law" "law" (defArgs st_law) (defBody st_law) (defScope st_law) .none kV5 dc5 pm5 an5 cd5 ct5), sl5⟩) (c5 : PySem.W.codeIn K cd5 "law" = true)
    (k5 : PySem.W.keepIn K (.ref f5) = true)
    : ∃ fd : FuncData, (∀ (s : Shared) (v : Value), BindsTo s fd ⟨[v], []⟩ [("script", v)]) ∧ ∀ base : Heap, K.In base → base.Ns mainGlobals mg → FnOk l.prog w K mg base (L2N.CX l.prog w) 3 fa fd ["script"] (spLaw K) := by
  have e := hfa.symm.trans (PySem.W.mg_of X G a5)
  cases e
  have T : Txt K mg := {
    no := fun x h => by
      have m := List.mem_of_elem_eq_true h
      simp only [List.mem_cons, List.not_mem_nil, or_false] at m
      rcases m with rfl | rfl | rfl | rfl | rfl | rfl
      · exact PySem.W.mg_none_of X G z_ValueError
      · exact PySem.W.mg_none_of X G z_all
      · exact PySem.W.mg_none_of X G z_bool
      · exact PySem.W.mg_none_of X G z_int
      · exact PySem.W.mg_none_of X G z_isinstance
      · exact PySem.W.mg_none_of X G z_len
    f_Table_few := fun C m => by
      have e := m.symm.trans (PySem.W.mg_of X G a_Table)
      cases e
      exact ⟨⟨pg_Table, hd_Table, po_Table, sa_Table⟩, n_Table_few⟩
    f_Table_hands := fun C m => by
      have e := m.symm.trans (PySem.W.mg_of X G a_Table)
      cases e
      exact ⟨⟨pg_Table, hd_Table, po_Table, sa_Table⟩, n_Table_hands⟩
    f_Table_prime := fun C m => by
      have e := m.symm.trans (PySem.W.mg_of X G a_Table)
      cases e
      exact ⟨⟨pg_Table, hd_Table, po_Table, sa_Table⟩, n_Table_prime⟩
    e_BadTable := ⟨_, PySem.W.mg_of X G a_BadTable, x_BadTable, k_BadTable, s_BadTable, t_BadTable⟩
    g_PRIMES := ⟨_, PySem.W.mg_of X G a_PRIMES, fun _ => .inr ⟨_, _, _, l_PRIMES, rfl, rfl, by show 9 ≤ sizeLine; rw [sizeLine_eq]; decide, .cons ⟨_, rfl⟩ (.cons ⟨_, rfl⟩ (.cons ⟨_, rfl⟩ (.cons ⟨_, rfl⟩ (.cons ⟨_, rfl⟩ (.cons ⟨_, rfl⟩ (.cons ⟨_, rfl⟩ (.cons ⟨_, rfl⟩ (.cons ⟨_, rfl⟩ .nil))))))))⟩⟩
    exs := ⟨fun c hc => by
      simp only [List.mem_cons, List.not_mem_nil, or_false] at hc
      rcases hc with rfl | rfl
      · refine ⟨EVeilError, PySem.W.mg_of X G a_VeilError, ⟨xg_VeilError, xk_VeilError, s_VeilError, xd_VeilError, xa_VeilError, xn, xt, xm_VeilError⟩, kit_val xv_VeilError, fun d hd D m => ?_⟩
        simp only [List.mem_cons, List.not_mem_nil, or_false] at hd
        rcases hd with rfl | rfl
        · cases m.symm.trans (PySem.W.mg_of X G a_VeilError)
          exact ⟨PySem.W.exm_ref s_VeilError xd_VeilError t_VeilError xe_VeilError_VeilError, kit_own xd_VeilError t_VeilError xe_VeilError_VeilError xe_VeilError_VeilError⟩
        · cases m.symm.trans (PySem.W.mg_of X G a_BadTable)
          exact ⟨PySem.W.exm_ref s_BadTable xd_BadTable t_BadTable xe_VeilError_BadTable, kit_own xd_BadTable t_BadTable xe_VeilError_BadTable xe_VeilError_VeilError⟩
      · refine ⟨EBadTable, PySem.W.mg_of X G a_BadTable, ⟨xg_BadTable, xk_BadTable, s_BadTable, xd_BadTable, xa_BadTable, xn, xt, xm_BadTable⟩, kit_val xv_BadTable, fun d hd D m => ?_⟩
        simp only [List.mem_cons, List.not_mem_nil, or_false] at hd
        rcases hd with rfl | rfl
        · cases m.symm.trans (PySem.W.mg_of X G a_VeilError)
          exact ⟨PySem.W.exm_ref s_VeilError xd_VeilError t_VeilError xe_BadTable_VeilError, kit_own xd_VeilError t_VeilError xe_BadTable_VeilError xe_BadTable_BadTable⟩
        · cases m.symm.trans (PySem.W.mg_of X G a_BadTable)
          exact ⟨PySem.W.exm_ref s_BadTable xd_BadTable t_BadTable xe_BadTable_BadTable, kit_own xd_BadTable t_BadTable xe_BadTable_BadTable xe_BadTable_BadTable⟩⟩ }
  have F1 := fun_mk (st := st__law_cell_at) l1 c1 k1
  have b1 := F1.binds (ps := ["script", "k"]) fun _ _ _ _ _ _ us hl => match us, hl with | [_, _], _ => rfl
  have s1 : Sits K mg "_law_cell_at" st__law_cell_at ["script", "k"] := ⟨_, _, F1, PySem.W.mg_of X G a1, b1⟩
  have F2 := fun_mk (st := st__law_due) l2 c2 k2
  have b2 := F2.binds (ps := ["prime", "hands", "few"]) fun _ _ _ _ _ _ us hl => match us, hl with | [_, _, _], _ => rfl
  have s2 : Sits K mg "_law_due" st__law_due ["prime", "hands", "few"] := ⟨_, _, F2, PySem.W.mg_of X G a2, b2⟩
  have F3 := fun_mk (st := st__law_whole) l3 c3 k3
  have b3 := F3.binds (ps := ["found"]) fun _ _ _ _ _ _ us hl => match us, hl with | [_], _ => rfl
  have s3 : Sits K mg "_law_whole" st__law_whole ["found"] := ⟨_, _, F3, PySem.W.mg_of X G a3, b3⟩
  have F4 := fun_mk (st := st_Table___init__) l4 c4 k4
  have b4 := F4.binds (ps := ["self", "prime", "hands", "few"]) fun _ _ _ _ _ _ us hl => match us, hl with | [_, _, _, _], _ => rfl
  have s4 : SitsM K "__init__" "Table.__init__" st_Table___init__ ["self", "prime", "hands", "few"] f4 := ⟨_, F4, b4⟩
  have F5 := fun_mk (st := st_law) l5 c5 k5
  refine ⟨PySem.W.fnOf "law" "law" (defArgs st_law) (defBody st_law) (defScope st_law) .none kV5 dc5 pm5 an5 cd5 ct5, fun s v => .of_eq rfl, fun base _ _ => ?_⟩
  have D__law_cell_at := ok__law_cell_at (P := l.prog) (w := w) (base := base) s1 T 
  have D__law_due := ok__law_due (P := l.prog) (w := w) (base := base) s2 T 
  have H__law_due := okH__law_due (P := l.prog) (w := w) (base := base) s2 T
  have D__law_whole := ok__law_whole (P := l.prog) (w := w) (base := base) s3 T 
  obtain ⟨fm4, G4, bm4⟩ := ok_Table___init__ (P := l.prog) (w := w) (base := base) s4 T 
  have C_Table : ClsOk l.prog w K mg base 1 (3 + 1) "Table" ["self", "prime", "hands", "few"] S_Table___init__ := ⟨_, _, _, ⟨mk_Table, a4, i4, kc_Table⟩, G4, PySem.W.mg_of X G a_Table, bm4⟩
  exact law_ok (ok_law F5 T D__law_cell_at D__law_due D__law_whole C_Table H__law_due) VL.law01
end K01
open PySem PySem.W PyProof.Rows
set_option maxRecDepth 100000 in
set_option maxHeartbeats 0 in
theorem PySem.Challenge.cw_veilsum_k01_tables_holds : PySem.Challenge.rw_veilsum_k01_tables.Holds := by
  w_on; o_law; k_head; (case hw => w_witness2)
  k_fill
  refine L2.walk_of (l := PySem.Challenge.rw_veilsum_k01_tables) (n := 63) (k := 3) (x := "script") (CX := fun w => L2N.CX PySem.Challenge.rw_veilsum_k01_tables.prog w) (sp := fun w => VL.spLaw _) rfl (by decide) rfl ⟨rfl, by decide, by decide⟩ (fun w h Y => PySem.W.kIn_of Y) ?F (fun _ _ a ns hl _ hS => ⟨a, ns, rfl, hS, hl, fun _ => rfl⟩) (fun _ _ _ _ _ h => by obtain ⟨_, _, _, _, _, _, _, _, _, _, _, _, z⟩ := h; exact z.elim)
  case F =>
    intro w mg fa h KX G hmg
    refine' K01.all_mk KX G hmg ?a_Table ?pg_Table ?hd_Table ?po_Table ?sa_Table ?mk_Table ?kc_Table ?n_Table_few ?n_Table_hands ?n_Table_prime ?a_BadTable ?x_BadTable ?k_BadTable ?s_BadTable ?t_BadTable ?xn ?xt ?a_VeilError ?s_VeilError ?t_VeilError ?xg_VeilError ?xk_VeilError ?xd_VeilError ?xa_VeilError ?xm_VeilError ?xv_VeilError ?xe_VeilError_VeilError ?xe_VeilError_BadTable ?xg_BadTable ?xk_BadTable ?xd_BadTable ?xa_BadTable ?xm_BadTable ?xv_BadTable ?xe_BadTable_VeilError ?xe_BadTable_BadTable ?z_ValueError ?z_all ?z_bool ?z_int ?z_isinstance ?z_len ?a_PRIMES ?l_PRIMES ?a1 ?l1 ?c1 ?k1 ?a2 ?l2 ?c2 ?k2 ?a3 ?l3 ?c3 ?k3 ?a4 ?i4 ?l4 ?c4 ?k4 ?a5 ?l5 ?c5 ?k5
    (case a_Table => k_is)
    (case pg_Table => k_is)
    (case hd_Table => k_is)
    (case po_Table => k_is)
    (case sa_Table => k_is)
    (case mk_Table => k_is)
    (case kc_Table => k_is)
    (case n_Table_few => k_is)
    (case n_Table_hands => k_is)
    (case n_Table_prime => k_is)
    (case a_BadTable => k_is)
    (case x_BadTable => k_exc)
    (case k_BadTable => k_is)
    (case s_BadTable => k_is)
    (case t_BadTable => k_is)
    (case xn => k_is)
    (case xt => k_is)
    (case a_VeilError => k_is)
    (case s_VeilError => k_is)
    (case t_VeilError => k_is)
    (case xg_VeilError => k_is)
    (case xk_VeilError => k_is)
    (case xd_VeilError => k_is)
    (case xa_VeilError => k_is)
    (case xm_VeilError => k_is)
    (case xv_VeilError => k_is)
    (case xe_VeilError_VeilError => k_is)
    (case xe_VeilError_BadTable => k_is)
    (case xg_BadTable => k_is)
    (case xk_BadTable => k_is)
    (case xd_BadTable => k_is)
    (case xa_BadTable => k_is)
    (case xm_BadTable => k_is)
    (case xv_BadTable => k_is)
    (case xe_BadTable_VeilError => k_is)
    (case xe_BadTable_BadTable => k_is)
    (case z_ValueError => k_is)
    (case z_all => k_is)
    (case z_bool => k_is)
    (case z_int => k_is)
    (case z_isinstance => k_is)
    (case z_len => k_is)
    (case a_PRIMES => k_is)
    (case l_PRIMES => k_is)
    (case a1 => k_is)
    (case l1 => k_is)
    (case c1 => k_is)
    (case k1 => k_is)
    (case a2 => k_is)
    (case l2 => k_is)
    (case c2 => k_is)
    (case k2 => k_is)
    (case a3 => k_is)
    (case l3 => k_is)
    (case c3 => k_is)
    (case k3 => k_is)
    (case a4 => k_is)
    (case i4 => k_is)
    (case l4 => k_is)
    (case c4 => k_is)
    (case k4 => k_is)
    (case a5 => k_is)
    (case l5 => k_is)
    (case c5 => k_is)
    (case k5 => k_is)
