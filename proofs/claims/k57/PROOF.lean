import PyProof.Rows.All
import Wide.All
import OpenK.AllK
import Wide.FinOn
import HandS.ForMost
import HandS.ForExc
import HandS.IsInst
import HandS.Flow
import HandS.Wide
import HandS.FStr
import KE.DataEq
import KE.SortData
import KE.DataCmp
import KE.DataIsa
import KE.DataMinMax
import KE.DataAny
import KE.DataFind
import HandS.Exc
import HandS.TupAny
import HandS.Text
import HandS.List
import HandS.Style
import HandS.Iter
import HandS.Comp
import HandS.TryOnly
import HandS.ExcField
import HandS.HeadEnd
import HandS.HeadHook2
import HandS.Head2
import HandS.Ends
import HandS.Set
import HandS.SetFor
import KE.KExcSuper
import HandS.ExcOwn
import HandS.RaiseMore
import PyProof.StrLawsRepr
import PySem.Challenge.RW_meetsagain_k57_documents_in_writing
set_option Elab.async false
set_option linter.all false
set_option maxRecDepth 100000
set_option maxHeartbeats 4000000
section
set_option Elab.async false
set_option linter.all false
set_option maxRecDepth 100000
set_option maxHeartbeats 1000000
/-! Mb1: values as trees, owned variables, the relation between an environment and the machine's slots and heap -/
namespace Mb
open PySem PySem.Spec PyProof.Rows L2

abbrev D := PyData
abbrev Ent := Nat × D
abbrev Ev := List (Option Ent)

structure Exn where
  cls : Str
  fs : List (Str × D)

inductive Res (α : Type) where
  | ok (a : α)
  | exc (x : Exn) (e : Ev)
  | bad
def Res.bind {α β : Type} (r : Res α) (f : α → Res β) : Res β := match r with
  | .ok a => f a
  | .exc x e => .exc x e
  | .bad => .bad

def kD : Key → D
  | .inl i => .int i
  | .inr x => .str x

/-- the dict at a: its keys as data, its values -/
def DictAt (H : Hp) (a : Addr) (ks : List D) (vs : List V) : Prop :=
  (∃ kvs : List (Key × V), Rd H a (.dK kvs) ∧ kvs.map (fun p => kD p.1) = ks ∧ kvs.map (·.2) = vs)
  ∨ (∃ kvs : List (List Key × V), Rd H a (.dT kvs) ∧ kvs.map (fun p => PyData.tuple (p.1.map kD)) = ks ∧ kvs.map (·.2) = vs)

mutual
inductive Rz (K : PySem.W.Frag) (G : Hp) : V → D → Prop
  | non : Rz K G .non .none
  | bl (b : Bool) : Rz K G (.bl b) (.bool b)
  | int (i : Int) : Rz K G (.int i) (.int i)
  | str (x : Str) : Rz K G (.str x) (.str x)
  | lst {a : Addr} {xs : List V} {ds : List D} : Rd G a (.lst xs) → RzAll K G xs ds → Rz K G (.ref a) (.list ds)
  | tup {a : Addr} {xs : List V} {ds : List D} : SqT K G a xs → RzAll K G xs ds → Rz K G (.ref a) (.tuple ds)
  | dct {a : Addr} {ks : List D} {vs : List V} {ds : List D} {kvs : List (D × D)} : DictAt G a ks vs → RzAll K G vs ds → ks.length = ds.length → kvs = ks.zip ds → Rz K G (.ref a) (.dict kvs)
inductive RzAll (K : PySem.W.Frag) (G : Hp) : List V → List D → Prop
  | nil : RzAll K G [] []
  | cons {v : V} {vs : List V} {d : D} {ds : List D} : Rz K G v d → RzAll K G vs ds → RzAll K G (v :: vs) (d :: ds)
end

theorem same_rd {H H' : Hp} (e : Same H H') {a : Addr} {u : HO} (h : Rd H a u) : Rd H' a u := by
  rcases h with h | ⟨o, h⟩
  · exact .inl (e _ _ h)
  · exact .inr ⟨o, e _ _ h⟩
theorem same_sqt {K : PySem.W.Frag} {H H' : Hp} (e : Same H H') {a : Addr} {xs : List V} (h : SqT K H a xs) : SqT K H' a xs := by
  rcases h with h | h
  · exact .inl (same_rd e h)
  · exact .inr h
theorem same_dict {H H' : Hp} (e : Same H H') {a : Addr} {ks : List D} {vs : List V} (h : DictAt H a ks vs) : DictAt H' a ks vs := by
  rcases h with ⟨kvs, h, q⟩ | ⟨kvs, h, q⟩
  · exact .inl ⟨kvs, same_rd e h, q⟩
  · exact .inr ⟨kvs, same_rd e h, q⟩
mutual
theorem Rz.same {K : PySem.W.Frag} {H H' : Hp} (e : Same H H') : ∀ {v : V} {d : D}, Rz K H v d → Rz K H' v d
  | _, _, .non => .non
  | _, _, .bl b => .bl b
  | _, _, .int i => .int i
  | _, _, .str x => .str x
  | _, _, .lst h r => .lst (same_rd e h) (RzAll.same e r)
  | _, _, .tup h r => .tup (same_sqt e h) (RzAll.same e r)
  | _, _, .dct h r l q => .dct (same_dict e h) (RzAll.same e r) l q
theorem RzAll.same {K : PySem.W.Frag} {H H' : Hp} (e : Same H H') : ∀ {v : List V} {d : List D}, RzAll K H v d → RzAll K H' v d
  | _, _, .nil => .nil
  | _, _, .cons h r => .cons (Rz.same e h) (RzAll.same e r)
end
theorem RzAll.length {K : PySem.W.Frag} {G : Hp} : ∀ {vs : List V} {ds : List D}, RzAll K G vs ds → vs.length = ds.length
  | _, _, .nil => rfl
  | _, _, .cons _ r => by simp [RzAll.length r]
theorem RzAll.get {K : PySem.W.Frag} {G : Hp} : ∀ {vs : List V} {ds : List D} {i : Nat} {d : D}, RzAll K G vs ds → ds[i]? = some d → ∃ v, vs[i]? = some v ∧ Rz K G v d
  | _, _, _, _, .nil, h => by simp at h
  | _, _, 0, _, .cons r _, h => by simp at h; subst h; exact ⟨_, rfl, r⟩
  | _, _, i + 1, _, .cons _ t, h => by
    obtain ⟨v, h1, h2⟩ := RzAll.get (i := i) t (by simpa using h)
    exact ⟨v, by simpa using h1, h2⟩
theorem RzAll.get' {K : PySem.W.Frag} {G : Hp} : ∀ {vs : List V} {ds : List D} {i : Nat} {v : V}, RzAll K G vs ds → vs[i]? = some v → ∃ d, ds[i]? = some d ∧ Rz K G v d
  | _, _, _, _, .nil, h => by simp at h
  | _, _, 0, _, .cons r _, h => by simp at h; subst h; exact ⟨_, rfl, r⟩
  | _, _, i + 1, _, .cons _ t, h => by
    obtain ⟨v, h1, h2⟩ := RzAll.get' (i := i) t (by simpa using h)
    exact ⟨v, by simpa using h1, h2⟩
theorem RzAll.append {K : PySem.W.Frag} {G : Hp} : ∀ {vs ws : List V} {ds es : List D}, RzAll K G vs ds → RzAll K G ws es → RzAll K G (vs ++ ws) (ds ++ es)
  | _, _, _, _, .nil, s => s
  | _, _, _, _, .cons r t, s => .cons r (RzAll.append t s)
theorem RzAll.take {K : PySem.W.Frag} {G : Hp} : ∀ {vs : List V} {ds : List D} (n : Nat), RzAll K G vs ds → RzAll K G (vs.take n) (ds.take n)
  | _, _, 0, _ => .nil
  | _, _, _ + 1, .nil => .nil
  | _, _, n + 1, .cons r t => .cons r (RzAll.take n t)
theorem RzAll.drop {K : PySem.W.Frag} {G : Hp} : ∀ {vs : List V} {ds : List D} (n : Nat), RzAll K G vs ds → RzAll K G (vs.drop n) (ds.drop n)
  | _, _, 0, r => r
  | _, _, _ + 1, .nil => .nil
  | _, _, n + 1, .cons _ t => RzAll.drop n t

/-! ### plain data: the library's own relation -/
mutual
theorem Rz.dp {K : PySem.W.Frag} {G : Hp} : ∀ {v : V} {d : D}, Rz K G v d → d.plain = true → Dp K G v d
  | _, _, .non, _ => .non
  | _, _, .bl b, _ => .bl b
  | _, _, .int i, _ => .int i
  | _, _, .str x, _ => .str x
  | _, _, .lst h r, p => .lst (.inl h) (RzAll.dp r (by simpa [PyData.plain] using p))
  | _, _, .tup h r, p => .tup h (RzAll.dp r (by simpa [PyData.plain] using p))
  | _, _, .dct _ _ _ _, p => by simp [PyData.plain] at p
theorem RzAll.dp {K : PySem.W.Frag} {G : Hp} : ∀ {v : List V} {d : List D}, RzAll K G v d → PyData.plainAll d = true → DpAll K G v d
  | _, _, .nil, _ => .nil
  | _, _, .cons h r, p => by
    simp only [PyData.plainAll, Bool.and_eq_true] at p
    exact .cons (Rz.dp h p.1) (RzAll.dp r p.2)
end

/-! ### owned values -/
inductive All3 (R : V → D → List Addr → Prop) : List V → List D → List Addr → Prop
  | nil : All3 R [] [] []
  | cons {v : V} {vs : List V} {d : D} {ds : List D} {f fs : List Addr} : R v d f → All3 R vs ds fs → All3 R (v :: vs) (d :: ds) (f ++ fs)
def Ow (K : PySem.W.Frag) (G H : Hp) : Nat → V → D → List Addr → Prop
  | 0, v, d, fp => fp = [] ∧ Rz K G v d
  | n + 1, v, d, fp => ∃ (a : Addr) (fp' : List Addr), v = .ref a ∧ fp = a :: fp' ∧
      ((∃ (vs : List V) (ds : List D), d = .list ds ∧ H a = some (.lst vs) ∧ All3 (Ow K G H n) vs ds fp') ∨
       (∃ (ks : List D) (vs : List V) (ds : List D), d = .dict (ks.zip ds) ∧ ks.length = ds.length ∧ DictAt H a ks vs ∧ (∀ o u, H a ≠ some (.frz o u)) ∧ All3 (Ow K G H n) vs ds fp'))
theorem All3.mono {R R' : V → D → List Addr → Prop} : ∀ {vs : List V} {ds : List D} {fp : List Addr}, All3 R vs ds fp → (∀ v d f, (∀ a ∈ f, a ∈ fp) → R v d f → R' v d f) → All3 R' vs ds fp
  | _, _, _, .nil, _ => .nil
  | _, _, _, .cons r t, h => .cons (h _ _ _ (fun a ha => List.mem_append_left _ ha) r) (All3.mono t fun v d f hf x => h v d f (fun a ha => List.mem_append_right _ (hf a ha)) x)
/-- the owned objects stand as they stood, the ground has grown -/
theorem Ow.keep {K : PySem.W.Frag} {G G' H H' : Hp} (g : Same G G') : ∀ {n : Nat} {v : V} {d : D} {fp : List Addr}, (∀ a ∈ fp, H' a = H a) → Ow K G H n v d fp → Ow K G' H' n v d fp
  | 0, _, _, _, _, ⟨e, r⟩ => ⟨e, r.same g⟩
  | n + 1, _, _, _, k, ⟨a, fp', e1, e2, h⟩ => by
    subst e2
    have ka : H' a = H a := k a List.mem_cons_self
    have rest : ∀ {vs : List V} {ds : List D}, All3 (Ow K G H n) vs ds fp' → All3 (Ow K G' H' n) vs ds fp' := fun {vs ds} x =>
      x.mono fun v d f hf r => Ow.keep g (fun b hb => k b (List.mem_cons_of_mem _ (hf b hb))) r
    refine ⟨a, fp', e1, rfl, ?_⟩
    rcases h with ⟨vs, ds, ed, eh, r⟩ | ⟨ks, vs, ds, ed, el, eh, ef, r⟩
    · exact .inl ⟨vs, ds, ed, ka.trans eh, rest r⟩
    · refine .inr ⟨ks, vs, ds, ed, el, ?_, fun o u q => ef o u (ka.symm.trans q), rest r⟩
      rcases eh with ⟨kvs, h, q⟩ | ⟨kvs, h, q⟩
      · refine .inl ⟨kvs, ?_, q⟩
        rcases h with h | ⟨o, h⟩
        · exact .inl (ka.trans h)
        · exact absurd h (ef o _)
      · refine .inr ⟨kvs, ?_, q⟩
        rcases h with h | ⟨o, h⟩
        · exact .inl (ka.trans h)
        · exact absurd h (ef o _)
/-- read as data in any heap that bears both the ground and the owned objects -/
theorem Ow.rz {K : PySem.W.Frag} {G H J : Hp} (g : Same G J) : ∀ {n : Nat} {v : V} {d : D} {fp : List Addr}, (∀ a ∈ fp, J a = H a) → Ow K G H n v d fp → Rz K J v d
  | 0, _, _, _, _, ⟨_, r⟩ => r.same g
  | n + 1, _, _, _, k, ⟨a, fp', e1, e2, h⟩ => by
    subst e2
    have ka : J a = H a := k a List.mem_cons_self
    have rest : ∀ {vs : List V} {ds : List D} {fp'' : List Addr}, (∀ b ∈ fp'', J b = H b) → All3 (Ow K G H n) vs ds fp'' → RzAll K J vs ds := fun {vs ds fp''} hk x => by
      induction x with
      | nil => exact .nil
      | cons r t ih => exact .cons (Ow.rz g (fun b hb => hk b (List.mem_append_left _ hb)) r) (ih fun b hb => hk b (List.mem_append_right _ hb))
    subst e1
    rcases h with ⟨vs, ds, ed, eh, r⟩ | ⟨ks, vs, ds, ed, el, eh, ef, r⟩
    · subst ed
      exact .lst (.inl (ka.trans eh)) (rest (fun b hb => k b (List.mem_cons_of_mem _ hb)) r)
    · subst ed
      refine .dct (ks := ks) (vs := vs) (ds := ds) ?_ (rest (fun b hb => k b (List.mem_cons_of_mem _ hb)) r) el rfl
      rcases eh with ⟨kvs, h, q⟩ | ⟨kvs, h, q⟩
      · refine .inl ⟨kvs, ?_, q⟩
        rcases h with h | ⟨o, h⟩
        · exact .inl (ka.trans h)
        · exact absurd h (ef o _)
      · refine .inr ⟨kvs, ?_, q⟩
        rcases h with h | ⟨o, h⟩
        · exact .inl (ka.trans h)
        · exact absurd h (ef o _)
end Mb
end

section
set_option Elab.async false
set_option linter.all false
set_option maxRecDepth 100000
set_option maxHeartbeats 1000000
/-! Mb2: the relation of environment and machine, transitions, readings of pure functions -/
namespace Mb
open PySem PySem.Spec PyProof.Rows L2

abbrev Fps := Nat → List Addr
def Wf (fps : Fps) (fp : List Addr) : Addr → Prop := fun a => a ∈ fp ∨ ∃ i, a ∈ fps i

structure Rel (K : PySem.W.Frag) (ε : Ev) (σ : L2.St) (G H : Hp) (fps : Fps) (fp : List Addr) : Prop where
  len : σ.length = ε.length
  sub : Same G H
  off : ∀ a, Wf fps fp a → G a = none ∧ H a ≠ none
  nd : ∀ i, (fps i).Nodup
  dis : ∀ i j a, a ∈ fps i → a ∈ fps j → i = j
  tnd : fp.Nodup
  tdis : ∀ i a, a ∈ fp → a ∉ fps i
  at' : ∀ i e, ε[i]? = some (some e) → ∃ v, σ[i]? = some (some v) ∧ Ow K G H e.1 v e.2 (fps i)

structure Tr (G H : Hp) (W : Addr → Prop) (G' H' : Hp) (W' : Addr → Prop) : Prop where
  keep : ∀ a o, H a = some o → ¬ W a → H' a = some o
  there : ∀ a, H a ≠ none → H' a ≠ none
  grow : Same G G'
  new : ∀ a, G' a ≠ none → G a ≠ none ∨ H a = none ∨ W a
  wnew : ∀ a, W' a → W a ∨ H a = none

theorem Tr.refl {G H : Hp} {W : Addr → Prop} : Tr G H W G H W := ⟨fun _ _ h _ => h, fun _ h => h, Same.refl G, fun _ h => .inl h, fun _ h => .inl h⟩
theorem Tr.trans {G H G1 H1 G2 H2 : Hp} {W W1 W2 : Addr → Prop} (a : Tr G H W G1 H1 W1) (b : Tr G1 H1 W1 G2 H2 W2) : Tr G H W G2 H2 W2 where
  keep := fun x o h n => b.keep x o (a.keep x o h n) fun w => (a.wnew x w).elim n fun e => by rw [h] at e; cases e
  there := fun x h => b.there x (a.there x h)
  grow := a.grow.trans b.grow
  new := fun x h => by
    have back : H1 x = none → H x = none := fun e => Classical.byContradiction fun n => a.there x n e
    rcases b.new x h with h | h | h
    · exact a.new x h
    · exact .inr (.inl (back h))
    · rcases a.wnew x h with h | h
      · exact .inr (.inr h)
      · exact .inr (.inl h)
  wnew := fun x h => by
    have back : H1 x = none → H x = none := fun e => Classical.byContradiction fun n => a.there x n e
    rcases b.wnew x h with h | h
    · exact a.wnew x h
    · exact .inr (back h)

/-! ### freezing what is owned -/
def frz (G H : Hp) (fp : List Addr) : Hp := fun a => if a ∈ fp then H a else G a
theorem frz_in {G H : Hp} {fp : List Addr} {a : Addr} (h : a ∈ fp) : frz G H fp a = H a := by unfold frz; rw [if_pos h]
theorem frz_out {G H : Hp} {fp : List Addr} {a : Addr} (h : a ∉ fp) : frz G H fp a = G a := by unfold frz; rw [if_neg h]
theorem frz_same {G H : Hp} {fp : List Addr} (h : ∀ a ∈ fp, G a = none) : Same G (frz G H fp) := fun a o e => by
  have n : a ∉ fp := fun q => by rw [h a q] at e; cases e
  rw [frz_out n]; exact e
theorem frz_sub {G H : Hp} {fp : List Addr} (s : Same G H) : Same (frz G H fp) H := fun a o e => by
  by_cases h : a ∈ fp
  · rw [frz_in h] at e; exact e
  · rw [frz_out h] at e; exact s a o e

def setF (fps : Fps) (i : Nat) (fp : List Addr) : Fps := fun j => if j = i then fp else fps j
theorem setF_same {fps : Fps} {i : Nat} {fp : List Addr} : setF fps i fp i = fp := by unfold setF; rw [if_pos rfl]
theorem setF_ne {fps : Fps} {i j : Nat} {fp : List Addr} (h : j ≠ i) : setF fps i fp j = fps j := by unfold setF; rw [if_neg h]

section
variable {K : PySem.W.Frag} {ε : Ev} {σ : L2.St} {G H : Hp} {fps : Fps} {fp : List Addr}
/-- the result is frozen -/
theorem Rel.freeze (r : Rel K ε σ G H fps fp) : Rel K ε σ (frz G H fp) H fps [] where
  len := r.len
  sub := frz_sub r.sub
  off := fun a w => by
    rcases w with w | ⟨i, w⟩
    · cases w
    · have n : a ∉ fp := fun q => r.tdis i a q w
      rw [frz_out n]
      exact r.off a (.inr ⟨i, w⟩)
  nd := r.nd
  dis := r.dis
  tnd := .nil
  tdis := fun _ _ h => nomatch h
  at' := fun i e he => by
    obtain ⟨v, h1, h2⟩ := r.at' i e he
    exact ⟨v, h1, h2.keep (frz_same fun a q => (r.off a (.inl q)).1) fun _ _ => rfl⟩
theorem Tr.freeze {G0 H0 : Hp} {W0 : Addr → Prop} (t : Tr G0 H0 W0 G H (Wf fps fp)) (r : Rel K ε σ G H fps fp) : Tr G0 H0 W0 (frz G H fp) H (Wf fps []) where
  keep := t.keep
  there := t.there
  grow := t.grow.trans (frz_same fun a q => (r.off a (.inl q)).1)
  new := fun a h => by
    by_cases q : a ∈ fp
    · rcases t.wnew a (.inl q) with z | z
      · exact .inr (.inr z)
      · exact .inr (.inl z)
    · rw [frz_out q] at h
      exact t.new a h
  wnew := fun a h => t.wnew a (h.elim (fun z => nomatch z) Or.inr)
theorem Ow.freeze {n : Nat} {v : V} {d : D} (r : Rel K ε σ G H fps fp) (o : Ow K G H n v d fp) : Rz K (frz G H fp) v d :=
  o.rz (frz_same fun a q => (r.off a (.inl q)).1) fun a q => frz_in q

/-- the i-th variable's own is frozen -/
theorem Rel.freezeVar {i : Nat} {n : Nat} {d : D} (r : Rel K ε σ G H fps []) (h : ε[i]? = some (some (n, d))) :
    Rel K (ε.set i (some (0, d))) σ (frz G H (fps i)) H (setF fps i []) [] ∧ Tr G H (Wf fps []) (frz G H (fps i)) H (Wf (setF fps i []) []) ∧ ∃ v, σ[i]? = some (some v) ∧ Rz K (frz G H (fps i)) v d := by
  have og : ∀ a ∈ fps i, G a = none := fun a q => (r.off a (.inr ⟨i, q⟩)).1
  have gs := frz_same (H := H) og
  obtain ⟨v, h1, h2⟩ := r.at' i _ h
  have hz : Rz K (frz G H (fps i)) v d := h2.rz gs fun a q => frz_in q
  have hi : i < ε.length := by
    by_cases hi : i < ε.length
    · exact hi
    · rw [List.getElem?_eq_none (by omega)] at h; cases h
  refine ⟨⟨by rw [List.length_set]; exact r.len, frz_sub r.sub, fun a w => ?_, fun j => ?_, fun j k a h1 h2 => ?_, .nil, (fun _ _ h => nomatch h), fun j e he => ?_⟩, ⟨fun _ _ h _ => h, fun _ h => h, gs, fun a h => ?_, fun a h => ?_⟩, v, h1, hz⟩
  · rcases w with w | ⟨j, w⟩
    · cases w
    · by_cases e : j = i
      · subst e; rw [setF_same] at w; cases w
      · rw [setF_ne e] at w
        have n : a ∉ fps i := fun q => e (r.dis j i a w q)
        rw [frz_out n]
        exact r.off a (.inr ⟨j, w⟩)
  · by_cases e : j = i
    · subst e; rw [setF_same]; exact .nil
    · rw [setF_ne e]; exact r.nd j
  · by_cases e : j = i
    · subst e; rw [setF_same] at h1; cases h1
    · rw [setF_ne e] at h1
      by_cases e' : k = i
      · subst e'; rw [setF_same] at h2; cases h2
      · rw [setF_ne e'] at h2; exact r.dis j k a h1 h2
  · by_cases e' : j = i
    · subst e'
      rw [List.getElem?_set_self hi] at he
      cases he
      rw [setF_same]
      exact ⟨v, h1, rfl, hz⟩
    · rw [List.getElem?_set_ne (Ne.symm e')] at he
      obtain ⟨u, q1, q2⟩ := r.at' j e he
      rw [setF_ne e']
      exact ⟨u, q1, q2.keep gs fun _ _ => rfl⟩
  · by_cases q : a ∈ fps i
    · exact .inr (.inr (.inr ⟨i, q⟩))
    · rw [frz_out q] at h; exact .inl h
  · rcases h with h | ⟨j, h⟩
    · cases h
    · by_cases e : j = i
      · subst e; rw [setF_same] at h; cases h
      · rw [setF_ne e] at h; exact .inl (.inr ⟨j, h⟩)
end

/-! ### what is borrowed -/
def Bo (K : PySem.W.Frag) (G H : Hp) : Nat → V → D → Prop
  | 0, v, d => Rz K G v d
  | n + 1, v, d => ∃ a : Addr, v = .ref a ∧
      ((∃ (vs : List V) (ds : List D), d = .list ds ∧ Rd H a (.lst vs) ∧ PySem.Paired (Bo K G H n) vs ds) ∨
       (∃ (ks : List D) (vs : List V) (ds : List D), d = .dict (ks.zip ds) ∧ ks.length = ds.length ∧ DictAt H a ks vs ∧ PySem.Paired (Bo K G H n) vs ds))
end Mb
end

section
set_option Elab.async false
set_option linter.all false
set_option maxRecDepth 100000
set_option maxHeartbeats 1000000
/-! Mb3: readings -/
namespace Mb
open PySem PySem.Spec PyProof.Rows L2

abbrev BoAll (K : PySem.W.Frag) (G H : Hp) (vs : List V) (as : List Ent) : Prop := PySem.Paired (fun v (a : Ent) => Bo K G H a.1 v a.2) vs as

theorem dictAt_same {H H' : Hp} (s : Same H H') {a : Addr} {ks : List D} {vs : List V} (h : DictAt H a ks vs) : DictAt H' a ks vs := same_dict s h
mutual
theorem Bo.same {K : PySem.W.Frag} {G G' H H' : Hp} (g : Same G G') : ∀ {n : Nat} {v : V} {d : D}, (n = 0 ∨ Same H H') → Bo K G H n v d → Bo K G' H' n v d
  | 0, _, _, _, h => Rz.same g h
  | n + 1, _, _, s, ⟨a, e, h⟩ => by
    have s' : Same H H' := s.resolve_left (Nat.succ_ne_zero n)
    have all : ∀ {vs : List V} {ds : List D}, PySem.Paired (Bo K G H n) vs ds → PySem.Paired (Bo K G' H' n) vs ds := fun x => Paired.mapP x fun _ _ => Bo.same g (.inr s')
    refine ⟨a, e, ?_⟩
    rcases h with ⟨vs, ds, ed, eh, r⟩ | ⟨ks, vs, ds, ed, el, eh, r⟩
    · exact .inl ⟨vs, ds, ed, same_rd s' eh, all r⟩
    · exact .inr ⟨ks, vs, ds, ed, el, dictAt_same s' eh, all r⟩
end
theorem rzAll_of {K : PySem.W.Frag} {G : Hp} : ∀ {vs : List V} {ds : List D}, PySem.Paired (fun v d => Rz K G v d) vs ds → RzAll K G vs ds
  | _, _, .nil => .nil
  | _, _, .cons r t => .cons r (rzAll_of t)
theorem of_rzAll {K : PySem.W.Frag} {G : Hp} : ∀ {vs : List V} {ds : List D}, RzAll K G vs ds → PySem.Paired (fun v d => Rz K G v d) vs ds
  | _, _, .nil => .nil
  | _, _, .cons r t => .cons r (of_rzAll t)
theorem Bo.rz {K : PySem.W.Frag} {G H : Hp} (g : Same G H) : ∀ {n : Nat} {v : V} {d : D}, Bo K G H n v d → Rz K H v d
  | 0, _, _, h => Rz.same g h
  | n + 1, _, _, ⟨a, e, h⟩ => by
    have all : ∀ {vs : List V} {ds : List D}, PySem.Paired (Bo K G H n) vs ds → RzAll K H vs ds := fun x => rzAll_of (Paired.mapP x fun _ _ => Bo.rz g)
    subst e
    rcases h with ⟨vs, ds, ed, eh, r⟩ | ⟨ks, vs, ds, ed, el, eh, r⟩
    · subst ed
      exact .lst eh (all r)
    · subst ed
      exact .dct eh (all r) el rfl
theorem all3_pair {R : V → D → List Addr → Prop} {R' : V → D → Prop} (h : ∀ v d f, R v d f → R' v d) : ∀ {vs : List V} {ds : List D} {fp : List Addr}, All3 R vs ds fp → PySem.Paired R' vs ds
  | _, _, _, .nil => .nil
  | _, _, _, .cons r t => .cons (h _ _ _ r) (all3_pair h t)
theorem Ow.bo {K : PySem.W.Frag} {G H : Hp} : ∀ {n : Nat} {v : V} {d : D} {fp : List Addr}, Ow K G H n v d fp → Bo K G H n v d
  | 0, _, _, _, ⟨_, r⟩ => r
  | n + 1, _, _, _, ⟨a, fp', e1, _, h⟩ => by
    refine ⟨a, e1, ?_⟩
    rcases h with ⟨vs, ds, ed, eh, r⟩ | ⟨ks, vs, ds, ed, el, eh, _, r⟩
    · exact .inl ⟨vs, ds, ed, .inl eh, all3_pair (R' := Bo K G H n) (fun _ _ _ q => Ow.bo q) r⟩
    · exact .inr ⟨ks, vs, ds, ed, el, eh, all3_pair (R' := Bo K G H n) (fun _ _ _ q => Ow.bo q) r⟩

/-! ### exceptions -/
structure Pm where
  K : PySem.W.Frag
  mg : Str → Option Value
def ExcAt (p : Pm) (x : Exn) (cls : Value) (d : Option Addr) (H : Hp) : Prop :=
  ∃ C : Addr, p.mg x.cls = some (.ref C) ∧ cls = .ref C ∧
    ((x.fs = [] ∧ d = none) ∨ ∃ (dx : Addr) (fs : List (Str × V)), d = some dx ∧ H dx = some (.xd fs) ∧ PySem.Paired (fun (a : Str × V) (b : Str × D) => a.1 = b.1 ∧ Rz p.K (fun _ => none) a.2 b.2) fs x.fs)

/-! ### readings -/
section
variable (p : Pm) (Wx : WX) (m : Bool)
def After {α β : Type} (σ : L2.St) (G H : Hp) (fps : Fps) (rel : α → β → Hp → Hp → List Addr → Prop) (r : Res (β × Ev)) (Q : α → Hp → Prop) : Prop := match r with
  | .ok (e, ε') => ∀ (v : α) (G' H' : Hp) (fps' : Fps) (fp : List Addr), Rel p.K ε' σ G' H' fps' fp → rel v e G' H' fp → Tr G H (Wf fps []) G' H' (Wf fps' fp) → (m = false → Same H H') → Q v H'
  | .exc x ε' => ∀ (cls : Value) (d : Option Addr) (G' H' : Hp) (fps' : Fps), Rel p.K ε' σ G' H' fps' [] → Tr G H (Wf fps []) G' H' (Wf fps' []) → ExcAt p x cls d H' → Wx cls d σ H'
  | .bad => False
def relE : V → Ent → Hp → Hp → List Addr → Prop := fun v e G H fp => Ow p.K G H e.1 v e.2 fp
def relB : V → Ent → Hp → Hp → List Addr → Prop := fun v e G H fp => fp = [] ∧ Bo p.K G H e.1 v e.2
def relA : List V → List Ent → Hp → Hp → List Addr → Prop := fun vs es G H fp => fp = [] ∧ BoAll p.K G H vs es
def relT : Bool → Bool → Hp → Hp → List Addr → Prop := fun b c G H fp => fp = [] ∧ b = c
def tR {α β : Type} (rel : α → β → Hp → Hp → List Addr → Prop) (f : Ev → Res (β × Ev)) : L2.St → Hp → (α → Hp → Prop) → Prop := fun σ H Q =>
  ∃ (ε : Ev) (G : Hp) (fps : Fps), Rel p.K ε σ G H fps [] ∧ After p Wx m σ G H fps rel (f ε) Q
abbrev tE (f : Ev → Res (Ent × Ev)) : TE := tR p Wx m (relE p) f
abbrev tB (f : Ev → Res (Ent × Ev)) : TE := tR p Wx m (relB p) f
abbrev tA (f : Ev → Res (List Ent × Ev)) : TA := tR p Wx m (relA p) f
abbrev tT (f : Ev → Res (Bool × Ev)) : TT := tR p Wx m (relT) f
end

theorem PE.imp {X : Cx} {e : Expr} {t t' : TE} (h : PE X e t) (i : ∀ σ H Q, t' σ H Q → t σ H Q) : PE X e t' := ⟨fun pins s σ H Q I q => h.run pins s σ H Q I (i σ H Q q)⟩
theorem PT.imp {X : Cx} {e : Expr} {t t' : TT} (h : PT X e t) (i : ∀ σ H Q, t' σ H Q → t σ H Q) : PT X e t' := ⟨fun pins s σ H Q I q => h.run pins s σ H Q I (i σ H Q q)⟩
theorem PA.imp {X : Cx} {e : List Expr} {t t' : TA} (h : PA X e t) (i : ∀ σ H Q, t' σ H Q → t σ H Q) : PA X e t' := ⟨fun pos pins s σ H Q I q => h.run pos pins s σ H Q I (i σ H Q q)⟩

section
variable {p : Pm} {Wx : WX} {m m1 m2 : Bool} {α β α' β' : Type} {rel : α → β → Hp → Hp → List Addr → Prop} {rel' : α' → β' → Hp → Hp → List Addr → Prop}

/-- one behind the other: what comes of the first is a value (or borrowed), the second goes on -/
theorem tR.bind {σ : L2.St} {H : Hp} {f : Ev → Res (β × Ev)} {g : β → Ev → Res (β' × Ev)} {Q : α' → Hp → Prop} {R : α → Hp → Prop}
    (hfp : ∀ v e G H fp, rel v e G H fp → fp = [])
    (h : tR p Wx (m1 || m2) rel' (fun ε => (f ε).bind fun q => g q.1 q.2) σ H Q)
    (k : ∀ (b : β) (v : α) (ε1 : Ev) (G G1 H1 : Hp) (fps fps1 : Fps), Rel p.K ε1 σ G1 H1 fps1 [] → rel v b G1 H1 [] → Tr G H (Wf fps []) G1 H1 (Wf fps1 []) → (m1 = false → Same H H1) →
      After p Wx (m1 || m2) σ G H fps rel' (g b ε1) Q → R v H1) : tR p Wx m1 rel f σ H R := by
  obtain ⟨ε, G, fps, r, a⟩ := h
  dsimp only at a
  refine ⟨ε, G, fps, r, ?_⟩
  cases e : f ε with
  | ok q =>
    obtain ⟨b, ε1⟩ := q
    rw [e] at a
    intro v G1 H1 fps1 fp r1 rl t s
    have := hfp _ _ _ _ _ rl
    subst this
    exact k b v ε1 G G1 H1 fps fps1 r1 rl t s a
  | exc x ε1 =>
    rw [e] at a
    exact a
  | bad =>
    rw [e] at a
    exact a
/-- the second's own reading, from where the first came to -/
theorem After.next {σ : L2.St} {G H G1 H1 : Hp} {fps fps1 : Fps} {g : Ev → Res (β' × Ev)} {ε1 : Ev} {Q : α' → Hp → Prop} (r1 : Rel p.K ε1 σ G1 H1 fps1 []) (t : Tr G H (Wf fps []) G1 H1 (Wf fps1 [])) (s : m1 = false → Same H H1)
    (a : After p Wx (m1 || m2) σ G H fps rel' (g ε1) Q) : tR p Wx m2 rel' g σ H1 Q := by
  refine ⟨ε1, G1, fps1, r1, ?_⟩
  cases e : g ε1 with
  | ok q =>
    obtain ⟨b, ε2⟩ := q
    rw [e] at a
    intro v G2 H2 fps2 fp r2 rl t2 s2
    refine a v G2 H2 fps2 fp r2 rl (t.trans t2) fun z => ?_
    simp only [Bool.or_eq_false_iff] at z
    exact (s z.1).trans (s2 z.2)
  | exc x ε2 =>
    rw [e] at a
    intro cls d G2 H2 fps2 r2 t2 x2
    exact a cls d G2 H2 fps2 r2 (t.trans t2) x2
  | bad =>
    rw [e] at a
    exact a
end
end Mb
end

section
set_option Elab.async false
set_option linter.all false
set_option maxRecDepth 100000
set_option maxHeartbeats 1000000
/-! Mb4: names, arguments, operations on data -/
namespace Mb
open PySem PySem.Spec PyProof.Rows L2

def LIM : Nat := 16777216
theorem lim_line : LIM = sizeLine := by rw [sizeLine_eq]; rfl

/-- what an operation leaves: new objects alone -/
def PRes (K : PySem.W.Frag) (G H : Hp) (e : Ent) (v : V) (H' : Hp) : Prop :=
  ∃ (G' : Hp) (fp : List Addr), Same H H' ∧ Same G G' ∧ Same G' H' ∧ (∀ a, G' a ≠ none → G a ≠ none ∨ H a = none) ∧ fp.Nodup ∧ (∀ a ∈ fp, H a = none ∧ G' a = none ∧ H' a ≠ none) ∧ Ow K G' H' e.1 v e.2 fp
theorem PRes.here {K : PySem.W.Frag} {G H : Hp} (g : Same G H) {v : V} {d : D} (h : Rz K G v d) : PRes K G H (0, d) v H :=
  ⟨G, [], Same.refl H, Same.refl G, g, fun _ h => .inl h, .nil, (fun _ h => nomatch h), rfl, h⟩
theorem sUpd {H : Hp} {a : Addr} {o : HO} (h : H a = none) : Same H (upd H a o) := fun b u e => by
  rw [upd_ne (ne_of_none e h)]; exact e
theorem free_sub {G H : Hp} (g : Same G H) {a : Addr} (h : H a = none) : G a = none := by
  cases e : G a with
  | none => rfl
  | some o => rw [g a o e] at h; cases h
theorem sBoth {G H : Hp} (g : Same G H) {a : Addr} {o : HO} : Same (upd G a o) (upd H a o) := fun b u e => by
  by_cases q : b = a
  · subst q; rw [upd_same] at e ⊢; exact e
  · rw [upd_ne q] at e ⊢; exact g b u e
theorem all3_zero {K : PySem.W.Frag} {G H : Hp} : ∀ {vs : List V} {ds : List D}, RzAll K G vs ds → All3 (Ow K G H 0) vs ds []
  | _, _, .nil => .nil
  | _, _, .cons r t => .cons (f := []) (fs := []) ⟨rfl, r⟩ (all3_zero t)
/-- a new list of values of the ground -/
theorem PRes.lst {K : PySem.W.Frag} {G H : Hp} (g : Same G H) {a : Addr} (h : H a = none) {vs : List V} {ds : List D} (r : RzAll K G vs ds) : PRes K G H (1, .list ds) (.ref a) (upd H a (.lst vs)) := by
  refine ⟨G, [a], sUpd h, Same.refl G, g.trans (sUpd h), fun _ h => .inl h, by simp, fun b hb => ?_, a, [], rfl, rfl, .inl ⟨vs, ds, rfl, upd_same, ?_⟩⟩
  · have e : b = a := by simpa using hb
    subst e
    exact ⟨h, free_sub g h, by rw [upd_same]; exact fun z => nomatch z⟩
  · exact all3_zero r
/-- a new tuple -/
theorem PRes.tup {K : PySem.W.Frag} {G H : Hp} (g : Same G H) {a : Addr} (h : H a = none) {vs : List V} {ds : List D} (r : RzAll K G vs ds) : PRes K G H (0, .tuple ds) (.ref a) (upd H a (.tup vs)) := by
  refine ⟨upd G a (.tup vs), [], sUpd h, sUpd (free_sub g h), sBoth g, fun b hb => ?_, .nil, (fun _ h => nomatch h), rfl, ?_⟩
  · by_cases q : b = a
    · subst q; exact .inr h
    · rw [upd_ne q] at hb; exact .inl hb
  · exact .tup (SqT.of upd_same) (r.same (sUpd (free_sub g h)))

section
variable {p : Pm} {Wx : WX} {m m1 m2 : Bool} {σ : L2.St} {G H : Hp} {fps : Fps} {ε : Ev}
theorem PRes.rel (r : Rel p.K ε σ G H fps []) {e : Ent} {v : V} {H' : Hp} (q : PRes p.K G H e v H') :
    ∃ (G' : Hp) (fp : List Addr), Rel p.K ε σ G' H' fps fp ∧ Ow p.K G' H' e.1 v e.2 fp ∧ Tr G H (Wf fps []) G' H' (Wf fps fp) ∧ Same H H' := by
  obtain ⟨G', fp, sH, sG, sub, new, nd, fr, ow⟩ := q
  have hH : ∀ a, H a ≠ none → H' a = H a := fun a h => by
    cases e : H a with
    | none => exact absurd e h
    | some o => exact sH a o e
  refine ⟨G', fp, ⟨r.len, sub, fun a w => ?_, r.nd, r.dis, nd, fun i a ha hi => ?_, fun i e he => ?_⟩, ow, ⟨fun a o h _ => sH a o h, fun a h => ?_, sG, fun a h => ?_, fun a w => ?_⟩, sH⟩
  · rcases w with w | ⟨i, w⟩
    · exact ⟨(fr a w).2.1, (fr a w).2.2⟩
    · obtain ⟨g, h⟩ := r.off a (.inr ⟨i, w⟩)
      refine ⟨?_, by rw [hH a h]; exact h⟩
      cases e : G' a with
      | none => rfl
      | some o => rcases new a (by rw [e]; exact fun z => nomatch z) with z | z
                  · exact absurd g z
                  · exact absurd z h
  · exact (r.off a (.inr ⟨i, hi⟩)).2 (fr a ha).1
  · obtain ⟨v, h1, h2⟩ := r.at' i e he
    exact ⟨v, h1, h2.keep sG fun a ha => hH a (r.off a (.inr ⟨i, ha⟩)).2⟩
  · rw [hH a h]; exact h
  · rcases new a h with z | z
    · exact .inl z
    · exact .inr (.inl z)
  · rcases w with w | w
    · exact .inr (fr a w).1
    · exact .inl (.inr w)

/-- an operation on borrowed data -/
def OkL (K : PySem.W.Frag) (r : List V → Hp → VK → Prop) (F : List Ent → Option Ent) : Prop :=
  ∀ (G H : Hp) (vs : List V) (as : List Ent) (e : Ent) (Q : VK), Same G H → BoAll K G H vs as → F as = some e → (∀ v H', PRes K G H e v H' → Q v H') → r vs H Q
def fOp (F : List Ent → Option Ent) (g : Ev → Res (List Ent × Ev)) : Ev → Res (Ent × Ev) := fun ε => (g ε).bind fun q => match F q.1 with
  | some e => .ok (e, q.2)
  | none => .bad
theorem tE_op {r : List V → Hp → VK → Prop} {F : List Ent → Option Ent} (ok : OkL p.K r F) {g : Ev → Res (List Ent × Ev)} {Q : VK} (h : tE p Wx m (fOp F g) σ H Q) : tA p Wx m g σ H fun vs H1 => r vs H1 Q := by
  have h : tR p Wx (m || false) (relE p) (fOp F g) σ H Q := by rw [Bool.or_false]; exact h
  refine tR.bind (m2 := false) (g := fun as ε => match F as with | some e => .ok (e, ε) | none => .bad) (fun _ _ _ _ _ h => h.1) h fun as vs ε1 G G1 H1 fps fps1 r1 rl t s a => ?_
  cases e : F as with
  | none => rw [e] at a; exact a.elim
  | some e' =>
    rw [e] at a
    refine ok G1 H1 vs as e' Q r1.sub rl.2 e fun v H' pr => ?_
    obtain ⟨G', fp, r2, ow, t2, sH⟩ := pr.rel r1
    exact a v G' H' fps1 fp r2 ow (t.trans t2) fun z => (s (by simpa using z)).trans sH

/-! ### arguments -/
def fNil : Ev → Res (List Ent × Ev) := fun ε => .ok ([], ε)
def fCons (m2 : Bool) (f : Ev → Res (Ent × Ev)) (g : Ev → Res (List Ent × Ev)) : Ev → Res (List Ent × Ev) := fun ε => (f ε).bind fun q =>
  if q.1.1 = 0 ∨ m2 = false then (g q.2).bind fun r => .ok (q.1 :: r.1, r.2) else .bad
theorem tA_nil {Q : List V → Hp → Prop} (h : tA p Wx m fNil σ H Q) : Q [] H := by
  obtain ⟨ε, G, fps, r, a⟩ := h
  exact a [] G H fps [] r ⟨rfl, .nil⟩ Tr.refl fun _ => Same.refl H
theorem tA_cons {f : Ev → Res (Ent × Ev)} {g : Ev → Res (List Ent × Ev)} {Q : List V → Hp → Prop} (h : tA p Wx (m1 || m2) (fCons m2 f g) σ H Q) :
    tB p Wx m1 f σ H fun x H1 => tA p Wx m2 g σ H1 fun xs H2 => Q (x :: xs) H2 := by
  refine tR.bind (g := fun a ε => if a.1 = 0 ∨ m2 = false then (g ε).bind fun r => .ok (a :: r.1, r.2) else .bad) (fun _ _ _ _ _ h => h.1) h fun b x ε1 G G1 H1 fps fps1 r1 rl t s a => ?_
  by_cases c : b.1 = 0 ∨ m2 = false
  · rw [if_pos c] at a
    have h2 := After.next (p := p) (rel' := relA p) (g := fun ε => (g ε).bind fun r => .ok (b :: r.1, r.2)) r1 t s a
    have h2 : tR p Wx (m2 || false) (relA p) (fun ε => (g ε).bind fun r => .ok (b :: r.1, r.2)) σ H1 Q := by rw [Bool.or_false]; exact h2
    -- the rest
    obtain ⟨ε', G', fps', r', a'⟩ := h2
    refine ⟨ε1, G1, fps1, r1, ?_⟩
    clear a' r' fps' G' ε'
    cases e : g ε1 with
    | ok q =>
      obtain ⟨as, ε2⟩ := q
      rw [e] at a
      intro vs G2 H2 fps2 fp r2 rl2 t2 s2
      obtain ⟨rfl, rl2⟩ := rl2
      refine a (x :: vs) G2 H2 fps2 [] r2 ⟨rfl, .cons ?_ rl2⟩ (t.trans t2) fun z => ?_
      · exact Bo.same t2.grow (c.imp_right fun z => s2 z) rl.2
      · simp only [Bool.or_eq_false_iff] at z
        exact (s z.1).trans (s2 z.2)
    | exc x' ε2 =>
      rw [e] at a
      intro cls d G2 H2 fps2 r2 t2 x2
      exact a cls d G2 H2 fps2 r2 (t.trans t2) x2
    | bad => rw [e] at a; exact a
  · rw [if_neg c] at a; exact a.elim
theorem tB_of {f : Ev → Res (Ent × Ev)} {Q : VK} (h : tB p Wx m (fun ε => (f ε).bind fun q => .ok ((0, q.1.2), q.2)) σ H Q) : tE p Wx m f σ H Q := by
  obtain ⟨ε, G, fps, r, a⟩ := h
  dsimp only at a
  refine ⟨ε, G, fps, r, ?_⟩
  cases e : f ε with
  | ok q =>
    obtain ⟨b, ε1⟩ := q
    rw [e] at a
    intro v G' H' fps' fp r' ow t s
    exact a v (frz G' H' fp) H' fps' [] r'.freeze ⟨rfl, ow.freeze r'⟩ (t.freeze r') s
  | exc x ε1 => rw [e] at a; exact a
  | bad => rw [e] at a; exact a
end

/-! ### names and constants -/
section
variable {X : Cx} {p : Pm} {Wx : WX} {pos : Pos}
def fVar (i : Nat) : Ev → Res (Ent × Ev) := fun ε => match ε[i]? with
  | some (some (n, d)) => .ok ((0, d), ε.set i (some (0, d)))
  | _ => .bad
def fVarB (i : Nat) : Ev → Res (Ent × Ev) := fun ε => match ε[i]? with
  | some (some e) => .ok (e, ε)
  | _ => .bad
theorem den_var {i : Nat} {x : Str} (h : PE X (.Name x pos) (tVar i)) : PE X (.Name x pos) (tE p Wx false (fVar i)) := by
  refine PE.imp h fun σ H Q ⟨ε, G, fps, r, a⟩ => ?_
  unfold fVar at a
  cases e : ε[i]? with
  | none => rw [e] at a; exact a.elim
  | some o =>
    cases o with
    | none => rw [e] at a; exact a.elim
    | some en =>
      obtain ⟨n, d⟩ := en
      rw [e] at a
      obtain ⟨r2, t2, v, hv, hz⟩ := r.freezeVar e
      exact ⟨v, hv, a v _ H _ [] r2 ⟨rfl, hz⟩ t2 fun _ => Same.refl H⟩
theorem den_varB {i : Nat} {x : Str} (h : PE X (.Name x pos) (tVar i)) : PE X (.Name x pos) (tB p Wx false (fVarB i)) := by
  refine PE.imp h fun σ H Q ⟨ε, G, fps, r, a⟩ => ?_
  unfold fVarB at a
  cases e : ε[i]? with
  | none => rw [e] at a; exact a.elim
  | some o =>
    cases o with
    | none => rw [e] at a; exact a.elim
    | some en =>
      rw [e] at a
      obtain ⟨v, hv, ho⟩ := r.at' i _ e
      exact ⟨v, hv, a v G H fps [] r ⟨rfl, ho.bo⟩ Tr.refl fun _ => Same.refl H⟩
def fLit (d : D) : Ev → Res (Ent × Ev) := fun ε => .ok ((0, d), ε)
theorem den_const {e : Expr} {v : V} {d : D} (h : PE X e (tC v)) (z : ∀ G, Rz p.K G v d) : PE X e (tE p Wx false (fLit d)) :=
  PE.imp h fun σ H Q ⟨ε, G, fps, r, a⟩ => a v G H fps [] r ⟨rfl, z G⟩ Tr.refl fun _ => Same.refl H
end
end Mb
end

section
set_option Elab.async false
set_option linter.all false
set_option maxRecDepth 100000
set_option maxHeartbeats 1000000
/-! Mb5: expressions -/
namespace Mb
open PySem PySem.Spec PyProof.Rows L2

def tru : D → Option Bool
  | .none => some false
  | .bool b => some b
  | .int i => some (i != 0)
  | .str s => if s.length ≤ LIM then some ((s.length : Int) != 0) else none
  | .list xs => some (!xs.isEmpty)
  | .tuple xs => some (!xs.isEmpty)
  | .dict _ => none
theorem isEmpty_rz {K : PySem.W.Frag} {G : Hp} {vs : List V} {ds : List D} (h : RzAll K G vs ds) : (!vs.isEmpty) = !ds.isEmpty := by
  cases h <;> rfl
theorem tru_rz {K : PySem.W.Frag} {G : Hp} {v : V} {d : D} {b : Bool} (h : Rz K G v d) (e : tru d = some b) : TruV K v G b := by
  cases h with
  | non => exact (Option.some.inj e).symm
  | bl b' => exact (Option.some.inj e).symm
  | int i => exact (Option.some.inj e).symm
  | str x =>
    simp only [tru] at e
    split at e
    · rename_i hz
      exact ⟨by rw [← lim_line]; exact hz, (Option.some.inj e).symm⟩
    · cases e
  | lst hs r => exact .inl ⟨_, .inl hs, by rw [isEmpty_rz r]; exact (Option.some.inj e).symm⟩
  | tup hs r => exact .inr (.inl ⟨_, hs, by rw [isEmpty_rz r]; exact (Option.some.inj e).symm⟩)
  | dct _ _ _ _ => cases e

section
variable {p : Pm} {Wx : WX} {m m1 m2 : Bool} {σ : L2.St} {G H : Hp} {fps : Fps} {ε : Ev}

/-! ### a value asked by truth -/
def fTru (f : Ev → Res (Ent × Ev)) : Ev → Res (Bool × Ev) := fun ε => (f ε).bind fun q => match tru q.1.2 with
  | some b => .ok (b, q.2)
  | none => .bad
theorem tT_tru {f : Ev → Res (Ent × Ev)} {Q : Bool → Hp → Prop} (h : tT p Wx m (fTru f) σ H Q) : tB p Wx m f σ H fun x H' => ∃ k, TruV p.K x H' k ∧ Q k H' := by
  have h : tR p Wx (m || false) relT (fTru f) σ H Q := by rw [Bool.or_false]; exact h
  refine tR.bind (m2 := false) (g := fun a ε => match tru a.2 with | some b => .ok (b, ε) | none => .bad) (fun _ _ _ _ _ h => h.1) h fun b v ε1 G G1 H1 fps fps1 r1 rl t s a => ?_
  cases e : tru b.2 with
  | none => rw [e] at a; exact a.elim
  | some k =>
    rw [e] at a
    exact ⟨k, tru_rz (rl.2.rz r1.sub) e, a k G1 H1 fps1 [] r1 ⟨rfl, rfl⟩ t fun z => s (by simpa using z)⟩
/-- a bool as a test -/
def fBool (f : Ev → Res (Ent × Ev)) : Ev → Res (Bool × Ev) := fun ε => (f ε).bind fun q => match q.1.2 with
  | .bool b => .ok (b, q.2)
  | _ => .bad
theorem bo_bool {K : PySem.W.Frag} {G H : Hp} {n : Nat} {v : V} {b : Bool} (h : Bo K G H n v (.bool b)) : v = .bl b := by
  cases n with
  | zero => cases h; rfl
  | succ n =>
    obtain ⟨a, _, h⟩ := h
    rcases h with ⟨_, _, e, _⟩ | ⟨_, _, _, e, _⟩ <;> cases e
theorem tT_bool {f : Ev → Res (Ent × Ev)} {Q : Bool → Hp → Prop} (h : tT p Wx m (fBool f) σ H Q) : tB p Wx m f σ H fun x H' => ∃ k, x = .bl k ∧ Q k H' := by
  have h : tR p Wx (m || false) relT (fBool f) σ H Q := by rw [Bool.or_false]; exact h
  refine tR.bind (m2 := false) (g := fun a ε => match a.2 with | .bool b => .ok (b, ε) | _ => .bad) (fun _ _ _ _ _ h => h.1) h fun b v ε1 G G1 H1 fps fps1 r1 rl t s a => ?_
  obtain ⟨n, d⟩ := b
  cases d with
  | bool k => exact ⟨k, bo_bool rl.2, a k G1 H1 fps1 [] r1 ⟨rfl, rfl⟩ t fun z => s (by simpa using z)⟩
  | _ => exact a.elim
def frzR (f : Ev → Res (Ent × Ev)) : Ev → Res (Ent × Ev) := fun ε => (f ε).bind fun q => .ok ((0, q.1.2), q.2)
theorem tB_frz {f : Ev → Res (Ent × Ev)} {Q : VK} (h : tB p Wx m (frzR f) σ H Q) : tE p Wx m f σ H Q := tB_of h

/-! ### and, or, not, if -/
def fAndT (f g : Ev → Res (Bool × Ev)) : Ev → Res (Bool × Ev) := fun ε => (f ε).bind fun q => if q.1 = true then g q.2 else .ok (false, q.2)
def fOrT (f g : Ev → Res (Bool × Ev)) : Ev → Res (Bool × Ev) := fun ε => (f ε).bind fun q => if q.1 = true then .ok (true, q.2) else g q.2
def fNotT (f : Ev → Res (Bool × Ev)) : Ev → Res (Bool × Ev) := fun ε => (f ε).bind fun q => .ok (!q.1, q.2)
theorem tT_and {f g : Ev → Res (Bool × Ev)} {Q : Bool → Hp → Prop} (h : tT p Wx (m1 || m2) (fAndT f g) σ H Q) : tAnd (tT p Wx m1 f) (tT p Wx m2 g) σ H Q := by
  refine tR.bind (g := fun a ε => if a = true then g ε else .ok (false, ε)) (fun _ _ _ _ _ h => h.1) h fun b v ε1 G G1 H1 fps fps1 r1 rl t s a => ?_
  obtain rfl : v = b := rl.2
  cases v with
  | true => rw [if_pos rfl] at a ⊢; exact After.next r1 t s a
  | false =>
    rw [if_neg Bool.false_ne_true] at a ⊢
    exact a false G1 H1 fps1 [] r1 ⟨rfl, rfl⟩ t fun z => s (by simp only [Bool.or_eq_false_iff] at z; exact z.1)
theorem tT_or {f g : Ev → Res (Bool × Ev)} {Q : Bool → Hp → Prop} (h : tT p Wx (m1 || m2) (fOrT f g) σ H Q) : tOr (tT p Wx m1 f) (tT p Wx m2 g) σ H Q := by
  refine tR.bind (g := fun a ε => if a = true then .ok (true, ε) else g ε) (fun _ _ _ _ _ h => h.1) h fun b v ε1 G G1 H1 fps fps1 r1 rl t s a => ?_
  obtain rfl : v = b := rl.2
  cases v with
  | false => rw [if_neg Bool.false_ne_true] at a ⊢; exact After.next r1 t s a
  | true =>
    rw [if_pos rfl] at a ⊢
    exact a true G1 H1 fps1 [] r1 ⟨rfl, rfl⟩ t fun z => s (by simp only [Bool.or_eq_false_iff] at z; exact z.1)
theorem tT_not {f : Ev → Res (Bool × Ev)} {Q : Bool → Hp → Prop} (h : tT p Wx m (fNotT f) σ H Q) : tNot (tT p Wx m f) σ H Q := by
  have h : tR p Wx (m || false) relT (fNotT f) σ H Q := by rw [Bool.or_false]; exact h
  refine tR.bind (m2 := false) (g := fun a ε => .ok (!a, ε)) (fun _ _ _ _ _ h => h.1) h fun b v ε1 G G1 H1 fps fps1 r1 rl t s a => ?_
  obtain rfl : v = b := rl.2
  exact a _ G1 H1 fps1 [] r1 ⟨rfl, rfl⟩ t fun z => s (by simpa using z)
/-- as values -/
def fAnd (f g : Ev → Res (Ent × Ev)) : Ev → Res (Ent × Ev) := fun ε => (frzR f ε).bind fun q => match tru q.1.2 with
  | some true => g q.2
  | some false => .ok (q.1, q.2)
  | none => .bad
def fOr (f g : Ev → Res (Ent × Ev)) : Ev → Res (Ent × Ev) := fun ε => (frzR f ε).bind fun q => match tru q.1.2 with
  | some true => .ok (q.1, q.2)
  | some false => g q.2
  | none => .bad
theorem frz_zero {f : Ev → Res (Ent × Ev)} {ε ε1 : Ev} {b : Ent} (h : frzR f ε = .ok (b, ε1)) : b.1 = 0 := by
  unfold frzR at h
  cases e : f ε with
  | ok q => rw [e] at h; cases h; rfl
  | exc x e' => rw [e] at h; cases h
  | bad => rw [e] at h; cases h
/-- the first is frozen -/
theorem tR.bind0 {β' α' : Type} {rel' : α' → β' → Hp → Hp → List Addr → Prop} {f : Ev → Res (Ent × Ev)} {g : Ent → Ev → Res (β' × Ev)} {Q : α' → Hp → Prop} {R : VK}
    (h : tR p Wx (m1 || m2) rel' (fun ε => (frzR f ε).bind fun q => g q.1 q.2) σ H Q)
    (k : ∀ (d : D) (v : V) (ε1 : Ev) (G G1 H1 : Hp) (fps fps1 : Fps), Rel p.K ε1 σ G1 H1 fps1 [] → Rz p.K G1 v d → Tr G H (Wf fps []) G1 H1 (Wf fps1 []) → (m1 = false → Same H H1) →
      After p Wx (m1 || m2) σ G H fps rel' (g (0, d) ε1) Q → R v H1) : tE p Wx m1 f σ H R := by
  refine tB_frz ?_
  obtain ⟨ε, G, fps, r, a⟩ := h
  dsimp only at a
  refine ⟨ε, G, fps, r, ?_⟩
  cases e : frzR f ε with
  | ok q =>
    obtain ⟨⟨n, d⟩, ε1⟩ := q
    have hn : n = 0 := frz_zero e
    subst hn
    rw [e] at a
    intro v G1 H1 fps1 fp r1 rl t s
    obtain ⟨rfl, rl⟩ := rl
    exact k d v ε1 G G1 H1 fps fps1 r1 rl t s a
  | exc x ε1 => rw [e] at a; exact a
  | bad => rw [e] at a; exact a
theorem After.val {σ : L2.St} {G0 G H0 H : Hp} {fps0 fps : Fps} {ε : Ev} {v : V} {d : D} {Q : VK} (a : After p Wx m σ G0 H0 fps0 (relE p) (.ok ((0, d), ε)) Q) (r : Rel p.K ε σ G H fps []) (h : Rz p.K G v d) (t : Tr G0 H0 (Wf fps0 []) G H (Wf fps []))
    (s : m = false → Same H0 H) : Q v H := a v G H fps [] r ⟨rfl, h⟩ t s
theorem tE_and {f g : Ev → Res (Ent × Ev)} {Q : VK} (h : tE p Wx (m1 || m2) (fAnd f g) σ H Q) : tAndT p.K (tE p Wx m1 f) (tE p Wx m2 g) σ H Q := by
  refine tR.bind0 (g := fun q ε => match tru q.2 with | some true => g ε | some false => .ok (q, ε) | none => .bad) h fun d v ε1 G G1 H1 fps fps1 r1 rz t s a => ?_
  dsimp only at a
  cases e : tru d with
  | none => rw [e] at a; exact a.elim
  | some k =>
    rw [e] at a
    refine ⟨k, tru_rz (rz.same r1.sub) e, ?_⟩
    cases k with
    | true => rw [if_pos rfl]; exact After.next r1 t s a
    | false => rw [if_neg Bool.false_ne_true]; exact a.val r1 rz t fun z => s (by simp only [Bool.or_eq_false_iff] at z; exact z.1)
theorem tE_or {f g : Ev → Res (Ent × Ev)} {Q : VK} (h : tE p Wx (m1 || m2) (fOr f g) σ H Q) : tOrT p.K (tE p Wx m1 f) (tE p Wx m2 g) σ H Q := by
  refine tR.bind0 (g := fun q ε => match tru q.2 with | some true => .ok (q, ε) | some false => g ε | none => .bad) h fun d v ε1 G G1 H1 fps fps1 r1 rz t s a => ?_
  dsimp only at a
  cases e : tru d with
  | none => rw [e] at a; exact a.elim
  | some k =>
    rw [e] at a
    refine ⟨k, tru_rz (rz.same r1.sub) e, ?_⟩
    cases k with
    | false => rw [if_neg Bool.false_ne_true]; exact After.next r1 t s a
    | true => rw [if_pos rfl]; exact a.val r1 rz t fun z => s (by simp only [Bool.or_eq_false_iff] at z; exact z.1)
def fNot (f : Ev → Res (Ent × Ev)) : Ev → Res (Ent × Ev) := fun ε => (f ε).bind fun q => match tru q.1.2 with
  | some b => .ok ((0, .bool (!b)), q.2)
  | none => .bad
theorem tE_not {f : Ev → Res (Ent × Ev)} {Q : VK} (h : tE p Wx m (fNot f) σ H Q) : tNotT p.K (tB p Wx m f) σ H Q := by
  have h : tR p Wx (m || false) (relE p) (fNot f) σ H Q := by rw [Bool.or_false]; exact h
  refine tR.bind (m2 := false) (g := fun a ε => match tru a.2 with | some b => .ok ((0, PyData.bool (!b)), ε) | none => .bad) (fun _ _ _ _ _ h => h.1) h fun b v ε1 G G1 H1 fps fps1 r1 rl t s a => ?_
  cases e : tru b.2 with
  | none => rw [e] at a; exact a.elim
  | some k =>
    rw [e] at a
    exact ⟨k, tru_rz (rl.2.rz r1.sub) e, a.val r1 (.bl _) t fun z => s (by simpa using z)⟩
/-- a if c else b, of any reading -/
def fIf {β : Type} (c : Ev → Res (Bool × Ev)) (f g : Ev → Res (β × Ev)) : Ev → Res (β × Ev) := fun ε => (c ε).bind fun q => if q.1 = true then f q.2 else g q.2
theorem tR_if {α β : Type} {rel : α → β → Hp → Hp → List Addr → Prop} {c : Ev → Res (Bool × Ev)} {f g : Ev → Res (β × Ev)} {Q : α → Hp → Prop} (h : tR p Wx (m1 || m2) rel (fIf c f g) σ H Q) :
    tT p Wx m1 c σ H fun b H1 => if b = true then tR p Wx m2 rel f σ H1 Q else tR p Wx m2 rel g σ H1 Q := by
  refine tR.bind (g := fun a ε => if a = true then f ε else g ε) (fun _ _ _ _ _ h => h.1) h fun b v ε1 G G1 H1 fps fps1 r1 rl t s a => ?_
  obtain rfl : v = b := rl.2
  cases v with
  | true => rw [if_pos rfl] at a ⊢; exact After.next r1 t s a
  | false => rw [if_neg Bool.false_ne_true] at a ⊢; exact After.next r1 t s a
/-- more may be said to have changed -/
theorem tR.weak {α β : Type} {rel : α → β → Hp → Hp → List Addr → Prop} {f : Ev → Res (β × Ev)} {Q : α → Hp → Prop} (hm : m = false → m1 = false) (h : tR p Wx m rel f σ H Q) : tR p Wx m1 rel f σ H Q := by
  obtain ⟨ε, G, fps, r, a⟩ := h
  refine ⟨ε, G, fps, r, ?_⟩
  cases e : f ε with
  | ok q => rw [e] at a; exact fun v G' H' fps' fp r' rl t s => a v G' H' fps' fp r' rl t fun z => s (hm z)
  | exc x ε1 => rw [e] at a; exact a
  | bad => rw [e] at a; exact a
end
end Mb
end

section
set_option Elab.async false
set_option linter.all false
set_option maxRecDepth 100000
set_option maxHeartbeats 1000000
/-! Mb6: operators, calls of built-ins, displays -/
namespace Mb
open PySem PySem.Spec PyProof.Rows L2

section
variable {p : Pm} {Wx : WX} {m m1 m2 : Bool} {σ : L2.St} {G H : Hp} {fps : Fps} {ε : Ev}
theorem tR.mono {α β : Type} {rel : α → β → Hp → Hp → List Addr → Prop} {f : Ev → Res (β × Ev)} {Q Q' : α → Hp → Prop} (h : tR p Wx m rel f σ H Q) (i : ∀ a H, Q a H → Q' a H) : tR p Wx m rel f σ H Q' := by
  obtain ⟨ε, G, fps, r, a⟩ := h
  refine ⟨ε, G, fps, r, ?_⟩
  cases e : f ε with
  | ok q => rw [e] at a; exact fun v G' H' fps' fp r' rl t s => i _ _ (a v G' H' fps' fp r' rl t s)
  | exc x ε1 => rw [e] at a; exact a
  | bad => rw [e] at a; exact a

def b2 (r : R2) : List V → Hp → VK → Prop := fun vs H Q => ∀ x y, vs = [x, y] → r x y H Q
def fOp2 (F : List Ent → Option Ent) (m2 : Bool) (f g : Ev → Res (Ent × Ev)) : Ev → Res (Ent × Ev) := fOp F (fCons m2 f (fCons false g fNil))
theorem tE_op2 {r : R2} {F : List Ent → Option Ent} (ok : OkL p.K (b2 r) F) {f g : Ev → Res (Ent × Ev)} {Q : VK} (h : tE p Wx (m1 || m2) (fOp2 F m2 f g) σ H Q) : tOp r (tB p Wx m1 f) (tB p Wx m2 g) σ H Q := by
  have h1 := tE_op ok h
  refine tR.mono (tA_cons h1) fun x H1 h2 => ?_
  have h2 : tA p Wx (m2 || false) (fCons false g fNil) σ H1 (fun xs H2 => b2 r (x :: xs) H2 Q) := by rw [Bool.or_false]; exact h2
  refine tR.mono (tA_cons h2) fun y H2 h3 => ?_
  exact tA_nil h3 x y rfl
end

section
variable {X : Cx} {p : Pm} {Wx : WX} {m m1 m2 : Bool} {pos : Pos} {a b e o : Expr} {es : List Expr} {f g : Ev → Res (Ent × Ev)} {h : Ev → Res (List Ent × Ev)}
theorem den_frz (ha : PE X a (tE p Wx m f)) : PE X a (tB p Wx m (frzR f)) := PE.imp ha fun _ _ _ => tB_frz
theorem den_bin {op : Operator} {r : R2} {F : List Ent → Option Ent} (ho : OpR X (binaryOp op) r) (ok : OkL p.K (b2 r) F) (ha : PE X a (tB p Wx m1 f)) (hb : PE X b (tB p Wx m2 g)) :
    PE X (.BinOp a op b pos) (tE p Wx (m1 || m2) (fOp2 F m2 f g)) := PE.imp (pe_op ho ha hb) fun _ _ _ => tE_op2 ok
theorem den_cmp {op : CmpOp} {r : R2} {F : List Ent → Option Ent} (ho : OpR X (compareOp op) r) (ok : OkL p.K (b2 r) F) (ha : PE X a (tB p Wx m1 f)) (hb : PE X b (tB p Wx m2 g)) (hm : behindInMarks op b = false) :
    PE X (.Compare a [op] [b] pos) (tE p Wx (m1 || m2) (fOp2 F m2 f g)) := PE.imp (pe_cmpR ho ha hb hm) fun _ _ _ => tE_op2 ok
theorem tE_bool {σ : L2.St} {H : Hp} {Q : Bool → Hp → Prop} (h : tT p Wx m (fBool f) σ H Q) : tE p Wx m f σ H fun x H' => ∃ k, x = .bl k ∧ Q k H' := by
  have h : tR p Wx (m || false) relT (fun ε => (frzR f ε).bind fun q => match q.1.2 with | .bool b => .ok (b, q.2) | _ => .bad) σ H Q := by
    rw [Bool.or_false]
    obtain ⟨ε, G, fps, r, a⟩ := h
    refine ⟨ε, G, fps, r, ?_⟩
    unfold fBool at a
    unfold frzR
    dsimp only
    cases e : f ε with
    | ok q => rw [e] at a; exact a
    | exc x e' => rw [e] at a; exact a
    | bad => rw [e] at a; exact a
  refine tR.bind0 (m2 := false) (g := fun q ε => match q.2 with | .bool b => .ok (b, ε) | _ => .bad) h fun d v ε1 G G1 H1 fps fps1 r1 rz t s a => ?_
  cases d with
  | bool k => cases rz; exact ⟨k, rfl, a k G1 H1 fps1 [] r1 ⟨rfl, rfl⟩ t fun z => s (by simpa using z)⟩
  | _ => exact a.elim
theorem den_cmpT {op : CmpOp} {r : R2} {F : List Ent → Option Ent} (ho : OpR X (compareOp op) r) (ok : OkL p.K (b2 r) F) (ha : PE X a (tB p Wx m1 f)) (hb : PE X b (tB p Wx m2 g)) (hm : behindInMarks op b = false) :
    PT X (.Compare a [op] [b] pos) (tT p Wx (m1 || m2) (fBool (fOp2 F m2 f g))) := PT.imp (pt_cmpR ho ha hb hm) fun _ _ _ h => tR.mono (tE_bool h) (fun _ _ q => q) |> tE_op2 ok
theorem den_truth (hK : X.K = p.K) (ha : PE X a (tB p Wx m f)) (he : ∀ whole, isTrue a X.env whole = (do let v ← whole; standAt a.pos; holding [v] (truthy v))) : PT X a (tT p Wx m (fTru f)) := PT.imp (pt_truth ha he) fun _ _ _ h => by rw [hK]; exact tT_tru h
theorem den_if {c : Expr} {fc : Ev → Res (Bool × Ev)} (hc : PT X c (tT p Wx m1 fc)) (ha : PE X a (tE p Wx m2 f)) (hb : PE X b (tE p Wx m2 g)) : PE X (.IfExp c a b pos) (tE p Wx (m1 || m2) (fIf fc f g)) := PE.imp (pe_ifExp hc ha hb) fun _ _ _ => tR_if
theorem den_weak (hm : m = false → m1 = false) (ha : PE X a (tE p Wx m1 f)) : PE X a (tE p Wx m f) := PE.imp ha fun _ _ _ => tR.weak hm
theorem den_weakB (hm : m = false → m1 = false) (ha : PE X a (tB p Wx m1 f)) : PE X a (tB p Wx m f) := PE.imp ha fun _ _ _ => tR.weak hm
theorem den_weakT {f : Ev → Res (Bool × Ev)} (hm : m = false → m1 = false) (ha : PT X a (tT p Wx m1 f)) : PT X a (tT p Wx m f) := PT.imp ha fun _ _ _ => tR.weak hm
theorem den_nilA : PA X [] (tA p Wx m fNil) := PA.imp pa_nil fun _ _ _ h => tA_nil h
theorem den_consA (ha : PE X a (tB p Wx m1 f)) (hb : PA X es (tA p Wx m2 h)) (hs : starEach (a :: es) X.env = (false, eval a X.env) :: starEach es X.env) : PA X (a :: es) (tA p Wx (m1 || m2) (fCons m2 f h)) :=
  PA.imp (pa_cons ha hb hs) fun _ _ _ => tA_cons
theorem starEach_any {es : List Expr} {env : Env} {pos : Pos} (h : ∀ e ∈ es, ∀ r, starEach (e :: r) env = (false, eval e env) :: starEach r env) : (backTo pos (starEach es env)).any (·.1) = false := by
  have : ∀ x ∈ starEach es env, x.1 = false := by
    induction es with
    | nil => intro x hx; cases hx
    | cons e r ih =>
      rw [h e List.mem_cons_self r]
      intro x hx
      rcases List.mem_cons.mp hx with rfl | hx
      · rfl
      · exact ih (fun e' he' => h e' (List.mem_cons_of_mem _ he')) x hx
  unfold backTo
  rw [List.any_map, List.any_eq_false]
  intro x hx
  show ¬ x.1 = true
  rw [this x hx]
  exact Bool.false_ne_true
end
end Mb
end

section
set_option Elab.async false
set_option linter.all false
set_option maxRecDepth 100000
set_option maxHeartbeats 1000000
/-! Mb7: calls of built-ins, methods, slices, f-strings, displays -/
namespace Mb
open PySem PySem.Spec PyProof.Rows L2

section
variable {p : Pm} {Wx : WX} {m m1 m2 : Bool} {σ : L2.St} {G H : Hp} {fps : Fps} {ε : Ev}
/-- o.m(e): o a text -/
def isS : D → Bool
  | .str _ => true
  | _ => false
theorem bo_str {K : PySem.W.Frag} {G H : Hp} (g : Same G H) {n : Nat} {v : V} {d : D} (h : Bo K G H n v d) (e : isS d = true) : ∃ a, v = .str a := by
  have h := h.rz g
  cases h <;> first | exact ⟨_, rfl⟩ | (cases e)
def fM1 (F : List Ent → Option Ent) (m2 : Bool) (f g : Ev → Res (Ent × Ev)) : Ev → Res (Ent × Ev) := fun ε => (f ε).bind fun q =>
  if isS q.1.2 = true ∧ (q.1.1 = 0 ∨ m2 = false) then (g q.2).bind fun r => match F [q.1, r.1] with
    | some e => .ok (e, r.2)
    | none => .bad
  else .bad
theorem tE_m1 {r : V → List V → Hp → VK → Prop} {F : List Ent → Option Ent} (ok : OkL p.K (b2 fun x y H Q => r x [y] H Q) F) {f g : Ev → Res (Ent × Ev)} {Q : VK} (h : tE p Wx (m1 || m2) (fM1 F m2 f g) σ H Q) : tM1 r (tB p Wx m1 f) (tB p Wx m2 g) σ H Q := by
  refine tR.bind (g := fun q ε => if isS q.2 = true ∧ (q.1 = 0 ∨ m2 = false) then (g ε).bind fun r => match F [q, r.1] with | some e => .ok (e, r.2) | none => .bad else .bad) (fun _ _ _ _ _ h => h.1) h fun b v ε1 G G1 H1 fps fps1 r1 rl t s a => ?_
  by_cases c : isS b.2 = true ∧ (b.1 = 0 ∨ m2 = false)
  · rw [if_pos c] at a
    refine ⟨bo_str r1.sub rl.2 c.1, ?_⟩
    refine ⟨ε1, G1, fps1, r1, ?_⟩
    cases e : g ε1 with
    | ok q =>
      obtain ⟨b', ε2⟩ := q
      rw [e] at a
      intro w G2 H2 fps2 fp r2 rl2 t2 s2
      obtain ⟨rfl, rl2⟩ := rl2
      have a : After p Wx (m1 || m2) σ G H fps (relE p) (match F [b, b'] with | some e => .ok (e, ε2) | none => .bad) Q := a
      cases e2 : F [b, b'] with
      | none => rw [e2] at a; exact a.elim
      | some en =>
        rw [e2] at a
        refine ok G2 H2 [v, w] [b, b'] en Q r2.sub (.cons (Bo.same t2.grow (c.2.imp_right fun z => s2 z) rl.2) (.cons rl2 .nil)) e2 (fun v' H' pr => ?_) v w rfl
        obtain ⟨G', fp, r3, ow, t3, sH⟩ := pr.rel r2
        refine a v' G' H' fps2 fp r3 ow ((t.trans t2).trans t3) fun z => ?_
        simp only [Bool.or_eq_false_iff] at z
        exact ((s z.1).trans (s2 z.2)).trans sH
    | exc x' ε2 =>
      rw [e] at a
      intro cls d G2 H2 fps2 r2 t2 x2
      exact a cls d G2 H2 fps2 r2 (t.trans t2) x2
    | bad => rw [e] at a; exact a
  · rw [if_neg c] at a; exact a.elim

/-! ### slices -/
def relO : Option Int → Option Int → Hp → Hp → List Addr → Prop := fun a b _ _ fp => fp = [] ∧ a = b
def fNoPart : Ev → Res (Option Int × Ev) := fun ε => .ok (none, ε)
def fPart (f : Ev → Res (Ent × Ev)) : Ev → Res (Option Int × Ev) := fun ε => (f ε).bind fun q => match q.1.2 with
  | .int i => .ok (some i, q.2)
  | _ => .bad
abbrev tO (p : Pm) (Wx : WX) (m : Bool) (f : Ev → Res (Option Int × Ev)) : TO := tR p Wx m relO f
theorem tO_no {Q : Option Int → Hp → Prop} (h : tO p Wx m fNoPart σ H Q) : tNoPart σ H Q := by
  obtain ⟨ε, G, fps, r, a⟩ := h
  exact a none G H fps [] r ⟨rfl, rfl⟩ Tr.refl fun _ => Same.refl H
theorem tO_part {f : Ev → Res (Ent × Ev)} {Q : Option Int → Hp → Prop} (h : tO p Wx m (fPart f) σ H Q) : tPart (tB p Wx m f) σ H Q := by
  have h : tR p Wx (m || false) relO (fPart f) σ H Q := by rw [Bool.or_false]; exact h
  refine tR.bind (m2 := false) (g := fun a ε => match a.2 with | .int i => .ok (some i, ε) | _ => .bad) (fun _ _ _ _ _ h => h.1) h fun b v ε1 G G1 H1 fps fps1 r1 rl t s a => ?_
  obtain ⟨n, d⟩ := b
  cases d with
  | int i =>
    have hz := rl.2.rz r1.sub
    cases hz
    exact ⟨i, rfl, a _ G1 H1 fps1 [] r1 ⟨rfl, rfl⟩ t fun z => s (by simpa using z)⟩
  | _ => exact a.elim
def OkS (K : PySem.W.Frag) (r : V → Option Int → Option Int → Hp → VK → Prop) (F : Ent → Option Int → Option Int → Option Ent) : Prop :=
  ∀ (G H : Hp) (v : V) (a : Ent) (lo hi : Option Int) (e : Ent) (Q : VK), Same G H → Bo K G H a.1 v a.2 → F a lo hi = some e → (∀ v H', PRes K G H e v H' → Q v H') → r v lo hi H Q
def fSl (F : Ent → Option Int → Option Int → Option Ent) (m2 m3 : Bool) (f : Ev → Res (Ent × Ev)) (g h : Ev → Res (Option Int × Ev)) : Ev → Res (Ent × Ev) := fun ε => (f ε).bind fun q =>
  if q.1.1 = 0 ∨ (m2 || m3) = false then (g q.2).bind fun l => (h l.2).bind fun u => match F q.1 l.1 u.1 with
    | some e => .ok (e, u.2)
    | none => .bad
  else .bad
theorem tE_sl {m3 : Bool} {r : V → Option Int → Option Int → Hp → VK → Prop} {F : Ent → Option Int → Option Int → Option Ent} (ok : OkS p.K r F) {f : Ev → Res (Ent × Ev)} {g h : Ev → Res (Option Int × Ev)} {Q : VK} (hh : tE p Wx (m1 || (m2 || m3)) (fSl F m2 m3 f g h) σ H Q) :
    tSl r (tB p Wx m1 f) (tO p Wx m2 g) (tO p Wx m3 h) σ H Q := by
  refine tR.bind (g := fun q ε => if q.1 = 0 ∨ (m2 || m3) = false then (g ε).bind fun l => (h l.2).bind fun u => match F q l.1 u.1 with | some e => .ok (e, u.2) | none => .bad else .bad) (fun _ _ _ _ _ h => h.1) hh
    fun b v ε1 G G1 H1 fps fps1 r1 rl t s a => ?_
  by_cases c : b.1 = 0 ∨ (m2 || m3) = false
  · rw [if_pos c] at a
    refine ⟨ε1, G1, fps1, r1, ?_⟩
    cases e : g ε1 with
    | ok q =>
      obtain ⟨l, ε2⟩ := q
      rw [e] at a
      intro l' G2 H2 fps2 fp r2 rl2 t2 s2
      obtain ⟨rfl, rfl⟩ := rl2
      refine ⟨ε2, G2, fps2, r2, ?_⟩
      have a : After p Wx (m1 || (m2 || m3)) σ G H fps (relE p) ((h ε2).bind fun u => match F b l' u.1 with | some e => .ok (e, u.2) | none => .bad) Q := a
      cases e3 : h ε2 with
      | ok q =>
        obtain ⟨u, ε3⟩ := q
        rw [e3] at a
        intro u' G3 H3 fps3 fp r3 rl3 t3 s3
        obtain ⟨rfl, rfl⟩ := rl3
        have a : After p Wx (m1 || (m2 || m3)) σ G H fps (relE p) (match F b l' u' with | some e => .ok (e, ε3) | none => .bad) Q := a
        cases e2 : F b l' u' with
        | none => rw [e2] at a; exact a.elim
        | some en =>
          rw [e2] at a
          refine ok G3 H3 v b l' u' en Q r3.sub (Bo.same (t2.trans t3).grow (c.imp_right fun z => ?_) rl.2) e2 fun v' H' pr => ?_
          · simp only [Bool.or_eq_false_iff] at z
            exact (s2 z.1).trans (s3 z.2)
          · obtain ⟨G', fp, r4, ow, t4, sH⟩ := pr.rel r3
            refine a v' G' H' fps3 fp r4 ow (((t.trans t2).trans t3).trans t4) fun z => ?_
            simp only [Bool.or_eq_false_iff] at z
            exact (((s z.1).trans (s2 z.2.1)).trans (s3 z.2.2)).trans sH
      | exc x' ε3 =>
        rw [e3] at a
        intro cls d G3 H3 fps3 r3 t3 x3
        exact a cls d G3 H3 fps3 r3 ((t.trans t2).trans t3) x3
      | bad => rw [e3] at a; exact a
    | exc x' ε2 =>
      rw [e] at a
      intro cls d G2 H2 fps2 r2 t2 x2
      exact a cls d G2 H2 fps2 r2 (t.trans t2) x2
    | bad => rw [e] at a; exact a
  · rw [if_neg c] at a; exact a.elim

/-! ### f-strings -/
def fJ : List (Bool × (Ev → Res (Ent × Ev))) → Str → Ev → Res (Str × Ev)
  | [], acc, ε => .ok (acc, ε)
  | f :: fs, acc, ε => (f.2 ε).bind fun q => match q.1.2 with
    | .str y => if (acc ++ y).length ≤ LIM then fJ fs (acc ++ y) q.2 else .bad
    | _ => .bad
def relStr : Str → Str → Hp → Hp → List Addr → Prop := fun a b _ _ fp => fp = [] ∧ a = b
def anyM (fs : List (Bool × (Ev → Res (Ent × Ev)))) : Bool := fs.any (·.1)
theorem tJ_of : ∀ {fs : List (Bool × (Ev → Res (Ent × Ev)))} {acc : Str} {σ : L2.St} {H : Hp} {Q : Str → Hp → Prop}, tR p Wx (anyM fs) relStr (fJ fs acc) σ H Q → tJs (fs.map fun f => tB p Wx f.1 f.2) acc σ H Q
  | [], acc, σ, H, Q, h => by
    obtain ⟨ε, G, fps, r, a⟩ := h
    exact a acc G H fps [] r ⟨rfl, rfl⟩ Tr.refl fun _ => Same.refl H
  | f :: fs, acc, σ, H, Q, h => by
    have h : tR p Wx (f.1 || anyM fs) relStr (fun ε => (f.2 ε).bind fun q => match q.1.2 with | .str y => if (acc ++ y).length ≤ LIM then fJ fs (acc ++ y) q.2 else .bad | _ => .bad) σ H Q := h
    refine tR.bind (g := fun a ε => match a.2 with | .str y => if (acc ++ y).length ≤ LIM then fJ fs (acc ++ y) ε else .bad | _ => .bad) (fun _ _ _ _ _ h => h.1) h fun b v ε1 G G1 H1 fps fps1 r1 rl t s a => ?_
    obtain ⟨n, d⟩ := b
    cases d with
    | str y =>
      have hz := rl.2.rz r1.sub
      cases hz
      have a : After p Wx (f.1 || anyM fs) σ G H fps relStr (if (acc ++ y).length ≤ LIM then fJ fs (acc ++ y) ε1 else .bad) Q := a
      by_cases c : (acc ++ y).length ≤ LIM
      · rw [if_pos c] at a
        exact ⟨y, rfl, by rw [← lim_line]; exact c, tJ_of (After.next r1 t s a)⟩
      · rw [if_neg c] at a; exact a.elim
    | _ => exact a.elim
def fStr (fs : List (Bool × (Ev → Res (Ent × Ev)))) : Ev → Res (Ent × Ev) := fun ε => (fJ fs Str.empty ε).bind fun q => .ok ((0, .str q.1), q.2)
theorem tE_str {fs : List (Bool × (Ev → Res (Ent × Ev)))} {Q : VK} (h : tE p Wx (anyM fs) (fStr fs) σ H Q) : tR p Wx (anyM fs) relStr (fJ fs Str.empty) σ H fun out H1 => Q (.str out) H1 := by
  have h : tR p Wx (anyM fs || false) (relE p) (fStr fs) σ H Q := by rw [Bool.or_false]; exact h
  refine tR.bind (m2 := false) (g := fun a ε => .ok ((0, PyData.str a), ε)) (fun _ _ _ _ _ h => h.1) h fun b v ε1 G G1 H1 fps fps1 r1 rl t s a => ?_
  obtain rfl : v = b := rl.2
  exact a.val r1 (.str v) t fun z => s (by simpa using z)
end

section
variable {X : Cx} {p : Pm} {Wx : WX} {m m1 m2 : Bool} {pos apos cpos : Pos} {a b e o : Expr} {es : List Expr} {f g : Ev → Res (Ent × Ev)} {h : Ev → Res (List Ent × Ev)} {F : List Ent → Option Ent}
theorem den_callB {x : Str} {id : String} {r : List V → Hp → VK → Prop} {p' : Pos} (hc : CallR X (.builtin id) r) (ok : OkL p.K r F) (hg : Gl X x) (hm : X.mg x = none) (hv : bootBuiltins x = some (.builtin id)) (ha : PA X (e :: es) (tA p Wx m h))
    (hn : x ≠ "__name__") (hdb : (x == ("__debug__" : Str)) = false) (he : starEach (e :: es) X.env = (false, eval e X.env) :: starEach es X.env) (hpl : (backTo pos (starEach es X.env)).any (·.1) = false) :
    PE X (.Call (.Name x p') (e :: es) [] pos) (tE p Wx m (fOp F h)) := PE.imp (pe_callB hc hg hm hv ha hn hdb he hpl) fun _ _ _ => tE_op ok
theorem den_callTy {x : Str} {T : String} {r : List V → Hp → VK → Prop} {p' : Pos} (hc : CallR X (.type T) r) (ok : OkL p.K r F) (hg : Gl X x) (hm : X.mg x = none) (hv : bootBuiltins x = some (.type T)) (ha : PA X (e :: es) (tA p Wx m h))
    (hn : x ≠ "__name__") (hdb : (x == ("__debug__" : Str)) = false) (he : starEach (e :: es) X.env = (false, eval e X.env) :: starEach es X.env) (hpl : (backTo pos (starEach es X.env)).any (·.1) = false) :
    PE X (.Call (.Name x p') (e :: es) [] pos) (tE p Wx m (fOp F h)) := PE.imp (pe_callTy hc hg hm hv ha hn hdb he hpl) fun _ _ _ => tE_op ok
theorem den_m1 {id : String} {name : Str} {r : V → List V → Hp → VK → Prop} (slot : Slot "str" name id) (ty : typeOf (.builtin id) = pure (.type "method_descriptor")) (rule : MtR X id r) (ok : OkL p.K (b2 fun x y H Q => r x [y] H Q) F)
    (ho : PE X o (tB p Wx m1 f)) (he : PE X e (tB p Wx m2 g)) (hs : starEach [e] X.env = [(false, eval e X.env)]) (hbase : attributeBase o name X.env (eval o X.env) = eval o X.env) (hline : (apos.endLine == pos.line) = true) :
    PE X (.Call (.Attribute o name apos) [e] [] pos) (tE p Wx (m1 || m2) (fM1 F m2 f g)) := PE.imp (pe_m1 slot ty rule ho he hs hbase hline) fun _ _ _ => tE_m1 ok
theorem den_tup {x1} {F : List Ent → Option Ent} (ok : OkL p.K (fun xs H Q => xs.length ≤ sizeLine ∧ ∀ q, H q = none → Q (.ref q) (upd H q (.tup xs))) F) (ha : PA X es (tA p Wx m h)) : PE X (.Tuple es x1 pos) (tE p Wx m (fOp F h)) :=
  PE.imp (pe_tup ha) fun _ _ _ => tE_op ok
theorem den_lst {F : List Ent → Option Ent} (ok : OkL p.K (fun xs H Q => xs.length ≤ sizeLine ∧ ∀ q, H q = none → Q (.ref q) (upd H q (.lst xs))) F) (ha : PA X es (tA p Wx m h)) : PE X (.List es pos) (tE p Wx m (fOp F h)) :=
  PE.imp (pe_lst ha) fun _ _ _ => tE_op ok
theorem PO.imp {X : Cx} {e : Option Expr} {t t' : TO} (h : PO X e t) (i : ∀ σ H Q, t' σ H Q → t σ H Q) : PO X e t' := ⟨fun pins s σ H Q I q => h.run pins s σ H Q I (i σ H Q q)⟩
theorem den_noPart : PO X none (tO p Wx m fNoPart) := PO.imp po_none fun _ _ _ => tO_no
theorem den_part (ha : PE X a (tB p Wx m f)) : PO X (some a) (tO p Wx m (fPart f)) := PO.imp (po_some ha) fun _ _ _ => tO_part
theorem den_sl {m3 : Bool} {lo hi : Option Expr} {p2 : Pos} {r : V → Option Int → Option Int → Hp → VK → Prop} {F : Ent → Option Int → Option Int → Option Ent} {g h : Ev → Res (Option Int × Ev)} (hr : SlR X r) (ok : OkS p.K r F) (he : PE X a (tB p Wx m1 f)) (hl : PO X lo (tO p Wx m2 g)) (hu : PO X hi (tO p Wx m3 h)) :
    PE X (.Subscript a (.Slice lo hi none p2) pos) (tE p Wx (m1 || (m2 || m3)) (fSl F m2 m3 f g h)) := PE.imp (pe_slice hr he hl hu) fun _ _ _ => tE_sl ok
theorem den_fstr {v1 v2 : Expr} {rest : List Expr} {fs : List (Bool × (Ev → Res (Ent × Ev)))} (h : PJ X (v1 :: v2 :: rest) (fs.map fun f => tB p Wx f.1 f.2)) : PE X (.JoinedStr (v1 :: v2 :: rest) pos) (tE p Wx (anyM fs) (fStr fs)) :=
  PE.imp (pe_joined h) fun _ _ _ h => tJ_of (tE_str h)
end
end Mb
end

section
set_option Elab.async false
set_option linter.all false
set_option maxRecDepth 100000
set_option maxHeartbeats 1000000
/-! Mb8: what the operations do with data -/
namespace Mb
open PySem PySem.Spec PyProof.Rows L2

/-- the strongest reading of an operation F on data -/
def rD (K : PySem.W.Frag) (F : List Ent → Option Ent) : List V → Hp → VK → Prop := fun vs H Q =>
  ∃ (as : List Ent) (G : Hp) (e : Ent), Same G H ∧ BoAll K G H vs as ∧ F as = some e ∧ ∀ v H', PRes K G H e v H' → Q v H'
theorem okD {K : PySem.W.Frag} {F : List Ent → Option Ent} : OkL K (rD K F) F := fun G H vs as e Q g b h k => ⟨as, G, e, g, b, h, k⟩
def rD2 (K : PySem.W.Frag) (F : List Ent → Option Ent) : R2 := fun x y H Q => rD K F [x, y] H Q
theorem okD2 {K : PySem.W.Frag} {F : List Ent → Option Ent} : OkL K (b2 (rD2 K F)) F := fun G H vs as e Q g b h k x y ev => by
  subst ev
  exact ⟨as, G, e, g, b, h, k⟩

section
variable {K : PySem.W.Frag} {G H : Hp} {n : Nat} {v : V}
theorem bo_int (g : Same G H) {i : Int} (h : Bo K G H n v (.int i)) : v = .int i := by cases h.rz g; rfl
theorem bo_strv (g : Same G H) {i : Str} (h : Bo K G H n v (.str i)) : v = .str i := by cases h.rz g; rfl
theorem bo_none (g : Same G H) (h : Bo K G H n v .none) : v = .non := by cases h.rz g; rfl
theorem bo_list (g : Same G H) {ds : List D} (hn : n ≤ 1) (h : Bo K G H n v (.list ds)) : ∃ (a : Addr) (vs : List V), v = .ref a ∧ Rd H a (.lst vs) ∧ RzAll K G vs ds := by
  cases n with
  | zero => cases h with | lst s r => exact ⟨_, _, rfl, same_rd g s, r⟩
  | succ n =>
    obtain rfl : n = 0 := by omega
    obtain ⟨a, e, h⟩ := h
    rcases h with ⟨vs, ds', ed, eh, r⟩ | ⟨_, _, _, ed, _⟩
    · cases ed; exact ⟨a, vs, e, eh, rzAll_of r⟩
    · cases ed
theorem bo_listN (g : Same G H) {ds : List D} (h : Bo K G H n v (.list ds)) : ∃ (a : Addr) (vs : List V), v = .ref a ∧ Rd H a (.lst vs) ∧ PySem.Paired (Bo K G H (n - 1)) vs ds := by
  cases n with
  | zero => cases h with | lst s r => exact ⟨_, _, rfl, same_rd g s, of_rzAll r⟩
  | succ n =>
    obtain ⟨a, e, h⟩ := h
    rcases h with ⟨vs, ds', ed, eh, r⟩ | ⟨_, _, _, ed, _⟩
    · cases ed; exact ⟨a, vs, e, eh, r⟩
    · cases ed
theorem bo_tuple (g : Same G H) {ds : List D} (h : Bo K G H n v (.tuple ds)) : ∃ (a : Addr) (vs : List V), v = .ref a ∧ SqT K H a vs ∧ RzAll K G vs ds := by
  cases n with
  | zero => cases h with | tup s r => exact ⟨_, _, rfl, same_sqt g s, r⟩
  | succ n =>
    obtain ⟨a, e, h⟩ := h
    rcases h with ⟨vs, ds', ed, _⟩ | ⟨_, _, _, ed, _⟩ <;> cases ed
end

structure Cok (X : Cx) (p : Pm) : Prop where
  hK : X.K = p.K
  hmg : X.mg = p.mg
  calm : X.calm = true
  nd : X.N.Nodup
  un : X.A.units + 64 < cLine

section
variable {X : Cx} {p : Pm}
/-- borrowed data read by the machine -/
theorem reads_bo {pins : List (Addr × Obj)} {σ : L2.St} {s : Shared} {G H : Hp} {n : Nat} {v : V} {u : Value} {d : D} (c : Cok X p) (I : Inv X pins σ H s) (g : Same G H) (h : Bo p.K G H n v d) (r : RelV v u) (pl : d.plain = true) : ∃ as, Reads s.heap u d as := by
  have h := (h.rz g).dp pl
  rw [← c.hK] at h
  exact Dp.reads I d v u h r
theorem PRes.bl {K : PySem.W.Frag} {G H : Hp} (g : Same G H) {b : Bool} : PRes K G H (0, .bool b) (.bl b) H := PRes.here g (.bl b)
/-- two data compared -/
def cmpF (ok : D → D → Bool) (val : D → D → Bool) : List Ent → Option Ent
  | [a, b] => if ok a.2 b.2 = true then some (0, .bool (val a.2 b.2)) else none
  | _ => none
def okEq (a b : D) : Bool := a.plain && b.plain && decide (min a.depth b.depth ≤ 60)
def okLt (a b : D) : Bool := a.plain && b.plain && PySem.W.alike a b && decide (min a.depth b.depth ≤ 60) && (match a with | .none => false | _ => true)
theorem cmp_rule {op : CmpOp} {ok val : D → D → Bool} (c : Cok X p) (hp : ∀ a b, ok a b = true → a.plain = true ∧ b.plain = true)
    (rule : ∀ (E : Value → Shared → Prop) (s : Shared) (u w : Value) (a b : D) (as bs : List Addr) (Q : Value → Shared → Prop), Reads s.heap u a as → Reads s.heap w b bs → ok a b = true → Q (.bool (val a b)) s → wpAny (model X.prog X.w) X.A (compareOp op u w) Q E s) :
    OpR X (compareOp op) (rD2 p.K (cmpF ok val)) := by
  intro pins s σ H x y v u Q I rx ry h
  obtain ⟨as, G, e, g, b, hF, k⟩ := h
  cases b with
  | cons b1 t =>
    cases t with
    | cons b2 t =>
      cases t
      rename_i a1 a2
      simp only [cmpF] at hF
      split at hF
      · rename_i hok
        cases hF
        obtain ⟨p1, p2⟩ := hp _ _ hok
        obtain ⟨as, r1⟩ := reads_bo c I g b1 rx p1
        obtain ⟨bs, r2⟩ := reads_bo c I g b2 ry p2
        exact rule _ s v u _ _ as bs _ r1 r2 hok ⟨.bl _, H, I, rfl, k _ _ (PRes.bl g)⟩
      · cases hF
theorem okEq_plain (a b : D) (h : okEq a b = true) : a.plain = true ∧ b.plain = true ∧ min a.depth b.depth ≤ 60 := by
  simp only [okEq, Bool.and_eq_true, decide_eq_true_eq] at h
  exact ⟨h.1.1, h.1.2, h.2⟩
theorem okLt_plain (a b : D) (h : okLt a b = true) : a.plain = true ∧ b.plain = true ∧ PySem.W.alike a b = true ∧ min a.depth b.depth ≤ 60 ∧ a ≠ .none := by
  simp only [okLt, Bool.and_eq_true, decide_eq_true_eq] at h
  refine ⟨h.1.1.1.1, h.1.1.1.2, h.1.1.2, h.1.2, fun e => ?_⟩
  subst e
  exact absurd h.2 (by simp)
theorem op_eqP (c : Cok X p) : OpR X (compareOp .Eq) (rD2 p.K (cmpF okEq PyData.eqv)) :=
  cmp_rule c (fun a b h => ⟨(okEq_plain a b h).1, (okEq_plain a b h).2.1⟩) fun E s u w a b as bs Q ra rb h q => SeqAt.eq_plain ra rb (okEq_plain a b h).1 (okEq_plain a b h).2.1 (by have := c.un; have := (okEq_plain a b h).2.2; omega) q
theorem op_neP (c : Cok X p) : OpR X (compareOp .NotEq) (rD2 p.K (cmpF okEq fun a b => !PyData.eqv a b)) :=
  cmp_rule c (fun a b h => ⟨(okEq_plain a b h).1, (okEq_plain a b h).2.1⟩) fun E s u w a b as bs Q ra rb h q => SeqAt.ne_plain ra rb (okEq_plain a b h).1 (okEq_plain a b h).2.1 (by have := c.un; have := (okEq_plain a b h).2.2; omega) q
theorem op_ltP (c : Cok X p) : OpR X (compareOp .Lt) (rD2 p.K (cmpF okLt PySem.W.dataLt)) :=
  cmp_rule c (fun a b h => ⟨(okLt_plain a b h).1, (okLt_plain a b h).2.1⟩) fun E s u w a b as bs Q ra rb h q => by
    obtain ⟨_, _, h1, h2, h3⟩ := okLt_plain a b h
    exact PySem.W.lt_data ra rb h1 h3 (by have := c.un; omega) q
theorem op_gtP (c : Cok X p) : OpR X (compareOp .Gt) (rD2 p.K (cmpF okLt fun a b => PySem.W.dataLt b a)) :=
  cmp_rule c (fun a b h => ⟨(okLt_plain a b h).1, (okLt_plain a b h).2.1⟩) fun E s u w a b as bs Q ra rb h q => by
    obtain ⟨_, _, h1, h2, h3⟩ := okLt_plain a b h
    exact PySem.W.gt_data ra rb h1 h3 (by have := c.un; omega) q
theorem op_leP (c : Cok X p) : OpR X (compareOp .LtE) (rD2 p.K (cmpF okLt fun a b => !PySem.W.dataLt b a)) :=
  cmp_rule c (fun a b h => ⟨(okLt_plain a b h).1, (okLt_plain a b h).2.1⟩) fun E s u w a b as bs Q ra rb h q => by
    obtain ⟨_, _, h1, h2, h3⟩ := okLt_plain a b h
    exact PySem.W.le_data ra rb h1 h3 (by have := c.un; omega) q
theorem op_geP (c : Cok X p) : OpR X (compareOp .GtE) (rD2 p.K (cmpF okLt fun a b => !PySem.W.dataLt a b)) :=
  cmp_rule c (fun a b h => ⟨(okLt_plain a b h).1, (okLt_plain a b h).2.1⟩) fun E s u w a b as bs Q ra rb h q => by
    obtain ⟨_, _, h1, h2, h3⟩ := okLt_plain a b h
    exact PySem.W.ge_data ra rb h1 h3 (by have := c.un; omega) q
end
end Mb
end

section
set_option Elab.async false
set_option linter.all false
set_option maxRecDepth 100000
set_option maxHeartbeats 1000000
/-! Mb9: arithmetic, membership, calls of built-ins on data -/
namespace Mb
open PySem PySem.Spec PyProof.Rows L2

section
variable {X : Cx} {p : Pm}
theorem bo2 {K : PySem.W.Frag} {G H : Hp} {x y : V} {as : List Ent} (b : BoAll K G H [x, y] as) : ∃ a1 a2, as = [a1, a2] ∧ Bo K G H a1.1 x a1.2 ∧ Bo K G H a2.1 y a2.2 := by
  cases b with
  | cons b1 t =>
    cases t with
    | cons b2 t => cases t; exact ⟨_, _, rfl, b1, b2⟩
theorem bo1 {K : PySem.W.Frag} {G H : Hp} {x : V} {as : List Ent} (b : BoAll K G H [x] as) : ∃ a1, as = [a1] ∧ Bo K G H a1.1 x a1.2 := by
  cases b with
  | cons b1 t => cases t; exact ⟨_, rfl, b1⟩
theorem boOne {K : PySem.W.Frag} {G H : Hp} {xs : List V} {a : Ent} (b : BoAll K G H xs [a]) : ∃ x, xs = [x] ∧ Bo K G H a.1 x a.2 := by
  cases b with
  | cons b1 t => cases t; exact ⟨_, rfl, b1⟩
theorem boTwo {K : PySem.W.Frag} {G H : Hp} {xs : List V} {a b : Ent} (h : BoAll K G H xs [a, b]) : ∃ x y, xs = [x, y] ∧ Bo K G H a.1 x a.2 ∧ Bo K G H b.1 y b.2 := by
  cases h with
  | cons b1 t =>
    cases t with
    | cons b2 t => cases t; exact ⟨_, _, rfl, b1, b2⟩

theorem bo_tup0 {K : PySem.W.Frag} {G H : Hp} {n : Nat} {v : V} {ds : List D} (h : Bo K G H n v (.tuple ds)) : Rz K G v (.tuple ds) := by
  cases n with
  | zero => exact h
  | succ n =>
    obtain ⟨a, e, h⟩ := h
    rcases h with ⟨vs, ds', ed, _⟩ | ⟨_, _, _, ed, _⟩ <;> cases ed

/-! ### + - * // % -/
def intF (C : Int → Int → Bool) (g : Int → Int → Int) : List Ent → Option Ent
  | [(_, .int i), (_, .int j)] => if C i j = true then some (0, .int (g i j)) else none
  | _ => none
theorem int_rule {f : Value → Value → Sem Value} {C : Int → Int → Prop} {C' : Int → Int → Bool} {g : Int → Int → Int} (h : OpR X f (rI C fun i j => .int (g i j))) (hc : ∀ i j, C' i j = true → C i j) : OpR X f (rD2 p.K (intF C' g)) := by
  intro pins s σ H x y v u Q I rx ry q
  obtain ⟨as, G, e, gs, b, hF, k⟩ := q
  obtain ⟨⟨n1, d1⟩, ⟨n2, d2⟩, rfl, b1, b2⟩ := bo2 b
  unfold intF at hF
  split at hF
  · rename_i z1 i z2 j heq
    injection heq with h1 h2
    injection h2 with h2 _
    cases h1; cases h2
    split at hF
    · rename_i hcc
      cases hF
      have e1 := bo_int gs b1
      have e2 := bo_int gs b2
      exact h pins s σ H x y v u Q I rx ry ⟨i, j, e1, e2, hc _ _ hcc, k _ _ (PRes.here gs (.int _))⟩
    · cases hF
  · cases hF
def mulC (i j : Int) : Bool := decide (i.natAbs.log2 + j.natAbs.log2 < 1000000)
def divC (i j : Int) : Bool := decide (0 < j ∧ j.natAbs.log2 < 9000)
theorem op_subP : OpR X (binaryOp .Sub) (rD2 p.K (intF (fun _ _ => true) fun i j => i - j)) := by
  intro pins s σ H x y v u Q I rx ry q
  exact int_rule (X := X) (p := p) (f := binaryOp .Sub) (C := fun _ _ => True) (g := fun i j => i - j) (fun pins s σ H x y v u Q I rx ry ⟨i, j, e1, e2, _, q⟩ => op_sub pins s σ H x y v u Q I rx ry ⟨i, j, e1, e2, q⟩) (fun _ _ _ => trivial) pins s σ H x y v u Q I rx ry q
theorem op_mulI : OpR X (binaryOp .Mult) (rD2 p.K (intF mulC fun i j => i * j)) := int_rule op_mulW fun i j h => (of_decide_eq_true h : i.natAbs.log2 + j.natAbs.log2 < 1000000)
theorem op_divP : OpR X (binaryOp .FloorDiv) (rD2 p.K (intF divC fun i j => i / j)) := int_rule op_fdivW fun i j h => (of_decide_eq_true h : 0 < j ∧ j.natAbs.log2 < 9000)
theorem op_modP : OpR X (binaryOp .Mod) (rD2 p.K (intF (fun _ j => decide (0 < j)) fun i j => i % j)) := int_rule op_mod fun i j h => of_decide_eq_true h

def addF : List Ent → Option Ent
  | [(_, .int i), (_, .int j)] => some (0, .int (i + j))
  | [(_, .str i), (_, .str j)] => if i.length + j.length ≤ LIM then some (0, .str (i ++ j)) else none
  | [(n, .list i), (m, .list j)] => if n ≤ 1 ∧ m ≤ 1 ∧ i.length + j.length ≤ LIM then some (1, .list (i ++ j)) else none
  | [(_, .tuple i), (_, .tuple j)] => if i.length + j.length ≤ LIM then some (0, .tuple (i ++ j)) else none
  | _ => none
/-- what stands at a list that is read -/
theorem rdList {pins : List (Addr × Obj)} {σ : L2.St} {H : Hp} {s : Shared} {a : Addr} {vs : List V} (I : Inv X pins σ H s) (h : Rd H a (.lst vs)) :
    vs.length ≤ sizeLine ∧ ∃ (its : List Value) (n : Nat), Vals vs its ∧ s.heap.get? a = some { cls := .type "list", data := .seq its.toArray n } := h.ok I.hok
theorem op_addP (c : Cok X p) : OpR X (binaryOp .Add) (rD2 p.K addF) := by
  intro pins s σ H x y v u Q I rx ry q
  obtain ⟨as, G, e, gs, b, hF, k⟩ := q
  obtain ⟨⟨n1, d1⟩, ⟨n2, d2⟩, rfl, b1, b2⟩ := bo2 b
  unfold addF at hF
  split at hF
  · rename_i z1 i z2 j heq
    injection heq with h1 h2
    injection h2 with h2 _
    cases h1; cases h2; cases hF
    exact op_add pins s σ H x y v u Q I rx ry ⟨i, j, bo_int gs b1, bo_int gs b2, k _ _ (PRes.here gs (.int _))⟩
  · rename_i z1 i z2 j heq
    injection heq with h1 h2
    injection h2 with h2 _
    cases h1; cases h2
    split at hF
    · rename_i hc
      cases hF
      exact op_add_str pins s σ H x y v u Q I rx ry ⟨i, j, bo_strv gs b1, bo_strv gs b2, by rw [← lim_line]; exact hc, k _ _ (PRes.here gs (.str _))⟩
    · cases hF
  · rename_i z1 i z2 j heq
    injection heq with h1 h2
    injection h2 with h2 _
    cases h1; cases h2
    split at hF
    · rename_i hc
      cases hF
      obtain ⟨a, vs, rfl, ha, ra⟩ := bo_list gs hc.1 b1
      obtain ⟨a', vs', rfl, ha', ra'⟩ := bo_list gs hc.2.1 b2
      cases rx
      cases ry
      obtain ⟨z, its, m1, r1, e1⟩ := rdList I ha
      obtain ⟨z2, its2, m2, r2, e2⟩ := rdList I ha'
      have l1 := r1.length
      have l2 := r2.length
      have l3 := ra.length
      have l4 := ra'.length
      have hz := hc.2.2
      rw [lim_line] at hz
      refine PySem.P.add_list e1 e2 ?_ (by rw [List.size_toArray, List.size_toArray]; omega)
      rw [show its.toArray ++ its2.toArray = (its ++ its2).toArray by simp]
      exact ⟨.ref _, _, I.lnew (t' := s.toks) (r1.append r2) (by rw [List.length_append]; omega), rfl, k _ _ (PRes.lst gs I.fresh (ra.append ra'))⟩
    · cases hF
  · rename_i z1 i z2 j heq
    injection heq with h1 h2
    injection h2 with h2 _
    cases h1; cases h2
    split at hF
    · rename_i hc
      cases hF
      obtain ⟨a, vs, rfl, ha, ra⟩ := bo_tuple gs b1
      obtain ⟨a', vs', rfl, ha', ra'⟩ := bo_tuple gs b2
      have l3 := ra.length
      have l4 := ra'.length
      refine op_catA pins s σ H _ _ v u Q I rx ry ⟨a, a', vs, vs', rfl, rfl, by rw [c.hK]; exact ha, by rw [c.hK]; exact ha', by rw [← lim_line]; omega, fun h0 => ?_, fun _ h0 => ?_, fun _ _ q hq => k _ _ (PRes.tup gs hq (ra.append ra'))⟩
      · subst h0
        have : i = [] := by cases ra; rfl
        subst this
        exact k _ _ (PRes.here gs (bo_tup0 b2))
      · subst h0
        have : j = [] := by cases ra'; rfl
        subst this
        rw [List.append_nil] at k
        exact k _ _ (PRes.here gs (bo_tup0 b1))
    · cases hF
  · cases hF
end
end Mb
end

section
set_option Elab.async false
set_option linter.all false
set_option maxRecDepth 100000
set_option maxHeartbeats 1000000
/-! Mb10: membership, subscripts, slices, calls of built-ins on data -/
namespace Mb
open PySem PySem.Spec PyProof.Rows L2

section
variable {X : Cx} {p : Pm}
/-! ### in, not in -/
def inF (neg : Bool) : List Ent → Option Ent
  | [x, (_, .list ys)] => if x.2.plain && PyData.plainAll ys && decide (min (PyData.depthAll ys) x.2.depth ≤ 60) then some (0, .bool (xor neg (ys.any fun y => PyData.eqv y x.2))) else none
  | [x, (_, .tuple ys)] => if x.2.plain && PyData.plainAll ys && decide (min (PyData.depthAll ys) x.2.depth ≤ 60) then some (0, .bool (xor neg (ys.any fun y => PyData.eqv y x.2))) else none
  | [(_, .str i), (_, .str j)] => some (0, .bool (xor neg (!(Builtin.Str.occurrences j i 0 j.length 1).isEmpty)))
  | _ => none
theorem xt (b : Bool) : xor true b = !b := by cases b <;> rfl
theorem xf (b : Bool) : xor false b = b := by cases b <;> rfl
theorem op_inP (c : Cok X p) : OpR X (compareOp .In) (rD2 p.K (inF false)) := by
  intro pins s σ H x y v u Q I rx ry q
  obtain ⟨as, G, e, gs, b, hF, k⟩ := q
  obtain ⟨⟨n1, d1⟩, ⟨n2, d2⟩, rfl, b1, b2⟩ := bo2 b
  unfold inF at hF
  have un := c.un
  split at hF
  · rename_i z1 z2 ys heq
    injection heq with h1 h2
    injection h2 with h2 _
    cases h1; cases h2
    split at hF
    · rename_i hc
      cases hF
      simp only [Bool.and_eq_true, decide_eq_true_eq] at hc
      obtain ⟨as, r1⟩ := reads_bo c I gs b1 rx hc.1.1
      obtain ⟨bs, r2⟩ := reads_bo c I gs b2 ry (by simpa [PyData.plain] using hc.1.2)
      have h3 : min (PyData.depthAll ys) (PyData.depth d1) ≤ 60 := hc.2
      exact SeqAt.in_list_data r2 r1 hc.1.2 hc.1.1 (by show X.A.units + 1 + min (PyData.depthAll ys) (PyData.depth d1) < cLine; omega) ⟨.bl _, H, I, rfl, by rw [← xf (ys.any _)]; exact k _ _ (PRes.bl gs)⟩
    · cases hF
  · rename_i z1 z2 ys heq
    injection heq with h1 h2
    injection h2 with h2 _
    cases h1; cases h2
    split at hF
    · rename_i hc
      cases hF
      simp only [Bool.and_eq_true, decide_eq_true_eq] at hc
      obtain ⟨as, r1⟩ := reads_bo c I gs b1 rx hc.1.1
      obtain ⟨bs, r2⟩ := reads_bo c I gs b2 ry (by simpa [PyData.plain] using hc.1.2)
      have h3 : min (PyData.depthAll ys) (PyData.depth d1) ≤ 60 := hc.2
      exact SeqAt.in_tuple_data r2 r1 hc.1.2 hc.1.1 (by show X.A.units + 1 + min (PyData.depthAll ys) (PyData.depth d1) < cLine; omega) ⟨.bl _, H, I, rfl, by rw [← xf (ys.any _)]; exact k _ _ (PRes.bl gs)⟩
    · cases hF
  · rename_i z1 i z2 j heq
    injection heq with h1 h2
    injection h2 with h2 _
    cases h1; cases h2; cases hF
    exact op_in_str pins s σ H x y v u Q I rx ry ⟨i, j, bo_strv gs b1, bo_strv gs b2, by rw [← xf (!(Builtin.Str.occurrences j i 0 j.length 1).isEmpty)]; exact k _ _ (PRes.bl gs)⟩
  · cases hF
theorem op_ninP (c : Cok X p) : OpR X (compareOp .NotIn) (rD2 p.K (inF true)) := by
  intro pins s σ H x y v u Q I rx ry q
  obtain ⟨as, G, e, gs, b, hF, k⟩ := q
  obtain ⟨⟨n1, d1⟩, ⟨n2, d2⟩, rfl, b1, b2⟩ := bo2 b
  unfold inF at hF
  have un := c.un
  split at hF
  · rename_i z1 z2 ys heq
    injection heq with h1 h2
    injection h2 with h2 _
    cases h1; cases h2
    split at hF
    · rename_i hc
      cases hF
      simp only [Bool.and_eq_true, decide_eq_true_eq] at hc
      obtain ⟨as, r1⟩ := reads_bo c I gs b1 rx hc.1.1
      obtain ⟨bs, r2⟩ := reads_bo c I gs b2 ry (by simpa [PyData.plain] using hc.1.2)
      have h3 : min (PyData.depthAll ys) (PyData.depth d1) ≤ 60 := hc.2
      exact SeqAt.notIn_list_data r2 r1 hc.1.2 hc.1.1 (by show X.A.units + 1 + min (PyData.depthAll ys) (PyData.depth d1) < cLine; omega) ⟨.bl _, H, I, rfl, by rw [← xt (ys.any _)]; exact k _ _ (PRes.bl gs)⟩
    · cases hF
  · rename_i z1 z2 ys heq
    injection heq with h1 h2
    injection h2 with h2 _
    cases h1; cases h2
    split at hF
    · rename_i hc
      cases hF
      simp only [Bool.and_eq_true, decide_eq_true_eq] at hc
      obtain ⟨as, r1⟩ := reads_bo c I gs b1 rx hc.1.1
      obtain ⟨bs, r2⟩ := reads_bo c I gs b2 ry (by simpa [PyData.plain] using hc.1.2)
      have h3 : min (PyData.depthAll ys) (PyData.depth d1) ≤ 60 := hc.2
      exact SeqAt.notIn_tuple_data r2 r1 hc.1.2 hc.1.1 (by show X.A.units + 1 + min (PyData.depthAll ys) (PyData.depth d1) < cLine; omega) ⟨.bl _, H, I, rfl, by rw [← xt (ys.any _)]; exact k _ _ (PRes.bl gs)⟩
    · cases hF
  · rename_i z1 i z2 j heq
    injection heq with h1 h2
    injection h2 with h2 _
    cases h1; cases h2; cases hF
    exact op_notin_str pins s σ H x y v u Q I rx ry ⟨i, j, bo_strv gs b1, bo_strv gs b2, by rw [← xt (!(Builtin.Str.occurrences j i 0 j.length 1).isEmpty)]; exact k _ _ (PRes.bl gs)⟩
  · cases hF
/-- is None -/
def isN : D → Bool
  | .none => true
  | _ => false
def isF (neg : Bool) : List Ent → Option Ent
  | [x, (_, .none)] => some (0, .bool (xor neg (isN x.2)))
  | _ => none
theorem rz_isNone {K : PySem.W.Frag} {G : Hp} {v : V} {d : D} (h : Rz K G v d) : decide (v = .non) = isN d := by
  cases h <;> rfl
theorem op_isP : OpR X (compareOp .Is) (rD2 p.K (isF false)) := by
  intro pins s σ H x y v u Q I rx ry q
  obtain ⟨as, G, e, gs, b, hF, k⟩ := q
  obtain ⟨⟨n1, d1⟩, ⟨n2, d2⟩, rfl, b1, b2⟩ := bo2 b
  unfold isF at hF
  split at hF
  · rename_i z1 z2 heq
    injection heq with h1 h2
    injection h2 with h2 _
    cases h1; cases h2; cases hF
    refine op_isN pins s σ H x y v u Q I rx ry ⟨bo_none gs b2, ?_⟩
    rw [rz_isNone (b1.rz gs), ← xf (isN _)]
    exact k _ _ (PRes.bl gs)
  · cases hF
theorem op_isnP : OpR X (compareOp .IsNot) (rD2 p.K (isF true)) := by
  intro pins s σ H x y v u Q I rx ry q
  obtain ⟨as, G, e, gs, b, hF, k⟩ := q
  obtain ⟨⟨n1, d1⟩, ⟨n2, d2⟩, rfl, b1, b2⟩ := bo2 b
  unfold isF at hF
  split at hF
  · rename_i z1 z2 heq
    injection heq with h1 h2
    injection h2 with h2 _
    cases h1; cases h2; cases hF
    refine op_notN pins s σ H x y v u Q I rx ry ⟨bo_none gs b2, ?_⟩
    rw [rz_isNone (b1.rz gs), ← xt (isN _)]
    exact k _ _ (PRes.bl gs)
  · cases hF

/-! ### subscripts: the item, borrowed -/
def ixF : List Ent → Option Ent
  | [(n, .list ds), (_, .int i)] => (atI ds i).map fun d => (n - 1, d)
  | [(_, .tuple ds), (_, .int i)] => (atI ds i).map fun d => (0, d)
  | [(_, .str s), (_, .int i)] => if s.length ≤ LIM then (atI s.cps.toList i).map fun c => (0, .str ⟨#[c]⟩) else none
  | _ => none
def rB2 (K : PySem.W.Frag) (F : List Ent → Option Ent) : R2 := fun x y H Q =>
  ∃ (as : List Ent) (G : Hp) (e : Ent), Same G H ∧ BoAll K G H [x, y] as ∧ F as = some e ∧ ∀ v, Bo K G H e.1 v e.2 → Q v H
theorem pair_get {α β : Type} {R : α → β → Prop} : ∀ {xs : List α} {ys : List β} {j : Nat} {y : β}, PySem.Paired R xs ys → ys[j]? = some y → ∃ x, xs[j]? = some x ∧ R x y
  | _, _, _, _, .nil, e => by simp at e
  | _, _, 0, _, .cons r _, e => by simp at e; subst e; exact ⟨_, rfl, r⟩
  | _, _, j + 1, _, .cons _ t, e => by
    obtain ⟨x, h1, h2⟩ := pair_get (j := j) t (by simpa using e)
    exact ⟨x, by simpa using h1, h2⟩
theorem atI_pair {α β : Type} {R : α → β → Prop} {xs : List α} {ys : List β} {i : Int} {y : β} (h : PySem.Paired R xs ys) (e : atI ys i = some y) : ∃ x, atI xs i = some x ∧ R x y := by
  have hl := Paired.length h
  unfold atI at e ⊢
  rw [hl]
  cases q : ixN ys.length i with
  | none => rw [q] at e; cases e
  | some j =>
    rw [q] at e
    exact pair_get h e
theorem ix_rule (c : Cok X p) : IxR X (rB2 p.K ixF) := by
  intro value slice pins s σ H x y v u Q I rx ry q hs
  obtain ⟨as, G, e, gs, b, hF, k⟩ := q
  obtain ⟨⟨n1, d1⟩, ⟨n2, d2⟩, rfl, b1, b2⟩ := bo2 b
  unfold ixF at hF
  split at hF
  · rename_i z1 ds z2 i heq
    injection heq with h1 h2
    injection h2 with h2 _
    cases h1; cases h2
    obtain ⟨d, hd, rfl⟩ := Option.map_eq_some_iff.mp hF
    obtain ⟨a, vs, rfl, ha, r⟩ := bo_listN gs b1
    obtain ⟨w, hw, rw⟩ := atI_pair r hd
    exact ix_list value slice pins s σ H _ y v u Q I rx ry ⟨a, vs, i, w, rfl, bo_int gs b2, .inl ha, hw, k w rw⟩ hs
  · rename_i z1 ds z2 i heq
    injection heq with h1 h2
    injection h2 with h2 _
    cases h1; cases h2
    obtain ⟨d, hd, rfl⟩ := Option.map_eq_some_iff.mp hF
    obtain ⟨a, vs, rfl, ha, r⟩ := bo_tuple gs b1
    obtain ⟨w, hw, rw⟩ := atI_pair (of_rzAll r) hd
    exact ix_tup value slice pins s σ H _ y v u Q I rx ry ⟨a, vs, i, w, rfl, bo_int gs b2, by rw [c.hK]; exact ha, hw, k w rw⟩ hs
  · rename_i z1 z z2 i heq
    injection heq with h1 h2
    injection h2 with h2 _
    cases h1; cases h2
    split at hF
    · rename_i hz
      obtain ⟨d, hd, rfl⟩ := Option.map_eq_some_iff.mp hF
      exact ix_str value slice pins s σ H x y v u Q I rx ry ⟨z, i, d, bo_strv gs b1, bo_int gs b2, by rw [← lim_line]; exact hz, hd, k _ (.str _)⟩ hs
    · cases hF
  · cases hF
end

section
variable {p : Pm} {Wx : WX} {m m1 m2 : Bool} {σ : L2.St} {G H : Hp} {fps : Fps} {ε : Ev}
theorem tB_op2 {F : List Ent → Option Ent} {f g : Ev → Res (Ent × Ev)} {Q : VK} (h : tB p Wx (m1 || m2) (fOp2 F m2 f g) σ H Q) : tOp (rB2 p.K F) (tB p Wx m1 f) (tB p Wx m2 g) σ H Q := by
  have h : tR p Wx ((m1 || m2) || false) (relB p) (fOp2 F m2 f g) σ H Q := by rw [Bool.or_false]; exact h
  have h1 : tA p Wx (m1 || m2) (fCons m2 f (fCons false g fNil)) σ H fun vs H1 => b2 (rB2 p.K F) vs H1 Q := by
    refine tR.bind (m2 := false) (g := fun as ε => match F as with | some e => .ok (e, ε) | none => .bad) (fun _ _ _ _ _ h => h.1) h fun as vs ε1 G G1 H1 fps fps1 r1 rl t s a => ?_
    cases e : F as with
    | none => rw [e] at a; exact a.elim
    | some e' =>
      rw [e] at a
      intro x y ev
      subst ev
      exact ⟨as, G1, e', r1.sub, rl.2, e, fun v hb => a v G1 H1 fps1 [] r1 ⟨rfl, hb⟩ t fun z => s (by simpa using z)⟩
  refine tR.mono (tA_cons h1) fun x H1 h2 => ?_
  have h2 : tA p Wx (m2 || false) (fCons false g fNil) σ H1 (fun xs H2 => b2 (rB2 p.K F) (x :: xs) H2 Q) := by rw [Bool.or_false]; exact h2
  refine tR.mono (tA_cons h2) fun y H2 h3 => ?_
  exact tA_nil h3 x y rfl
/-- only values -/
def only0 (f : Ev → Res (Ent × Ev)) : Ev → Res (Ent × Ev) := fun ε => (f ε).bind fun q => if q.1.1 = 0 then .ok q else .bad
theorem tE_only0 {f : Ev → Res (Ent × Ev)} {Q : VK} (h : tE p Wx m (only0 f) σ H Q) : tB p Wx m f σ H Q := by
  obtain ⟨ε, G, fps, r, a⟩ := h
  unfold only0 at a
  refine ⟨ε, G, fps, r, ?_⟩
  cases e : f ε with
  | ok q =>
    obtain ⟨⟨n, d⟩, ε1⟩ := q
    rw [e] at a
    have a : After p Wx m σ G H fps (relE p) (if n = 0 then .ok ((n, d), ε1) else .bad) Q := a
    by_cases hn : n = 0
    · subst hn
      rw [if_pos rfl] at a
      intro v G' H' fps' fp r' rl t s
      obtain ⟨rfl, rl⟩ := rl
      exact a v G' H' fps' [] r' ⟨rfl, rl⟩ t s
    · rw [if_neg hn] at a; exact a.elim
  | exc x ε1 => rw [e] at a; exact a
  | bad => rw [e] at a; exact a
end
section
variable {X : Cx} {p : Pm} {Wx : WX} {m m1 m2 : Bool} {pos : Pos} {a b : Expr} {f g : Ev → Res (Ent × Ev)}
theorem den_ixB (c : Cok X p) (ha : PE X a (tB p Wx m1 f)) (hb : PE X b (tB p Wx m2 g)) (hs : PlainIx b) : PE X (.Subscript a b pos) (tB p Wx (m1 || m2) (fOp2 ixF m2 f g)) := PE.imp (pe_ix (ix_rule c) ha hb hs) fun _ _ _ => tB_op2
theorem den_only0 (ha : PE X a (tB p Wx m f)) : PE X a (tE p Wx m (only0 f)) := PE.imp ha fun _ _ _ => tE_only0
end
/-! a name, read behind an index that may change other names -/
def ixVR (F : List Ent → Option Ent) (q : Ent) (o : Option (Option Ent)) (ε : Ev) : Res (Ent × Ev) := match o with
  | some (some e) => match F [e, q] with
    | some e' => .ok (e', ε)
    | none => .bad
  | _ => .bad
def fIxV (i : Nat) (F : List Ent → Option Ent) (g : Ev → Res (Ent × Ev)) : Ev → Res (Ent × Ev) := fun ε => match ε[i]? with
  | some (some _) => (g ε).bind fun q => ixVR F q.1 q.2[i]? q.2
  | _ => .bad
section
variable {p : Pm} {Wx : WX} {m m1 m2 : Bool} {σ : L2.St} {G H : Hp} {fps : Fps} {ε : Ev}
theorem tB_ixV {i : Nat} {F : List Ent → Option Ent} {g : Ev → Res (Ent × Ev)} {Q : VK} (h : tB p Wx m (fIxV i F g) σ H Q) : tOp (rB2 p.K F) (tVar i) (tB p Wx m g) σ H Q := by
  obtain ⟨ε, G, fps, r, a⟩ := h
  unfold fIxV at a
  split at a
  · rename_i e he
    obtain ⟨v, hv, _⟩ := r.at' i _ he
    refine ⟨v, hv, ?_⟩
    have h : tR p Wx (m || false) (relB p) (fun ε => (g ε).bind fun q => ixVR F q.1 q.2[i]? q.2) σ H Q := by
      rw [Bool.or_false]
      exact ⟨ε, G, fps, r, a⟩
    refine tR.bind (m2 := false) (g := fun q ε => ixVR F q ε[i]? ε) (fun _ _ _ _ _ h => h.1) h fun b y ε1 G1' G1 H1 fps0 fps1 r1 rl t s a => ?_
    cases e1 : ε1[i]? with
    | none => rw [e1] at a; exact a.elim
    | some o =>
      cases o with
      | none => rw [e1] at a; exact a.elim
      | some e2 =>
        rw [e1] at a
        unfold ixVR at a
        dsimp only at a
        cases hF : F [e2, b] with
        | none => rw [hF] at a; exact a.elim
        | some e' =>
          rw [hF] at a
          obtain ⟨v', hv', ho⟩ := r1.at' i e2 e1
          rw [hv] at hv'
          cases hv'
          exact ⟨[e2, b], G1, e', r1.sub, .cons ho.bo (.cons rl.2 .nil), hF, fun w hw => a w G1 H1 fps1 [] r1 ⟨rfl, hw⟩ t fun z => s (by simpa using z)⟩
  · exact a.elim
end
section
variable {X : Cx} {p : Pm} {Wx : WX} {m m1 m2 : Bool} {pos pos' : Pos} {x : Str} {i : Nat} {b : Expr} {g : Ev → Res (Ent × Ev)}
theorem den_ixV (c : Cok X p) (ha : PE X (.Name x pos') (tVar i)) (hb : PE X b (tB p Wx m g)) (hs : PlainIx b) : PE X (.Subscript (.Name x pos') b pos) (tB p Wx m (fIxV i ixF g)) := PE.imp (pe_ix (ix_rule c) ha hb hs) fun _ _ _ => tB_ixV
end
end Mb
end

section
set_option Elab.async false
set_option linter.all false
set_option maxRecDepth 100000
set_option maxHeartbeats 1000000
/-! Mb11: calls of built-ins on data, slices -/
namespace Mb
open PySem PySem.Spec PyProof.Rows L2

section
variable {X : Cx} {p : Pm}
theorem rzAll_map {K : PySem.W.Frag} {G : Hp} : ∀ {vs : List V} {ds : List D}, RzAll K G vs ds → ∀ {α : Type} (f : α → D) (g : α → V) (h : ∀ v a, Rz K G v (f a) → v = g a) (as : List α), ds = as.map f → vs = as.map g
  | _, _, .nil, _, f, g, h, as, e => by cases as with | nil => rfl | cons a t => cases e
  | _, _, .cons r t, _, f, g, h, as, e => by
    cases as with
    | nil => cases e
    | cons a s =>
      injection e with e1 e2
      subst e1
      rw [h _ _ r, rzAll_map t f g h s e2]
      rfl
theorem map_rz {K : PySem.W.Frag} {G : Hp} {α : Type} (f : α → D) (g : α → V) (h : ∀ a, Rz K G (g a) (f a)) : ∀ as : List α, RzAll K G (as.map g) (as.map f)
  | [] => .nil
  | a :: t => .cons (h a) (map_rz f g h t)
/-- ints, texts, truth values of a row of data -/
def intsOf : List D → Option (List Int)
  | [] => some []
  | .int i :: t => (intsOf t).map (i :: ·)
  | _ :: _ => none
def strsOf : List D → Option (List Str)
  | [] => some []
  | .str i :: t => (strsOf t).map (i :: ·)
  | _ :: _ => none
def boolsOf : List D → Option (List Bool)
  | [] => some []
  | .bool i :: t => (boolsOf t).map (i :: ·)
  | _ :: _ => none
theorem intsOf_eq : ∀ {ds : List D} {ns : List Int}, intsOf ds = some ns → ds = ns.map PyData.int
  | [], _, h => by cases h; rfl
  | d :: t, ns, h => by
    cases d with
    | int i =>
      obtain ⟨r, h1, rfl⟩ := Option.map_eq_some_iff.mp h
      rw [intsOf_eq h1]; rfl
    | _ => cases h
theorem strsOf_eq : ∀ {ds : List D} {ns : List Str}, strsOf ds = some ns → ds = ns.map PyData.str
  | [], _, h => by cases h; rfl
  | d :: t, ns, h => by
    cases d with
    | str i =>
      obtain ⟨r, h1, rfl⟩ := Option.map_eq_some_iff.mp h
      rw [strsOf_eq h1]; rfl
    | _ => cases h
theorem boolsOf_eq : ∀ {ds : List D} {ns : List Bool}, boolsOf ds = some ns → ds = ns.map PyData.bool
  | [], _, h => by cases h; rfl
  | d :: t, ns, h => by
    cases d with
    | bool i =>
      obtain ⟨r, h1, rfl⟩ := Option.map_eq_some_iff.mp h
      rw [boolsOf_eq h1]; rfl
    | _ => cases h
theorem intsOf_map (ns : List Int) : intsOf (ns.map PyData.int) = some ns := by
  induction ns with
  | nil => rfl
  | cons a t ih => show (intsOf (t.map PyData.int)).map _ = _; rw [ih]; rfl
theorem strsOf_map (ns : List Str) : strsOf (ns.map PyData.str) = some ns := by
  induction ns with
  | nil => rfl
  | cons a t ih => show (strsOf (t.map PyData.str)).map _ = _; rw [ih]; rfl
theorem boolsOf_map (ns : List Bool) : boolsOf (ns.map PyData.bool) = some ns := by
  induction ns with
  | nil => rfl
  | cons a t ih => show (boolsOf (t.map PyData.bool)).map _ = _; rw [ih]; rfl
theorem rz_ints {K : PySem.W.Frag} {G : Hp} {vs : List V} {ds : List D} {ns : List Int} (r : RzAll K G vs ds) (e : intsOf ds = some ns) : vs = ns.map V.int :=
  rzAll_map r PyData.int V.int (fun v a h => by cases h; rfl) ns (intsOf_eq e)
theorem rz_strs {K : PySem.W.Frag} {G : Hp} {vs : List V} {ds : List D} {ns : List Str} (r : RzAll K G vs ds) (e : strsOf ds = some ns) : vs = ns.map V.str :=
  rzAll_map r PyData.str V.str (fun v a h => by cases h; rfl) ns (strsOf_eq e)
theorem rz_bools {K : PySem.W.Frag} {G : Hp} {vs : List V} {ds : List D} {ns : List Bool} (r : RzAll K G vs ds) (e : boolsOf ds = some ns) : vs = ns.map V.bl :=
  rzAll_map r PyData.bool V.bl (fun v a h => by cases h; rfl) ns (boolsOf_eq e)

/-- the items of a list or tuple -/
theorem bo_seq {K : PySem.W.Frag} {G H : Hp} {n : Nat} {v : V} {d : D} {ds : List D} (g : Same G H) (h : Bo K G H n v d) (e : (n ≤ 1 ∧ d = .list ds) ∨ d = .tuple ds) : ∃ (a : Addr) (vs : List V), v = .ref a ∧ (SqL K H a vs ∨ SqT K H a vs) ∧ RzAll K G vs ds := by
  rcases e with ⟨hn, rfl⟩ | rfl
  · obtain ⟨a, vs, e1, e2, e3⟩ := bo_list g hn h
    exact ⟨a, vs, e1, .inl (.inl e2), e3⟩
  · obtain ⟨a, vs, e1, e2, e3⟩ := bo_tuple g h
    exact ⟨a, vs, e1, .inr e2, e3⟩
def seqOf : Ent → Option (List D)
  | (n, .list ds) => if n ≤ 1 then some ds else none
  | (_, .tuple ds) => some ds
  | _ => none
theorem seqOf_eq {e : Ent} {ds : List D} (h : seqOf e = some ds) : (e.1 ≤ 1 ∧ e.2 = .list ds) ∨ e.2 = .tuple ds := by
  obtain ⟨n, d⟩ := e
  cases d with
  | list xs =>
    simp only [seqOf] at h
    split at h
    · cases h; rename_i hn; exact .inl ⟨hn, rfl⟩
    · cases h
  | tuple xs => cases h; exact .inr rfl
  | _ => cases h

def lenF : List Ent → Option Ent
  | [(_, .str s)] => if s.length ≤ LIM then some (0, .int s.length) else none
  | [(_, .list ds)] => some (0, .int ds.length)
  | [(_, .tuple ds)] => some (0, .int ds.length)
  | _ => none
theorem call_lenP (c : Cok X p) : CallR X (.builtin "len") (rD p.K lenF) := by
  intro pins s σ H xs us Q I r q
  obtain ⟨as, G, e, gs, b, hF, k⟩ := q
  unfold lenF at hF
  split at hF
  · rename_i n z
    obtain ⟨x, rfl, b1⟩ := boOne b
    split at hF
    · rename_i hz
      cases hF
      exact call_len_str pins s σ H _ us Q I r ⟨z, by rw [bo_strv gs b1], by rw [← lim_line]; exact hz, k _ _ (PRes.here gs (.int _))⟩
    · cases hF
  · rename_i n ds
    obtain ⟨x, rfl, b1⟩ := boOne b
    cases hF
    obtain ⟨a, vs, rfl, ha, rr⟩ := bo_listN gs b1
    exact call_len_seq pins s σ H _ us Q I r ⟨a, vs, rfl, .inl (.inl ha), by rw [Paired.length rr]; exact k _ _ (PRes.here gs (.int _))⟩
  · rename_i n ds
    obtain ⟨x, rfl, b1⟩ := boOne b
    cases hF
    obtain ⟨a, vs, rfl, ha, rr⟩ := bo_tuple gs b1
    exact call_len_seq pins s σ H _ us Q I r ⟨a, vs, rfl, .inr (by rw [c.hK]; exact ha), by rw [rr.length]; exact k _ _ (PRes.here gs (.int _))⟩
  · cases hF
def absF : List Ent → Option Ent
  | [(_, .int i)] => some (0, .int (if i < 0 then -i else i))
  | _ => none
theorem call_absP : CallR X (.builtin "abs") (rD p.K absF) := by
  intro pins s σ H xs us Q I r q
  obtain ⟨as, G, e, gs, b, hF, k⟩ := q
  unfold absF at hF
  split at hF
  · obtain ⟨x, rfl, b1⟩ := boOne b
    cases hF
    exact call_abs pins s σ H _ us Q I r ⟨_, by rw [bo_int gs b1], k _ _ (PRes.here gs (.int _))⟩
  · cases hF
def intFn : List Ent → Option Ent
  | [(_, .int i)] => some (0, .int i)
  | _ => none
theorem call_intP : CallR X (.type "int") (rD p.K intFn) := by
  intro pins s σ H xs us Q I r q
  obtain ⟨as, G, e, gs, b, hF, k⟩ := q
  unfold intFn at hF
  split at hF
  · obtain ⟨x, rfl, b1⟩ := boOne b
    cases hF
    exact call_int1 pins s σ H _ us Q I r (.inl ⟨_, by rw [bo_int gs b1], k _ _ (PRes.here gs (.int _))⟩)
  · cases hF
def strFn : List Ent → Option Ent
  | [(_, .int i)] => if i.natAbs.log2 < 1920 then some (0, .str (toString i)) else none
  | _ => none
theorem call_strP : CallR X (.type "str") (rD p.K strFn) := by
  intro pins s σ H xs us Q I r q
  obtain ⟨as, G, e, gs, b, hF, k⟩ := q
  unfold strFn at hF
  split at hF
  · obtain ⟨x, rfl, b1⟩ := boOne b
    split at hF
    · rename_i hz
      cases hF
      exact call_str_int pins s σ H _ us Q I r ⟨_, by rw [bo_int gs b1], hz, k _ _ (PRes.here gs (.str _))⟩
    · cases hF
  · cases hF
def tupFn : List Ent → Option Ent
  | [(n, .list ds)] => if n ≤ 1 then some (0, .tuple ds) else none
  | [(_, .tuple ds)] => some (0, .tuple ds)
  | _ => none
theorem call_tupP (c : Cok X p) : CallR X (.type "tuple") (rD p.K tupFn) := by
  intro pins s σ H xs us Q I r q
  obtain ⟨as, G, e, gs, b, hF, k⟩ := q
  unfold tupFn at hF
  split at hF
  · obtain ⟨x, rfl, b1⟩ := boOne b
    split at hF
    · rename_i hn
      cases hF
      obtain ⟨a, vs, rfl, ha, rr⟩ := bo_list gs hn b1
      exact call_tuple_of pins s σ H _ us Q I r ⟨a, vs, rfl, .inl ⟨.inl ha, fun l hl => k _ _ (PRes.tup gs hl rr)⟩⟩
    · cases hF
  · obtain ⟨x, rfl, b1⟩ := boOne b
    cases hF
    obtain ⟨a, vs, rfl, ha, rr⟩ := bo_tuple gs b1
    exact call_tuple_of pins s σ H _ us Q I r ⟨a, vs, rfl, .inr ⟨by rw [c.hK]; exact ha, k _ _ (PRes.here gs (bo_tup0 b1))⟩⟩
  · cases hF
def lstFn : List Ent → Option Ent
  | [a] => (seqOf a).map fun ds => (1, .list ds)
  | _ => none
theorem call_lstP (c : Cok X p) : CallR X (.type "list") (rD p.K lstFn) := by
  intro pins s σ H xs us Q I r q
  obtain ⟨as, G, e, gs, b, hF, k⟩ := q
  unfold lstFn at hF
  split at hF
  · obtain ⟨x, rfl, b1⟩ := boOne b
    obtain ⟨ds, hd, rfl⟩ := Option.map_eq_some_iff.mp hF
    obtain ⟨a, vs, rfl, ha, rr⟩ := bo_seq gs b1 (seqOf_eq hd)
    exact call_list_of pins s σ H _ us Q I r ⟨a, vs, rfl, by rw [c.hK]; exact ha, fun l hl => k _ _ (PRes.lst gs hl rr)⟩
  · cases hF
def sumFn : List Ent → Option Ent
  | [(n, .list ds)] => if n ≤ 1 then (intsOf ds).map fun ns => (0, .int ns.sum) else none
  | _ => none
theorem call_sumP (c : Cok X p) : CallR X (.builtin "sum") (rD p.K sumFn) := by
  intro pins s σ H xs us Q I r q
  obtain ⟨as, G, e, gs, b, hF, k⟩ := q
  unfold sumFn at hF
  split at hF
  · obtain ⟨x, rfl, b1⟩ := boOne b
    split at hF
    · rename_i hn
      obtain ⟨ns, hd, rfl⟩ := Option.map_eq_some_iff.mp hF
      obtain ⟨a, vs, rfl, ha, rr⟩ := bo_list gs hn b1
      have e := rz_ints rr hd
      subst e
      exact cr_sum c.calm pins s σ H _ us Q I r ⟨a, ns, rfl, .inl ha, k _ _ (PRes.here gs (.int _))⟩
    · cases hF
  · cases hF
def allFn (any : Bool) : List Ent → Option Ent
  | [(n, .list ds)] => if n ≤ 1 then (boolsOf ds).map fun bs => (0, .bool (if any then bs.any id else bs.all id)) else none
  | _ => none
theorem call_allP (c : Cok X p) : CallR X (.builtin "all") (rD p.K (allFn false)) := by
  intro pins s σ H xs us Q I r q
  obtain ⟨as, G, e, gs, b, hF, k⟩ := q
  unfold allFn at hF
  split at hF
  · obtain ⟨x, rfl, b1⟩ := boOne b
    split at hF
    · rename_i hn
      obtain ⟨ns, hd, rfl⟩ := Option.map_eq_some_iff.mp hF
      obtain ⟨a, vs, rfl, ha, rr⟩ := bo_list gs hn b1
      have e := rz_bools rr hd
      subst e
      exact cr_all c.calm pins s σ H _ us Q I r ⟨a, ns, rfl, .inl ha, k _ _ (PRes.bl gs)⟩
    · cases hF
  · cases hF
theorem call_anyP (c : Cok X p) : CallR X (.builtin "any") (rD p.K (allFn true)) := by
  intro pins s σ H xs us Q I r q
  obtain ⟨as, G, e, gs, b, hF, k⟩ := q
  unfold allFn at hF
  split at hF
  · obtain ⟨x, rfl, b1⟩ := boOne b
    split at hF
    · rename_i hn
      obtain ⟨ns, hd, rfl⟩ := Option.map_eq_some_iff.mp hF
      obtain ⟨a, vs, rfl, ha, rr⟩ := bo_list gs hn b1
      have e := rz_bools rr hd
      subst e
      exact cr_any c.calm pins s σ H _ us Q I r ⟨a, ns, rfl, .inl ha, k _ _ (PRes.bl gs)⟩
    · cases hF
  · cases hF
mutual
theorem noDict_of_plain : ∀ {d : D}, d.plain = true → d.hasDict = false
  | .none, _ => rfl
  | .bool _, _ => rfl
  | .int _, _ => rfl
  | .str _, _ => rfl
  | .list xs, h => noDictAll (xs := xs) (by simpa [PyData.plain] using h)
  | .tuple xs, h => noDictAll (xs := xs) (by simpa [PyData.plain] using h)
  | .dict _, h => by simp [PyData.plain] at h
theorem noDictAll : ∀ {xs : List D}, PyData.plainAll xs = true → PyData.hasDictAll xs = false
  | [], _ => rfl
  | x :: t, h => by
    simp only [PyData.plainAll, Bool.and_eq_true] at h
    show (PyData.hasDict x || PyData.hasDictAll t) = false
    rw [noDict_of_plain h.1, noDictAll h.2]; rfl
end
/-- repr of data -/
def reprFn : List Ent → Option Ent
  | [(_, d)] => if d.plain && d.showable && decide (d.depth ≤ 60) && decide (d.shown.length ≤ LIM) then some (0, .str d.shown) else none
  | _ => none
theorem call_reprP (c : Cok X p) (hg : X.A.guards = some []) : CallR X (.builtin "repr") (rD p.K reprFn) := by
  intro pins s σ H xs us Q I r q
  obtain ⟨as, G, e, gs, b, hF, k⟩ := q
  unfold reprFn at hF
  split at hF
  · rename_i n d
    obtain ⟨x, rfl, b1⟩ := boOne b
    split at hF
    · rename_i hc
      cases hF
      simp only [Bool.and_eq_true, decide_eq_true_eq] at hc
      obtain ⟨⟨⟨h1, h2⟩, h3⟩, h4⟩ := hc
      obtain ⟨u, rfl, rx⟩ := vals1 r
      obtain ⟨as, rd⟩ := reads_bo c I gs b1 rx h1
      have un := c.un
      have fin : ∀ (t : Nat), EP X pins σ Q (.str d.shown t) { s with toks := s.toks + 1 } := fun t => ⟨.str _, H, I.tok _, ⟨_, rfl⟩, k _ _ (PRes.here gs (.str _))⟩
      cases rd with
      | none => exact P.repr_of_none (fin _)
      | bool b => exact P.repr_of_bool (fin _)
      | int i t => exact P.repr_of_int (by simpa [PyData.showable] using h2) (fin _)
      | str x t => exact P.repr_of_str (fin _) (by rw [← lim_line]; exact h4)
      | list e1 e2 e3 e4 =>
        exact repr_of_reads' (Reads.list e1 e2 e3 e4) h2 (fun z => by rw [noDict_of_plain h1] at z; cases z) hg (by omega) (fun _ _ z => z) (fun h' u tk hk => ⟨.str _, H, I.kept hk, ⟨_, rfl⟩, k _ _ (PRes.here gs (.str _))⟩) (by rw [← lim_line]; exact h4)
      | tuple e1 e2 e3 e4 =>
        exact repr_of_reads' (Reads.tuple e1 e2 e3 e4) h2 (fun z => by rw [noDict_of_plain h1] at z; cases z) hg (by omega) (fun _ _ z => z) (fun h' u tk hk => ⟨.str _, H, I.kept hk, ⟨_, rfl⟩, k _ _ (PRes.here gs (.str _))⟩) (by rw [← lim_line]; exact h4)
      | dict _ _ _ _ _ => simp [PyData.plain] at h1
    · cases hF
  · cases hF
end
end Mb
end

section
set_option Elab.async false
set_option linter.all false
set_option maxRecDepth 100000
set_option maxHeartbeats 1000000
/-! Mb12: slices, methods of texts, isinstance, unary minus -/
namespace Mb
open PySem PySem.Spec PyProof.Rows L2

section
variable {X : Cx} {p : Pm}
def cutD (xs : List D) (lo hi : Option Int) : List D := (xs.drop (HT.sIx xs.length 0 lo)).take (HT.sIx xs.length xs.length hi - HT.sIx xs.length 0 lo)
theorem cut_rz {K : PySem.W.Frag} {G : Hp} {vs : List V} {ds : List D} (r : RzAll K G vs ds) (lo hi : Option Int) : RzAll K G (cutV vs lo hi) (cutD ds lo hi) := by
  unfold cutV cutD
  rw [r.length]
  exact (r.drop _).take _
def slF : Ent → Option Int → Option Int → Option Ent
  | (_, .str s), lo, hi => if s.length ≤ LIM then some (0, .str (cutS s lo hi)) else none
  | (n, .list ds), lo, hi => if n ≤ 1 then some (1, .list (cutD ds lo hi)) else none
  | (_, .tuple ds), lo, hi => some (0, .tuple (cutD ds lo hi))
  | _, _, _ => none
def rSlD (K : PySem.W.Frag) (F : Ent → Option Int → Option Int → Option Ent) : V → Option Int → Option Int → Hp → VK → Prop := fun v lo hi H Q =>
  ∃ (a : Ent) (G : Hp) (e : Ent), Same G H ∧ Bo K G H a.1 v a.2 ∧ F a lo hi = some e ∧ ∀ v H', PRes K G H e v H' → Q v H'
theorem okSlD {K : PySem.W.Frag} {F : Ent → Option Int → Option Int → Option Ent} : OkS K (rSlD K F) F := fun G H v a lo hi e Q g b h k => ⟨a, G, e, g, b, h, k⟩
theorem cutD_whole {ds : List D} {lo hi : Option Int} (h : HT.sIx ds.length 0 lo = 0 ∧ HT.sIx ds.length ds.length hi = ds.length) : cutD ds lo hi = ds := by
  unfold cutD
  rw [h.1, h.2]
  simp
theorem sl_rule (c : Cok X p) : SlR X (rSlD p.K slF) := by
  intro pins s σ H x v vl vu lo hi sl Q I rx hs pl pu q
  obtain ⟨a, G, e, gs, b, hF, k⟩ := q
  unfold slF at hF
  split at hF
  · rename_i z0 n z
    split at hF
    · rename_i hz
      cases hF
      exact sl_str pins s σ H x v vl vu _ _ sl Q I rx hs pl pu ⟨z, bo_strv gs b, by rw [← lim_line]; exact hz, k _ _ (PRes.here gs (.str _))⟩
    · cases hF
  · rename_i n ds lo hi
    split at hF
    · rename_i hn
      cases hF
      obtain ⟨a, vs, rfl, ha, rr⟩ := bo_list gs hn b
      exact sl_list pins s σ H _ v vl vu _ _ sl Q I rx hs pl pu ⟨a, vs, rfl, .inl ha, fun q hq => k _ _ (PRes.lst gs hq (cut_rz rr _ _))⟩
    · cases hF
  · rename_i n ds lo hi
    cases hF
    obtain ⟨a, vs, rfl, ha, rr⟩ := bo_tuple gs b
    refine sl_tupA pins s σ H _ v vl vu _ _ sl Q I rx hs pl pu ⟨a, vs, rfl, by rw [c.hK]; exact ha, fun hw => ?_, fun _ q hq => k _ _ (PRes.tup gs hq (cut_rz rr _ _))⟩
    rw [rr.length] at hw
    rw [cutD_whole hw] at k
    exact k _ _ (PRes.here gs (bo_tup0 b))
  · cases hF

/-! ### methods of texts -/
def rM (K : PySem.W.Frag) (F : List Ent → Option Ent) : V → List V → Hp → VK → Prop := fun x xs H Q => ∀ y, xs = [y] → rD K F [x, y] H Q
theorem okM {K : PySem.W.Frag} {F : List Ent → Option Ent} : OkL K (b2 fun x y H Q => rM K F x [y] H Q) F := fun G H vs as e Q g b h k x y ev y' ey => by
  cases ey
  subst ev
  exact ⟨as, G, e, g, b, h, k⟩
def splitF : List Ent → Option Ent
  | [(_, .str a), (_, .str b)] => if b.length ≠ 0 ∧ a.length + 2 ≤ LIM then some (1, .list ((Txt.split a b).map PyData.str)) else none
  | _ => none
theorem one_arg {xs : List V} {us : List Value} (h : Vals xs us) (hl : us.length = 1) : ∃ y, xs = [y] := by
  have := h.length
  cases xs with
  | nil => simp at this; omega
  | cons y t => cases t with
    | nil => exact ⟨y, rfl⟩
    | cons _ _ => simp at this; omega
def rM1 (K : PySem.W.Frag) (F : List Ent → Option Ent) : V → List V → Hp → VK → Prop := fun x xs H Q => ∃ y, xs = [y] ∧ rD K F [x, y] H Q
theorem okM1 {K : PySem.W.Frag} {F : List Ent → Option Ent} : OkL K (b2 fun x y H Q => rM1 K F x [y] H Q) F := fun G H vs as e Q g b h k x y ev => by
  subst ev
  exact ⟨y, rfl, as, G, e, g, b, h, k⟩
theorem mt_splitP : MtR X "str.split" (rM1 p.K splitF) := by
  intro pins s σ H x xs v us Q I rx rs q
  obtain ⟨y, rfl, as, G, e, gs, b, hF, k⟩ := q
  obtain ⟨⟨n1, d1⟩, ⟨n2, d2⟩, rfl, b1, b2⟩ := bo2 b
  unfold splitF at hF
  split at hF
  · rename_i z1 i z2 j heq
    injection heq with h1 h2
    injection h2 with h2 _
    cases h1; cases h2
    split at hF
    · rename_i hc
      cases hF
      exact mt_split pins s σ H x _ v us Q I rx rs ⟨i, j, bo_strv gs b1, by rw [bo_strv gs b2], by simpa using hc.1, by rw [← lim_line]; exact hc.2, fun q hq => k _ _ (PRes.lst gs hq (map_rz PyData.str V.str (fun a => .str a) _))⟩
    · cases hF
  · cases hF
def partF : List Ent → Option Ent
  | [(_, .str a), (_, .str b)] => if b.length ≠ 0 ∧ a.length ≤ LIM then some (0, .tuple [.str (Txt.partition a b).1, .str (Txt.partition a b).2.1, .str (Txt.partition a b).2.2]) else none
  | _ => none
theorem mt_partP : MtR X "str.partition" (rM1 p.K partF) := by
  intro pins s σ H x xs v us Q I rx rs q
  obtain ⟨y, rfl, as, G, e, gs, b, hF, k⟩ := q
  obtain ⟨⟨n1, d1⟩, ⟨n2, d2⟩, rfl, b1, b2⟩ := bo2 b
  unfold partF at hF
  split at hF
  · rename_i z1 i z2 j heq
    injection heq with h1 h2
    injection h2 with h2 _
    cases h1; cases h2
    split at hF
    · rename_i hc
      cases hF
      exact mt_partition pins s σ H x _ v us Q I rx rs ⟨i, j, bo_strv gs b1, by rw [bo_strv gs b2], by simpa using hc.1, by rw [← lim_line]; exact hc.2, fun q hq => k _ _ (PRes.tup gs hq (.cons (.str _) (.cons (.str _) (.cons (.str _) .nil))))⟩
    · cases hF
  · cases hF
def joinF : List Ent → Option Ent
  | [(_, .str a), b] => (seqOf b).bind fun ds => (strsOf ds).bind fun ys => if (ys.map (·.length)).sum + ys.length * a.length ≤ LIM then some (0, .str (Txt.join a ys)) else none
  | _ => none
theorem mt_joinP (c : Cok X p) : MtR X "str.join" (rM1 p.K joinF) := by
  intro pins s σ H x xs v us Q I rx rs q
  obtain ⟨y, rfl, as, G, e, gs, b, hF, k⟩ := q
  obtain ⟨⟨n1, d1⟩, a2, rfl, b1, b2⟩ := bo2 b
  unfold joinF at hF
  split at hF
  · rename_i z1 i b' heq
    injection heq with h1 h2
    injection h2 with h2 _
    cases h1; cases h2
    obtain ⟨ds, hd, hF⟩ := Option.bind_eq_some_iff.mp hF
    obtain ⟨ys, hy, hF⟩ := Option.bind_eq_some_iff.mp hF
    split at hF
    · rename_i hc
      cases hF
      obtain ⟨a, vs, rfl, ha, rr⟩ := bo_seq gs b2 (seqOf_eq hd)
      have ev := rz_strs rr hy
      subst ev
      exact mt_join pins s σ H x _ v us Q I rx rs ⟨i, a, ys, bo_strv gs b1, rfl, by rw [c.hK]; exact ha, hc, k _ _ (PRes.here gs (.str _))⟩
    · cases hF
  · cases hF
/-- -x -/
def negF : Ent → Option Ent
  | (_, .int i) => some (0, .int (-i))
  | _ => none
end

section
variable {X : Cx} {p : Pm} {Wx : WX} {m m1 m2 : Bool} {pos apos cpos : Pos} {a b e o : Expr} {es : List Expr} {f g : Ev → Res (Ent × Ev)} {σ : L2.St} {H : Hp}
def fUn (F : Ent → Option Ent) (f : Ev → Res (Ent × Ev)) : Ev → Res (Ent × Ev) := fun ε => (f ε).bind fun q => match F q.1 with
  | some e => .ok (e, q.2)
  | none => .bad
def OkU (K : PySem.W.Frag) (r : V → Hp → VK → Prop) (F : Ent → Option Ent) : Prop :=
  ∀ (G H : Hp) (v : V) (a e : Ent) (Q : VK), Same G H → Bo K G H a.1 v a.2 → F a = some e → (∀ v H', PRes K G H e v H' → Q v H') → r v H Q
theorem tE_un {r : V → Hp → VK → Prop} {F : Ent → Option Ent} (ok : OkU p.K r F) {Q : VK} (h : tE p Wx m (fUn F f) σ H Q) : tB p Wx m f σ H fun x H1 => r x H1 Q := by
  have h : tR p Wx (m || false) (relE p) (fUn F f) σ H Q := by rw [Bool.or_false]; exact h
  refine tR.bind (m2 := false) (g := fun a ε => match F a with | some e => .ok (e, ε) | none => .bad) (fun _ _ _ _ _ h => h.1) h fun b v ε1 G G1 H1 fps fps1 r1 rl t s a => ?_
  cases e2 : F b with
  | none => rw [e2] at a; exact a.elim
  | some en =>
    rw [e2] at a
    refine ok G1 H1 v b en Q r1.sub rl.2 e2 fun v' H' pr => ?_
    obtain ⟨G', fp, r3, ow, t3, sH⟩ := pr.rel r1
    exact a v' G' H' fps1 fp r3 ow (t.trans t3) fun z => (s (by simpa using z)).trans sH
theorem ok_neg {K : PySem.W.Frag} : OkU K (rU fun i => .int (-i)) negF := by
  intro G H v a e Q g b h k
  obtain ⟨n, d⟩ := a
  cases d with
  | int i => cases h; exact ⟨i, bo_int g b, k _ _ (PRes.here g (.int _))⟩
  | _ => cases h
theorem den_neg (ha : PE X a (tB p Wx m f)) : PE X (.UnaryOp .USub a pos) (tE p Wx m (fUn negF f)) := PE.imp (pe_un un_neg ha) fun _ _ _ => tE_un ok_neg
theorem den_not (hK : X.K = p.K) (ha : PE X a (tB p Wx m f)) : PE X (.UnaryOp .Not a pos) (tE p Wx m (fNot f)) := PE.imp (pe_notT ha) fun _ _ _ h => by rw [hK]; exact tE_not h
/-- f'{x}' -/
def fmtF : Ent → Option Ent
  | (_, .str s) => if s.length ≤ LIM then some (0, .str s) else none
  | (_, .int i) => if i.natAbs.log2 < 1920 then some (0, .str (toString i)) else none
  | _ => none
theorem ok_fmt {K : PySem.W.Frag} : OkU K (fun x H1 Q => (∃ y : Str, x = .str y ∧ y.length ≤ sizeLine ∧ Q (.str y) H1) ∨ ∃ i : Int, x = .int i ∧ i.natAbs.log2 < 1920 ∧ Q (.str (toString i)) H1) fmtF := by
  intro G H v a e Q g b h k
  obtain ⟨n, d⟩ := a
  cases d with
  | int i =>
    simp only [fmtF] at h
    split at h
    · rename_i hz; cases h; exact .inr ⟨i, bo_int g b, hz, k _ _ (PRes.here g (.str _))⟩
    · cases h
  | str i =>
    simp only [fmtF] at h
    split at h
    · rename_i hz; cases h; exact .inl ⟨i, bo_strv g b, by rw [← lim_line]; exact hz, k _ _ (PRes.here g (.str _))⟩
    · cases h
  | _ => cases h
theorem den_fmt (ha : PE X a (tB p Wx m f)) : PE X (.FormattedValue a (-1) none pos) (tE p Wx m (fUn fmtF f)) := PE.imp (pe_fmt ha) fun _ _ _ => tE_un ok_fmt
/-! ### isinstance -/
def isTy (T : String) (d : D) : Option Bool :=
  if T = "str" then some d.isStr else if T = "int" then some d.isInt else if T = "tuple" then some d.isTuple else if T = "bool" then some d.isBool else if T = "list" then some d.isList else none
def isiF (T : String) : Ent → Option Ent := fun a => if a.2.plain = true then (isTy T a.2).map fun b => (0, .bool b) else none
theorem call_isiP (c : Cok X p) (T : String) : CallR X (.builtin "isinstance") (fun xs H Q => ∃ (x : V) (a : Ent) (G : Hp) (e : Ent), xs = [x, .ty T] ∧ Same G H ∧ Bo p.K G H a.1 x a.2 ∧ isiF T a = some e ∧ ∀ v H', PRes p.K G H e v H' → Q v H') := by
  intro pins s σ H xs us Q I r q
  obtain ⟨x, a, G, e, rfl, gs, b, hF, k⟩ := q
  obtain ⟨u, u2, rfl, rx, r2⟩ := vals2 r
  obtain rfl : u2 = Value.type T := r2
  unfold isiF at hF
  split at hF
  · rename_i hp
    obtain ⟨k', hk, rfl⟩ := Option.map_eq_some_iff.mp hF
    obtain ⟨as, rd⟩ := reads_bo c I gs b rx hp
    have fin : ∀ tk, EP X pins σ Q (.bool k') { s with toks := tk } := fun tk => ⟨.bl k', H, I.tok tk, rfl, k _ _ (PRes.bl gs)⟩
    unfold isTy at hk
    split at hk
    · rename_i e; subst e; cases hk; exact PySem.W.isinstance_str_data rd fun tk _ => fin tk
    · split at hk
      · rename_i e; subst e; cases hk; exact PySem.W.isinstance_int_data rd fun tk _ => fin tk
      · split at hk
        · rename_i e; subst e; cases hk; exact PySem.W.isinstance_tuple_data rd fun tk _ => fin tk
        · split at hk
          · rename_i e; subst e; cases hk; exact PySem.W.isinstance_bool_data rd fun tk _ => fin tk
          · split at hk
            · rename_i e; subst e; cases hk; exact PySem.W.isinstance_list_data rd fun tk _ => fin tk
            · cases hk
  · cases hF
theorem den_isi {T : String} {x : Str} {p1 p2 : Pos} (c : Cok X p) (hg : Gl X "isinstance") (hm : X.mg "isinstance" = none) (hgT : Gl X x) (hmT : X.mg x = none) (hvT : bootBuiltins x = some (.type T)) (hv : bootBuiltins "isinstance" = some (.builtin "isinstance"))
    (hnT : x ≠ "__name__") (hdT : (x == ("__debug__" : Str)) = false) (ha : PE X a (tB p Wx m f)) (hs : starEach [a, .Name x p2] X.env = (false, eval a X.env) :: starEach [.Name x p2] X.env) :
    PE X (.Call (.Name "isinstance" p1) [a, .Name x p2] [] pos) (tE p Wx m (fUn (isiF T) f)) := by
  have hT : PE X (.Name x p2) (tC (.ty T)) := pe_bltn hgT hmT hvT rfl hnT hdT
  refine PE.imp (pe_callB (call_isiP c T) hg hm hv (pa_cons ha (pa_cons hT pa_nil) hs) (by decide) (by decide) hs) fun σ H Q h => ?_
  have h1 := tE_un (r := fun v H Q => ∃ (a : Ent) (G : Hp) (e : Ent), Same G H ∧ Bo p.K G H a.1 v a.2 ∧ isiF T a = some e ∧ ∀ v H', PRes p.K G H e v H' → Q v H') (fun G H v a e Q g b h k => ⟨a, G, e, g, b, h, k⟩) h
  refine tR.mono h1 fun x' H' ⟨a', G, e, h2, h3, h4, h5⟩ => ?_
  exact ⟨x', a', G, e, rfl, h2, h3, h4, h5⟩
end

/-! ### a < b < c -/
section
variable {X : Cx} {p : Pm} {Wx : WX} {m : Bool} {pos : Pos} {a b c : Expr} {σ : L2.St} {H : Hp}
def fChain (F F' : List Ent → Option Ent) (f g h : Ev → Res (Ent × Ev)) : Ev → Res (Ent × Ev) := fun ε => (f ε).bind fun x => (g x.2).bind fun y => match F [x.1, y.1] with
  | some (0, .bool k) => if k = true then (h y.2).bind fun w => match F' [y.1, w.1] with
      | some e => .ok (e, w.2)
      | none => .bad
    else .ok ((0, .bool false), y.2)
  | _ => .bad
theorem tE_chain {r r' : R2} {F F' : List Ent → Option Ent} (ok : OkL p.K (b2 r) F) (ok' : OkL p.K (b2 r') F') {f g h : Ev → Res (Ent × Ev)} {Q : VK} (hh : tE p Wx m (fChain F F' f g h) σ H Q) :
    tChain r r' (tB p Wx m f) (tB p Wx false g) (tB p Wx false h) σ H Q := by
  have hh : tR p Wx (m || false) (relE p) (fChain F F' f g h) σ H Q := by rw [Bool.or_false]; exact hh
  refine tR.bind (m2 := false) (g := fun x ε => (g ε).bind fun y => match F [x, y.1] with | some (0, .bool k) => (if k = true then (h y.2).bind fun w => (match F' [y.1, w.1] with | some e => .ok (e, w.2) | none => .bad) else .ok ((0, .bool false), y.2)) | _ => .bad) (fun _ _ _ _ _ h => h.1) hh
    fun x vx ε1 G G1 H1 fps fps1 r1 rlx t s a => ?_
  refine ⟨ε1, G1, fps1, r1, ?_⟩
  cases e : g ε1 with
  | exc z ε2 => rw [e] at a; exact fun cls d G2 H2 fps2 r2 t2 ex => a cls d G2 H2 fps2 r2 (t.trans t2) ex
  | bad => rw [e] at a; exact a
  | ok q =>
    obtain ⟨y, ε2⟩ := q
    rw [e] at a
    intro vy G2 H2 fps2 fp r2 rly t2 s2
    obtain ⟨rfl, rly⟩ := rly
    have bx : Bo p.K G2 H2 x.1 vx x.2 := Bo.same t2.grow (.inr (s2 rfl)) rlx.2
    replace a : After p Wx (m || false) σ G H fps (relE p) (match F [x, y] with | some (0, .bool k) => (if k = true then (h ε2).bind fun w => (match F' [y, w.1] with | some e => .ok (e, w.2) | none => .bad) else .ok ((0, .bool false), ε2)) | _ => .bad) Q := a
    split at a
    · rename_i k hF
      refine ok G2 H2 [vx, vy] [x, y] _ _ r2.sub (.cons bx (.cons rly .nil)) hF (fun z H3 pr => ?_) vx vy rfl
      obtain ⟨G3, fp3, r3, o3, t3, s3⟩ := pr.rel r2
      obtain ⟨rfl, o3⟩ := o3
      cases o3
      refine ⟨k, rfl, ?_⟩
      cases k with
      | false =>
        rw [if_neg Bool.false_ne_true] at a ⊢
        exact a.val r3 (.bl _) ((t.trans t2).trans t3) fun z => ((s (by simpa using z)).trans (s2 rfl)).trans s3
      | true =>
        rw [if_pos rfl] at a ⊢
        refine ⟨ε2, G3, fps2, r3, ?_⟩
        cases e3 : h ε2 with
        | exc z ε3 => rw [e3] at a; exact fun cls d G4 H4 fps4 r4 t4 ex => a cls d G4 H4 fps4 r4 (((t.trans t2).trans t3).trans t4) ex
        | bad => rw [e3] at a; exact a
        | ok q =>
          obtain ⟨w, ε3⟩ := q
          rw [e3] at a
          intro vw G4 H4 fps4 fp r4 rlw t4 s4
          obtain ⟨rfl, rlw⟩ := rlw
          have by' : Bo p.K G4 H4 y.1 vy y.2 := Bo.same (t3.trans t4).grow (.inr (s3.trans (s4 rfl))) rly
          replace a : After p Wx (m || false) σ G H fps (relE p) (match F' [y, w] with | some e => .ok (e, ε3) | none => .bad) Q := a
          split at a
          · rename_i en hF'
            refine ok' G4 H4 [vy, vw] [y, w] en Q r4.sub (.cons by' (.cons rlw .nil)) hF' (fun z H5 pr => ?_) vy vw rfl
            obtain ⟨G5, fp5, r5, o5, t5, s5⟩ := pr.rel r4
            exact a z G5 H5 fps4 fp5 r5 o5 ((((t.trans t2).trans t3).trans t4).trans t5) fun z => ((((s (by simpa using z)).trans (s2 rfl)).trans s3).trans (s4 rfl)).trans s5
          · exact a.elim
    · exact a.elim
theorem den_chain {op op' : CmpOp} {r r' : R2} {F F' : List Ent → Option Ent} {f g h : Ev → Res (Ent × Ev)} (ho : OpR X (compareOp op) r) (ho' : OpR X (compareOp op') r') (ok : OkL p.K (b2 r) F) (ok' : OkL p.K (b2 r') F') (ha : PE X a (tB p Wx m f)) (hb : PE X b (tB p Wx false g)) (hc : PE X c (tB p Wx false h))
    (hm : lastMarks [op, op'] [b, c] = false) : PE X (.Compare a [op, op'] [b, c] pos) (tE p Wx m (fChain F F' f g h)) := PE.imp (pe_chain ho ho' ha hb hc hm) fun _ _ _ => tE_chain ok ok'
theorem den_chainT {op op' : CmpOp} {r r' : R2} {F F' : List Ent → Option Ent} {f g h : Ev → Res (Ent × Ev)} (ho : OpR X (compareOp op) r) (ho' : OpR X (compareOp op') r') (ok : OkL p.K (b2 r) F) (ok' : OkL p.K (b2 r') F') (ha : PE X a (tB p Wx m f)) (hb : PE X b (tB p Wx false g)) (hc : PE X c (tB p Wx false h))
    (hm : lastMarks [op, op'] [b, c] = false) : PT X (.Compare a [op, op'] [b, c] pos) (tT p Wx m (fBool (fChain F F' f g h))) := PT.imp (pt_chain ho ho' ha hb hc hm) fun _ _ _ h => tE_chain ok ok' (tE_bool h)
end
end Mb
end

section
set_option Elab.async false
set_option linter.all false
set_option maxRecDepth 100000
set_option maxHeartbeats 1000000
/-! Mb13: statements -/
namespace Mb
open PySem PySem.Spec PyProof.Rows L2

inductive Fl where
  | next | brk | cont
  | ret (e : Ent)

section
variable {K : PySem.W.Frag} {ε : Ev} {σ : L2.St} {G H : Hp} {fps : Fps} {fp : List Addr}
/-- a temporary is let go -/
theorem Rel.drop (r : Rel K ε σ G H fps fp) : Rel K ε σ G H fps [] where
  len := r.len
  sub := r.sub
  off := fun a w => r.off a (w.elim (fun z => nomatch z) Or.inr)
  nd := r.nd
  dis := r.dis
  tnd := .nil
  tdis := fun _ _ h => nomatch h
  at' := r.at'
theorem Wf.drop {a : Addr} (h : Wf fps [] a) : Wf fps fp a := h.elim (fun z => nomatch z) Or.inr
theorem Tr.drop {G0 H0 : Hp} {W0 : Addr → Prop} (t : Tr G0 H0 W0 G H (Wf fps fp)) : Tr G0 H0 W0 G H (Wf fps []) := ⟨t.keep, t.there, t.grow, t.new, fun a w => t.wnew a w.drop⟩
/-- a temporary becomes a variable's -/
theorem Rel.assign (r : Rel K ε σ G H fps fp) (i : Nat) {e : Ent} {v : V} (o : Ow K G H e.1 v e.2 fp) : Rel K (ε.set i (some e)) (σ.set i (some v)) G H (setF fps i fp) [] where
  len := by rw [List.length_set, List.length_set]; exact r.len
  sub := r.sub
  off := fun a w => by
    rcases w with w | ⟨j, w⟩
    · cases w
    · by_cases e : j = i
      · subst e; rw [setF_same] at w; exact r.off a (.inl w)
      · rw [setF_ne e] at w; exact r.off a (.inr ⟨j, w⟩)
  nd := fun j => by
    by_cases e : j = i
    · subst e; rw [setF_same]; exact r.tnd
    · rw [setF_ne e]; exact r.nd j
  dis := fun j k a h1 h2 => by
    by_cases e : j = i
    · by_cases e' : k = i
      · rw [e, e']
      · subst e; rw [setF_same] at h1; rw [setF_ne e'] at h2; exact absurd h2 (r.tdis k a h1)
    · rw [setF_ne e] at h1
      by_cases e' : k = i
      · subst e'; rw [setF_same] at h2; exact absurd h1 (r.tdis j a h2)
      · rw [setF_ne e'] at h2; exact r.dis j k a h1 h2
  tnd := .nil
  tdis := fun _ _ h => nomatch h
  at' := fun j e' he => by
    by_cases q : j = i
    · subst q
      have hj : j < ε.length := by
        by_cases hj : j < ε.length
        · exact hj
        · rw [List.getElem?_eq_none (by rw [List.length_set]; omega)] at he; cases he
      rw [List.getElem?_set_self hj] at he
      cases he
      rw [setF_same]
      exact ⟨v, List.getElem?_set_self (by rw [r.len]; exact hj), o⟩
    · rw [List.getElem?_set_ne (Ne.symm q)] at he
      obtain ⟨u, h1, h2⟩ := r.at' j e' he
      rw [setF_ne q, List.getElem?_set_ne (Ne.symm q)]
      exact ⟨u, h1, h2⟩
theorem Wf.assign {i : Nat} {a : Addr} (h : Wf (setF fps i fp) [] a) : Wf fps fp a := by
  rcases h with h | ⟨j, h⟩
  · cases h
  · by_cases e : j = i
    · subst e; rw [setF_same] at h; exact .inl h
    · rw [setF_ne e] at h; exact .inr ⟨j, h⟩
theorem Tr.assign {G0 H0 : Hp} {W0 : Addr → Prop} {i : Nat} (t : Tr G0 H0 W0 G H (Wf fps fp)) : Tr G0 H0 W0 G H (Wf (setF fps i fp) []) := ⟨t.keep, t.there, t.grow, t.new, fun a w => t.wnew a w.assign⟩
/-- a variable is forgotten -/
theorem Rel.forget (r : Rel K ε σ G H fps fp) (i : Nat) (o : Option V) : Rel K (ε.set i none) (σ.set i o) G H (setF fps i []) fp where
  len := by rw [List.length_set, List.length_set]; exact r.len
  sub := r.sub
  off := fun a w => by
    rcases w with w | ⟨j, w⟩
    · exact r.off a (.inl w)
    · by_cases e : j = i
      · subst e; rw [setF_same] at w; cases w
      · rw [setF_ne e] at w; exact r.off a (.inr ⟨j, w⟩)
  nd := fun j => by
    by_cases e : j = i
    · subst e; rw [setF_same]; exact .nil
    · rw [setF_ne e]; exact r.nd j
  dis := fun j k a h1 h2 => by
    by_cases e : j = i
    · subst e; rw [setF_same] at h1; cases h1
    · rw [setF_ne e] at h1
      by_cases e' : k = i
      · subst e'; rw [setF_same] at h2; cases h2
      · rw [setF_ne e'] at h2; exact r.dis j k a h1 h2
  tnd := r.tnd
  tdis := fun j a h => by
    by_cases e : j = i
    · subst e; rw [setF_same]; exact fun z => nomatch z
    · rw [setF_ne e]; exact r.tdis j a h
  at' := fun j e' he => by
    by_cases q : j = i
    · subst q
      by_cases hj : j < ε.length
      · rw [List.getElem?_set_self hj] at he; cases he
      · rw [List.getElem?_eq_none (by rw [List.length_set]; omega)] at he; cases he
    · rw [List.getElem?_set_ne (Ne.symm q)] at he
      obtain ⟨u, h1, h2⟩ := r.at' j e' he
      rw [setF_ne q, List.getElem?_set_ne (Ne.symm q)]
      exact ⟨u, h1, h2⟩
theorem Wf.forget {i : Nat} {a : Addr} (h : Wf (setF fps i []) fp a) : Wf fps fp a := by
  rcases h with h | ⟨j, h⟩
  · exact .inl h
  · by_cases e : j = i
    · subst e; rw [setF_same] at h; cases h
    · rw [setF_ne e] at h; exact .inr ⟨j, h⟩
end

/-! ### readings of statements -/
section
variable (p : Pm) (Wx : WX) (fx : List Nat)
def Fixed (fx : List Nat) (σ σ' : L2.St) : Prop := ∀ i ∈ fx, σ'[i]? = σ[i]?
def AfterS (σ : L2.St) (G H : Hp) (fps : Fps) (r : Res (Fl × Ev)) (D : Ends) : Prop := match r with
  | .ok (.next, ε') => ∀ (σ' : L2.St) (G' H' : Hp) (fps' : Fps), Rel p.K ε' σ' G' H' fps' [] → Tr G H (Wf fps []) G' H' (Wf fps' []) → Fixed fx σ σ' → D.nx σ' H'
  | .ok (.brk, ε') => ∀ (σ' : L2.St) (G' H' : Hp) (fps' : Fps), Rel p.K ε' σ' G' H' fps' [] → Tr G H (Wf fps []) G' H' (Wf fps' []) → Fixed fx σ σ' → D.bk σ' H'
  | .ok (.cont, ε') => ∀ (σ' : L2.St) (G' H' : Hp) (fps' : Fps), Rel p.K ε' σ' G' H' fps' [] → Tr G H (Wf fps []) G' H' (Wf fps' []) → Fixed fx σ σ' → D.ct σ' H'
  | .ok (.ret e, ε') => ∀ (v : V) (σ' : L2.St) (G' H' : Hp) (fps' : Fps) (fp : List Addr), Rel p.K ε' σ' G' H' fps' fp → Ow p.K G' H' e.1 v e.2 fp → Tr G H (Wf fps []) G' H' (Wf fps' fp) → Fixed fx σ σ' → D.rt v H'
  | .exc x ε' => ∀ (cls : Value) (d : Option Addr) (σ' : L2.St) (G' H' : Hp) (fps' : Fps), Rel p.K ε' σ' G' H' fps' [] → Tr G H (Wf fps []) G' H' (Wf fps' []) → Fixed fx σ σ' → ExcAt p x cls d H' → Wx cls d σ' H'
  | .bad => False
def tS (g : Ev → Res (Fl × Ev)) : TS := fun D σ H => ∃ (ε : Ev) (G : Hp) (fps : Fps), Rel p.K ε σ G H fps [] ∧ AfterS p Wx fx σ G H fps (g ε) D
end
theorem PS.imp {X : Cx} {st : Stmt} {t t' : TS} (h : PS X st t) (i : ∀ D σ H, t' D σ H → t D σ H) : PS X st t' := ⟨fun pins s σ H D I q => h.run pins s σ H D I (i D σ H q)⟩
theorem PSs.imp {X : Cx} {st : List Stmt} {t t' : TS} (h : PSs X st t) (i : ∀ D σ H, t' D σ H → t D σ H) : PSs X st t' := ⟨fun pins s σ H D I q => h.run pins s σ H D I (i D σ H q)⟩
section
variable {p : Pm} {Wx : WX} {m m1 m2 : Bool} {σ σ1 : L2.St} {G H G1 H1 : Hp} {fps fps1 : Fps} {ε : Ev} {fx : List Nat} {D : Ends}
theorem Fixed.refl : Fixed fx σ σ := fun _ _ => rfl
theorem Fixed.trans {σ2 : L2.St} (a : Fixed fx σ σ1) (b : Fixed fx σ1 σ2) : Fixed fx σ σ2 := fun i h => (b i h).trans (a i h)
theorem Fixed.set {i : Nat} {o : Option V} (h : i ∉ fx) : Fixed fx σ (σ.set i o) := fun j hj => by
  have : j ≠ i := fun e => h (e ▸ hj)
  rw [List.getElem?_set_ne (Ne.symm this)]
/-- from a later place -/
theorem AfterS.later {r : Res (Fl × Ev)} (t : Tr G H (Wf fps []) G1 H1 (Wf fps1 [])) (f : Fixed fx σ σ1) (a : AfterS p Wx fx σ G H fps r D) : AfterS p Wx fx σ1 G1 H1 fps1 r D := by
  cases r with
  | ok q =>
    obtain ⟨fl, ε'⟩ := q
    cases fl with
    | next => exact fun σ' G' H' fps' r' t' f' => a σ' G' H' fps' r' (t.trans t') (f.trans f')
    | brk => exact fun σ' G' H' fps' r' t' f' => a σ' G' H' fps' r' (t.trans t') (f.trans f')
    | cont => exact fun σ' G' H' fps' r' t' f' => a σ' G' H' fps' r' (t.trans t') (f.trans f')
    | ret e => exact fun v σ' G' H' fps' fp r' o t' f' => a v σ' G' H' fps' fp r' o (t.trans t') (f.trans f')
  | exc x ε' => exact fun cls d σ' G' H' fps' r' t' f' => a cls d σ' G' H' fps' r' (t.trans t') (f.trans f')
  | bad => exact a
/-- one statement behind the other -/
def fSeq (f g : Ev → Res (Fl × Ev)) : Ev → Res (Fl × Ev) := fun ε => match f ε with
  | .ok (.next, ε1) => g ε1
  | r => r
theorem tS_seq {f g : Ev → Res (Fl × Ev)} (h : tS p Wx fx (fSeq f g) D σ H) : tSeq (tS p Wx fx f) (tS p Wx fx g) D σ H := by
  obtain ⟨ε, G, fps, r, a⟩ := h
  unfold fSeq at a
  refine ⟨ε, G, fps, r, ?_⟩
  cases e : f ε with
  | ok q =>
    obtain ⟨fl, ε1⟩ := q
    rw [e] at a
    cases fl with
    | next => exact fun σ1 G1 H1 fps1 r1 t f => ⟨ε1, G1, fps1, r1, a.later t f⟩
    | brk => exact a
    | cont => exact a
    | ret e => exact a
  | exc x ε1 => rw [e] at a; exact a
  | bad => rw [e] at a; exact a
def fNext : Ev → Res (Fl × Ev) := fun ε => .ok (.next, ε)
theorem tS_next (h : tS p Wx fx fNext D σ H) : tNext D σ H := by
  obtain ⟨ε, G, fps, r, a⟩ := h
  exact a σ G H fps r Tr.refl Fixed.refl
def fBrk : Ev → Res (Fl × Ev) := fun ε => .ok (.brk, ε)
theorem tS_brk (h : tS p Wx fx fBrk D σ H) : tBreak D σ H := by
  obtain ⟨ε, G, fps, r, a⟩ := h
  exact a σ G H fps r Tr.refl Fixed.refl
def fCont : Ev → Res (Fl × Ev) := fun ε => .ok (.cont, ε)
theorem tS_cont (h : tS p Wx fx fCont D σ H) : tCont D σ H := by
  obtain ⟨ε, G, fps, r, a⟩ := h
  exact a σ G H fps r Tr.refl Fixed.refl
/-- a value, then a statement's end made of it -/
theorem tS_val {α β : Type} {rel : α → β → Hp → Hp → List Addr → Prop} {f : Ev → Res (β × Ev)} {k : β → Ev → Res (Fl × Ev)} {R : α → Hp → Prop} (h : tS p Wx fx (fun ε => (f ε).bind fun q => k q.1 q.2) D σ H)
    (i : ∀ (v : α) (b : β) (ε1 : Ev) (G G1 H1 : Hp) (fps fps1 : Fps) (fp : List Addr), Rel p.K ε1 σ G1 H1 fps1 fp → rel v b G1 H1 fp → Tr G H (Wf fps []) G1 H1 (Wf fps1 fp) → AfterS p Wx fx σ G H fps (k b ε1) D → R v H1) : tR p Wx m rel f σ H R := by
  obtain ⟨ε, G, fps, r, a⟩ := h
  dsimp only at a
  refine ⟨ε, G, fps, r, ?_⟩
  cases e : f ε with
  | ok q =>
    obtain ⟨b, ε1⟩ := q
    rw [e] at a
    exact fun v G1 H1 fps1 fp r1 o t s => i v b ε1 G G1 H1 fps fps1 fp r1 o t a
  | exc x ε1 => rw [e] at a; exact fun cls d G1 H1 fps1 r1 t ex => a cls d σ G1 H1 fps1 r1 t Fixed.refl ex
  | bad => rw [e] at a; exact a
/-- name = e -/
def fAsg (fx : List Nat) (i : Nat) (f : Ev → Res (Ent × Ev)) : Ev → Res (Fl × Ev) := fun ε => (f ε).bind fun q => if fx.contains i then .bad else .ok (.next, q.2.set i (some q.1))
theorem not_fx {i : Nat} (h : ¬ fx.contains i = true) : i ∉ fx := fun z => h (by simpa using z)
theorem tS_asg {i : Nat} {f : Ev → Res (Ent × Ev)} (h : tS p Wx fx (fAsg fx i f) D σ H) : tAsg (tE p Wx m f) (gName i) D σ H := by
  refine tS_val (k := fun e ε => if fx.contains i then .bad else .ok (.next, ε.set i (some e))) h fun v b ε1 G G1 H1 fps fps1 fp r1 o t a => ?_
  by_cases c : fx.contains i = true
  · rw [if_pos c] at a; exact a.elim
  · rw [if_neg c] at a
    exact a _ G1 H1 _ (r1.assign i o) t.assign (Fixed.set (not_fx c))
/-- e alone -/
def fExpr (f : Ev → Res (Ent × Ev)) : Ev → Res (Fl × Ev) := fun ε => (f ε).bind fun q => .ok (.next, q.2)
theorem tS_expr {f : Ev → Res (Ent × Ev)} (h : tS p Wx fx (fExpr f) D σ H) : tDrop (tE p Wx m f) D σ H := by
  refine tS_val (k := fun e ε => .ok (.next, ε)) h fun v b ε1 G G1 H1 fps fps1 fp r1 o t a => ?_
  exact a σ G1 H1 fps1 r1.drop t.drop Fixed.refl
/-- return e -/
def fRet (f : Ev → Res (Ent × Ev)) : Ev → Res (Fl × Ev) := fun ε => (f ε).bind fun q => .ok (.ret q.1, q.2)
theorem tS_ret {f : Ev → Res (Ent × Ev)} (h : tS p Wx fx (fRet f) D σ H) : tRet (tE p Wx m f) D σ H := by
  refine tS_val (k := fun e ε => .ok (.ret e, ε)) h fun v b ε1 G G1 H1 fps fps1 fp r1 o t a => ?_
  exact a v σ G1 H1 fps1 fp r1 o t Fixed.refl
/-- return x: the variable's own is handed out -/
def fRetV (fx : List Nat) (i : Nat) : Ev → Res (Fl × Ev) := fun ε => if fx.contains i then .bad else match ε[i]? with
  | some (some e) => .ok (.ret e, ε.set i none)
  | _ => .bad
theorem Rel.moveOut {K : PySem.W.Frag} {i : Nat} {e : Ent} (r : Rel K ε σ G H fps []) (h : ε[i]? = some (some e)) : ∃ v, σ[i]? = some (some v) ∧ Rel K (ε.set i none) σ G H (setF fps i []) (fps i) ∧ Ow K G H e.1 v e.2 (fps i) := by
  obtain ⟨v, hv, o⟩ := r.at' i e h
  have r2 := r.forget i (some v)
  have hs : σ.set i (some v) = σ := by
    refine List.ext_getElem? fun j => ?_
    by_cases q : j = i
    · subst q
      rw [List.getElem?_set_self (by exact (List.getElem?_eq_some_iff.mp hv).1), hv]
    · rw [List.getElem?_set_ne (Ne.symm q)]
  rw [hs] at r2
  refine ⟨v, hv, ⟨r2.len, r2.sub, fun a w => ?_, r2.nd, r2.dis, r.nd i, fun j a ha hj => ?_, r2.at'⟩, o⟩
  · rcases w with w | w
    · exact r.off a (.inr ⟨i, w⟩)
    · exact r2.off a (.inr w)
  · by_cases q : j = i
    · subst q; rw [setF_same] at hj; cases hj
    · rw [setF_ne q] at hj; exact q (r.dis j i a hj ha)
theorem tS_retV {i : Nat} (h : tS p Wx fx (fRetV fx i) D σ H) : tRet (tVar i) D σ H := by
  obtain ⟨ε, G, fps, r, a⟩ := h
  unfold fRetV at a
  by_cases c : fx.contains i = true
  · rw [if_pos c] at a; exact a.elim
  · rw [if_neg c] at a
    cases e : ε[i]? with
    | none => rw [e] at a; exact a.elim
    | some o =>
      cases o with
      | none => rw [e] at a; exact a.elim
      | some en =>
        rw [e] at a
        obtain ⟨v, hv, r2, ow⟩ := r.moveOut e
        refine ⟨v, hv, a v σ G H _ _ r2 ow ⟨fun _ _ h _ => h, fun _ h => h, Same.refl G, fun _ h => .inl h, fun b w => ?_⟩ Fixed.refl⟩
        rcases w with w | ⟨j, w⟩
        · exact .inl (.inr ⟨i, w⟩)
        · by_cases q : j = i
          · subst q; rw [setF_same] at w; cases w
          · rw [setF_ne q] at w; exact .inl (.inr ⟨j, w⟩)
def fRetN : Ev → Res (Fl × Ev) := fun ε => .ok (.ret (0, .none), ε)
theorem tS_retN (h : tS p Wx fx fRetN D σ H) : tRetN D σ H := by
  obtain ⟨ε, G, fps, r, a⟩ := h
  exact a .non σ G H fps [] r ⟨rfl, .non⟩ Tr.refl Fixed.refl
/-- if -/
def fIfS (c : Ev → Res (Bool × Ev)) (f g : Ev → Res (Fl × Ev)) : Ev → Res (Fl × Ev) := fun ε => (c ε).bind fun q => if q.1 = true then f q.2 else g q.2
theorem tS_if {c : Ev → Res (Bool × Ev)} {f g : Ev → Res (Fl × Ev)} (h : tS p Wx fx (fIfS c f g) D σ H) : tIfS (tT p Wx m c) (tS p Wx fx f) (tS p Wx fx g) D σ H := by
  refine tS_val (k := fun b ε => if b = true then f ε else g ε) h fun v b ε1 G G1 H1 fps fps1 fp r1 o t a => ?_
  obtain ⟨rfl, rfl⟩ := o
  cases v with
  | true => rw [if_pos rfl] at a ⊢; exact ⟨ε1, G1, fps1, r1, a.later t Fixed.refl⟩
  | false => rw [if_neg Bool.false_ne_true] at a ⊢; exact ⟨ε1, G1, fps1, r1, a.later t Fixed.refl⟩
/-- a, b, c = a tuple -/
def setAll : List Nat → List PyData → Ev → Ev
  | i :: is, d :: ds, ε => setAll is ds (ε.set i (some (0, d)))
  | _, _, ε => ε
def setAllV : List Nat → List V → L2.St → L2.St
  | i :: is, d :: ds, ε => setAllV is ds (ε.set i (some d))
  | _, _, ε => ε
theorem Rel.assignVal {K : PySem.W.Frag} (r : Rel K ε σ G H fps []) (i : Nat) {d : PyData} {v : V} (h : Rz K G v d) : Rel K (ε.set i (some (0, d))) (σ.set i (some v)) G H (setF fps i []) [] :=
  Rel.assign (e := (0, d)) r i ⟨rfl, h⟩
theorem Rel.setAll {K : PySem.W.Frag} : ∀ (is : List Nat) {ds : List PyData} {vs : List V} {ε : Ev} {σ : L2.St} {fps : Fps}, Rel K ε σ G H fps [] → RzAll K G vs ds →
    ∃ fps', Rel K (Mb.setAll is ds ε) (setAllV is vs σ) G H fps' [] ∧ (∀ a, Wf fps' [] a → Wf fps [] a)
  | [], _, _, _, _, fps, r, _ => ⟨fps, r, fun _ h => h⟩
  | i :: is, [], [], _, _, fps, r, .nil => ⟨fps, r, fun _ h => h⟩
  | i :: is, d :: ds, v :: vs, ε, σ, fps, r, .cons h t => by
    obtain ⟨fps', r', w⟩ := Rel.setAll is (r.assignVal i h) t
    exact ⟨fps', r', fun a ha => (w a ha).assign⟩
theorem Fixed.setAll {fx : List Nat} : ∀ (is : List Nat) (vs : List V) (σ : L2.St), (∀ i ∈ is, i ∉ fx) → Fixed fx σ (setAllV is vs σ)
  | [], _, _, _ => fun _ _ => rfl
  | i :: is, [], _, _ => fun _ _ => rfl
  | i :: is, v :: vs, σ, h => (Fixed.set (h i List.mem_cons_self)).trans (Fixed.setAll is vs _ fun j hj => h j (List.mem_cons_of_mem _ hj))
def gSet : List Nat → TGs
  | [] => gNil
  | i :: is => gCons (gName i) (gSet is)
theorem gSet_of : ∀ (is : List Nat) (vs : List V) (σ : L2.St) (H : Hp) (Q : L2.St → Hp → Prop), vs.length = is.length → Q (setAllV is vs σ) H → gSet is vs σ H Q
  | [], [], σ, H, Q, _, h => ⟨rfl, h⟩
  | [], _ :: _, _, _, _, hl, _ => by cases hl
  | i :: is, [], _, _, _, hl, _ => by cases hl
  | i :: is, v :: vs, σ, H, Q, hl, h => ⟨v, vs, rfl, gSet_of is vs _ H Q (Nat.succ.inj hl) h⟩
def fAsgT (fx : List Nat) (is : List Nat) (f : Ev → Res (Ent × Ev)) : Ev → Res (Fl × Ev) := fun ε => (f ε).bind fun q => match q.1 with
  | (0, .tuple ds) => if ds.length = is.length ∧ is.all (fun i => !fx.contains i) = true then .ok (.next, setAll is ds q.2) else .bad
  | _ => .bad
theorem tS_asgT {is : List Nat} {f : Ev → Res (Ent × Ev)} (h : tS p Wx fx (fAsgT fx is f) D σ H) : tAsg (tE p Wx m f) (gTup p.K is.length (gSet is)) D σ H := by
  refine tS_val (k := fun e ε => match e with | (0, .tuple ds) => if ds.length = is.length ∧ is.all (fun i => !fx.contains i) = true then .ok (.next, setAll is ds ε) else .bad | _ => .bad) h fun v b ε1 G G1 H1 fps fps1 fp r1 o t a => ?_
  obtain ⟨n, d⟩ := b
  cases n with
  | succ n => exact a.elim
  | zero =>
    obtain ⟨rfl, o⟩ := o
    cases d with
    | tuple ds =>
      have a : AfterS p Wx fx σ G H fps (if ds.length = is.length ∧ is.all (fun i => !fx.contains i) = true then .ok (.next, setAll is ds ε1) else .bad) D := a
      by_cases c : ds.length = is.length ∧ is.all (fun i => !fx.contains i) = true
      · rw [if_pos c] at a
        cases o with
        | tup hs rr =>
          have hl : _ = is.length := rr.length.trans c.1
          refine ⟨_, _, rfl, same_sqt r1.sub hs, hl, gSet_of is _ σ H1 _ hl ?_⟩
          obtain ⟨fps', r', w⟩ := r1.setAll is rr
          refine a _ G1 H1 fps' r' ⟨t.keep, t.there, t.grow, t.new, fun b hb => t.wnew b (w b hb)⟩ (Fixed.setAll is _ σ fun i hi => ?_)
          have := List.all_eq_true.mp c.2 i hi
          exact not_fx (by simpa using this)
      · rw [if_neg c] at a; exact a.elim
    | _ => exact a.elim
end
end Mb
end

section
set_option Elab.async false
set_option linter.all false
set_option maxRecDepth 100000
set_option maxHeartbeats 1000000
/-! Mb14: while and for -/
namespace Mb
open PySem PySem.Spec PyProof.Rows L2

/-! ### while -/
def whN (c : Ev → Res (Bool × Ev)) (b : Ev → Res (Fl × Ev)) : Nat → Ev → Option (Res (Fl × Ev))
  | 0, _ => none
  | n + 1, ε => match c ε with
    | .ok (true, ε1) => match b ε1 with
      | .ok (.next, ε2) => whN c b n ε2
      | .ok (.cont, ε2) => whN c b n ε2
      | .ok (.brk, ε2) => some (.ok (.next, ε2))
      | r => some r
    | .ok (false, ε1) => some (.ok (.next, ε1))
    | .exc x e => some (.exc x e)
    | .bad => some .bad
theorem whN_succ {c : Ev → Res (Bool × Ev)} {b : Ev → Res (Fl × Ev)} : ∀ {n : Nat} {ε : Ev} {r : Res (Fl × Ev)}, whN c b n ε = some r → whN c b (n + 1) ε = some r
  | 0, _, _, h => by cases h
  | n + 1, ε, r, h => by
    rw [whN] at h ⊢
    cases e : c ε with
    | ok q =>
      obtain ⟨k, ε1⟩ := q
      rw [e] at h
      cases k with
      | false => exact h
      | true =>
        dsimp only at h ⊢
        cases e2 : b ε1 with
        | ok q =>
          obtain ⟨fl, ε2⟩ := q
          rw [e2] at h
          cases fl with
          | next => exact whN_succ h
          | cont => exact whN_succ h
          | brk => exact h
          | ret e => exact h
        | exc x e' => rw [e2] at h; exact h
        | bad => rw [e2] at h; exact h
    | exc x e' => rw [e] at h; exact h
    | bad => rw [e] at h; exact h
theorem whN_le {c : Ev → Res (Bool × Ev)} {b : Ev → Res (Fl × Ev)} {n k : Nat} {ε : Ev} {r : Res (Fl × Ev)} (h : whN c b n ε = some r) : whN c b (n + k) ε = some r := by
  induction k with
  | zero => exact h
  | succ k ih => exact whN_succ ih
theorem whN_one {c : Ev → Res (Bool × Ev)} {b : Ev → Res (Fl × Ev)} {n k : Nat} {ε : Ev} {r r' : Res (Fl × Ev)} (h : whN c b n ε = some r) (h' : whN c b k ε = some r') : r = r' := by
  have h1 := whN_le (k := k) h
  have h2 := whN_le (k := n) h'
  rw [Nat.add_comm k n] at h2
  rw [h1] at h2
  exact Option.some.inj h2
open Classical in
noncomputable def fWh (c : Ev → Res (Bool × Ev)) (b : Ev → Res (Fl × Ev)) : Ev → Res (Fl × Ev) := fun ε => if h : ∃ r n, whN c b n ε = some r then h.choose else .bad
theorem fWh_of {c : Ev → Res (Bool × Ev)} {b : Ev → Res (Fl × Ev)} {n : Nat} {ε : Ev} {r : Res (Fl × Ev)} (h : whN c b n ε = some r) : fWh c b ε = r := by
  have hx : ∃ r n, whN c b n ε = some r := ⟨r, n, h⟩
  unfold fWh
  rw [dif_pos hx]
  obtain ⟨k, e⟩ := hx.choose_spec
  exact whN_one e h
theorem fWh_or (c : Ev → Res (Bool × Ev)) (b : Ev → Res (Fl × Ev)) (ε : Ev) : fWh c b ε = .bad ∨ ∃ n, whN c b n ε = some (fWh c b ε) := by
  by_cases hx : ∃ r n, whN c b n ε = some r
  · obtain ⟨r, n, h⟩ := hx
    exact .inr ⟨n, by rw [fWh_of h]; exact h⟩
  · left; unfold fWh; rw [dif_neg hx]
/-- one turn -/
theorem fWh_eq (c : Ev → Res (Bool × Ev)) (b : Ev → Res (Fl × Ev)) (ε : Ev) : fWh c b ε = match c ε with
    | .ok (true, ε1) => match b ε1 with
      | .ok (.next, ε2) => fWh c b ε2
      | .ok (.cont, ε2) => fWh c b ε2
      | .ok (.brk, ε2) => .ok (.next, ε2)
      | r => r
    | .ok (false, ε1) => .ok (.next, ε1)
    | .exc x e => .exc x e
    | .bad => .bad := by
  have step : ∀ {ε2 : Ev}, (∀ n, whN c b (n + 1) ε = whN c b n ε2) → fWh c b ε = fWh c b ε2 := fun {ε2} h => by
    rcases fWh_or c b ε2 with e | ⟨n, e⟩
    · rcases fWh_or c b ε with e' | ⟨n, e'⟩
      · rw [e, e']
      · cases n with
        | zero => cases e'
        | succ n => rw [h n] at e'; exact (fWh_of e').symm
    · rw [← h n] at e
      exact fWh_of e
  cases e : c ε with
  | ok q =>
    obtain ⟨k, ε1⟩ := q
    cases k with
    | false => exact fWh_of (n := 1) (by rw [whN, e])
    | true =>
      dsimp only
      cases e2 : b ε1 with
      | ok q =>
        obtain ⟨fl, ε2⟩ := q
        cases fl with
        | next => exact step fun n => by rw [whN, e]; dsimp only; rw [e2]
        | cont => exact step fun n => by rw [whN, e]; dsimp only; rw [e2]
        | brk => exact fWh_of (n := 1) (by rw [whN, e]; dsimp only; rw [e2])
        | ret e9 => exact fWh_of (n := 1) (by rw [whN, e]; dsimp only; rw [e2])
      | exc x e' => exact fWh_of (n := 1) (by rw [whN, e]; dsimp only; rw [e2])
      | bad => exact fWh_of (n := 1) (by rw [whN, e]; dsimp only; rw [e2])
  | exc x e' => exact fWh_of (n := 1) (by rw [whN, e])
  | bad => exact fWh_of (n := 1) (by rw [whN, e])

section
variable {p : Pm} {Wx : WX} {m m1 m2 : Bool} {σ σ1 : L2.St} {G H G1 H1 : Hp} {fps fps1 : Fps} {ε : Ev} {fx : List Nat} {D : Ends}
theorem tS_while {c : Ev → Res (Bool × Ev)} {b : Ev → Res (Fl × Ev)} (h : tS p Wx fx (fWh c b) D σ H) : tWhile (tT p Wx m c) (tS p Wx fx b) D σ H := by
  obtain ⟨ε, G, fps, r, a⟩ := h
  rcases fWh_or c b ε with e | ⟨n0, e0⟩
  · rw [e] at a; exact a.elim
  generalize fWh c b ε = r0 at a e0
  refine ⟨fun n σ1 H1 => ∃ (ε1 : Ev) (G1 : Hp) (fps1 : Fps), Rel p.K ε1 σ1 G1 H1 fps1 [] ∧ Tr G H (Wf fps []) G1 H1 (Wf fps1 []) ∧ Fixed fx σ σ1 ∧ whN c b n ε1 = some r0, ⟨n0, ε, G, fps, r, Tr.refl, Fixed.refl, e0⟩, ?_⟩
  rintro n σ1 H1 ⟨ε1, G1, fps1, r1, t1, f1, e1⟩
  cases n with
  | zero => cases e1
  | succ n =>
    have a1 : AfterS p Wx fx σ1 G1 H1 fps1 r0 D := a.later t1 f1
    refine ⟨ε1, G1, fps1, r1, ?_⟩
    rw [whN] at e1
    cases ec : c ε1 with
    | ok q =>
      obtain ⟨k, ε2⟩ := q
      rw [ec] at e1
      intro k' G2 H2 fps2 fp r2 rl t2 s2
      obtain ⟨rfl, rfl⟩ := rl
      cases k' with
      | false =>
        rw [if_neg Bool.false_ne_true]
        cases e1
        exact a1 σ1 G2 H2 fps2 r2 t2 Fixed.refl
      | true =>
        rw [if_pos rfl]
        dsimp only at e1
        refine ⟨fun σ' H' => ∃ n', n' < n + 1 ∧ ∃ (ε1 : Ev) (G1 : Hp) (fps1 : Fps), Rel p.K ε1 σ' G1 H' fps1 [] ∧ Tr G H (Wf fps []) G1 H' (Wf fps1 []) ∧ Fixed fx σ σ' ∧ whN c b n' ε1 = some r0, fun σ' H' h => h, ε2, G2, fps2, r2, ?_⟩
        cases eb : b ε2 with
        | ok q =>
          obtain ⟨fl, ε3⟩ := q
          rw [eb] at e1
          cases fl with
          | next => exact fun σ' G' H' fps' r' t' f' => ⟨n, Nat.lt_succ_self n, ε3, G', fps', r', (t1.trans t2).trans t', f1.trans f', e1⟩
          | cont => exact fun σ' G' H' fps' r' t' f' => ⟨n, Nat.lt_succ_self n, ε3, G', fps', r', (t1.trans t2).trans t', f1.trans f', e1⟩
          | brk => cases e1; exact fun σ' G' H' fps' r' t' f' => a1 σ' G' H' fps' r' (t2.trans t') f'
          | ret e => cases e1; exact fun v σ' G' H' fps' fp r' o t' f' => a1 v σ' G' H' fps' fp r' o (t2.trans t') f'
        | exc x e' => rw [eb] at e1; cases e1; exact fun cls d σ' G' H' fps' r' t' f' ex => a1 cls d σ' G' H' fps' r' (t2.trans t') f' ex
        | bad => rw [eb] at e1; cases e1; exact a1
    | exc x e' => rw [ec] at e1; cases e1; exact fun cls d G' H' fps' r' t' ex => a1 cls d σ1 G' H' fps' r' t' Fixed.refl ex
    | bad => rw [ec] at e1; cases e1; exact a1

/-! ### for -/
/-- what a walk yields, turn by turn, is the items' data -/
def SrcOk (K : PySem.W.Frag) (J : It) (G0 : Hp) (its : List PyData) : Prop :=
  ∀ (i : Nat) (G H : Hp), Same G0 G → Same G H →
    (i < its.length → J.go i H ∧ ∀ x H', J.yld i H x H' → ∃ d, its[i]? = some d ∧ PRes K G H (0, d) x H') ∧ (its.length ≤ i → J.stop i H)
def AfterI (p : Pm) (Wx : WX) (m : Bool) (σ : L2.St) (G H : Hp) (fps : Fps) (r : Res (List PyData × Ev)) (R : It → Hp → Prop) : Prop := match r with
  | .ok (its, ε') => ∀ (J : It) (G' H' : Hp) (fps' : Fps), Rel p.K ε' σ G' H' fps' [] → Tr G H (Wf fps []) G' H' (Wf fps' []) → (m = false → Same H H') → SrcOk p.K J G' its → R J H'
  | .exc x ε' => ∀ (cls : Value) (d : Option Addr) (G' H' : Hp) (fps' : Fps), Rel p.K ε' σ G' H' fps' [] → Tr G H (Wf fps []) G' H' (Wf fps' []) → ExcAt p x cls d H' → Wx cls d σ H'
  | .bad => False
def tIt (p : Pm) (Wx : WX) (m : Bool) (f : Ev → Res (List PyData × Ev)) : TI := fun σ H R => ∃ (ε : Ev) (G : Hp) (fps : Fps), Rel p.K ε σ G H fps [] ∧ AfterI p Wx m σ G H fps (f ε) R
theorem PI.imp {X : Cx} {tg e : Expr} {t t' : TI} (h : PI X tg e t) (i : ∀ σ H Q, t' σ H Q → t σ H Q) : PI X tg e t' := ⟨fun pins s σ H Q I q => h.run pins s σ H Q I (i σ H Q q)⟩
/-- a loop's target: how an item goes to the slots -/
structure Tgt where
  is : List Nat
  put : PyData → Ev → Option Ev
def fLoop (tg : Tgt) (b : Ev → Res (Fl × Ev)) : List PyData → Ev → Res (Fl × Ev)
  | [], ε => .ok (.next, ε)
  | d :: ds, ε => match tg.put d ε with
    | some ε1 => match b ε1 with
      | .ok (.next, ε2) => fLoop tg b ds ε2
      | .ok (.cont, ε2) => fLoop tg b ds ε2
      | .ok (.brk, ε2) => .ok (.next, ε2)
      | r => r
    | none => .bad
def fFor (tg : Tgt) (f : Ev → Res (List PyData × Ev)) (b : Ev → Res (Fl × Ev)) : Ev → Res (Fl × Ev) := fun ε => (f ε).bind fun q => fLoop tg b q.1 q.2
/-- the machine's target does what tg says -/
def TgOk (K : PySem.W.Frag) (fx : List Nat) (tg : Tgt) (g : TG) : Prop :=
  ∀ (ε ε' : Ev) (σ : L2.St) (G H : Hp) (fps : Fps) (d : PyData) (x : V) (Q : L2.St → Hp → Prop), Rel K ε σ G H fps [] → Rz K G x d → tg.put d ε = some ε' →
    (∀ σ' fps', Rel K ε' σ' G H fps' [] → (∀ a, Wf fps' [] a → Wf fps [] a) → Fixed fx σ σ' → σ'.length = σ.length → (∀ j, j ∉ tg.is → σ'[j]? = σ[j]?) → Q σ' H) → g x σ H Q
theorem Tr.wsub {G0 H0 : Hp} {W0 : Addr → Prop} {fps' : Fps} (t : Tr G0 H0 W0 G H (Wf fps [])) (h : ∀ a, Wf fps' [] a → Wf fps [] a) : Tr G0 H0 W0 G H (Wf fps' []) := ⟨t.keep, t.there, t.grow, t.new, fun a w => t.wnew a (h a w)⟩
theorem tS_for {tg : Tgt} {g : TG} {f : Ev → Res (List PyData × Ev)} {b : Ev → Res (Fl × Ev)} (hg : TgOk p.K fx tg g) (h : tS p Wx fx (fFor tg f b) D σ H) : tFor (tIt p Wx m f) g (tS p Wx fx b) D σ H := by
  obtain ⟨ε, G, fps, r, a⟩ := h
  unfold fFor at a
  refine ⟨ε, G, fps, r, ?_⟩
  cases e : f ε with
  | exc x e' => rw [e] at a; exact fun cls d G1 H1 fps1 r1 t ex => a cls d σ G1 H1 fps1 r1 t Fixed.refl ex
  | bad => rw [e] at a; exact a
  | ok q =>
    obtain ⟨its, ε0⟩ := q
    rw [e] at a
    intro J G1 H1 fps1 r1 t1 _ src
    have a : AfterS p Wx fx σ G H fps (fLoop tg b its ε0) D := a
    refine ⟨fun i n σ' H' => i + n = its.length ∧ ∃ (ε' : Ev) (G' : Hp) (fps' : Fps), Rel p.K ε' σ' G' H' fps' [] ∧ Tr G H (Wf fps []) G' H' (Wf fps' []) ∧ Same G1 G' ∧ Fixed fx σ σ' ∧ fLoop tg b its ε0 = fLoop tg b (its.drop i) ε',
      ⟨its.length, by omega, ε0, G1, fps1, r1, t1, Same.refl G1, Fixed.refl, rfl⟩, ?_⟩
    rintro i n σ2 H2 ⟨hn, ε2, G2, fps2, r2, t2, s2, f2, e2⟩
    obtain ⟨hgo, hstop⟩ := src i G2 H2 s2 r2.sub
    by_cases hi : i < its.length
    · obtain ⟨go, yl⟩ := hgo hi
      refine .inr ⟨go, fun σ' H' => ∃ n', n' < n ∧ (i + 1 + n' = its.length ∧ ∃ (ε' : Ev) (G' : Hp) (fps' : Fps), Rel p.K ε' σ' G' H' fps' [] ∧ Tr G H (Wf fps []) G' H' (Wf fps' []) ∧ Same G1 G' ∧ Fixed fx σ σ' ∧ fLoop tg b its ε0 = fLoop tg b (its.drop (i + 1)) ε'),
        fun σ' H' h => h, fun x H3 hy => ?_⟩
      obtain ⟨d, hd, pr⟩ := yl x H3 hy
      have hdrop : its.drop i = d :: its.drop (i + 1) := by
        rw [List.drop_eq_getElem_cons hi]
        have := List.getElem?_eq_getElem hi
        rw [hd] at this
        rw [Option.some.inj this]
      obtain ⟨G3, fp3, r3, o3, t3, sH3⟩ := pr.rel r2
      obtain ⟨rfl, o3⟩ := o3
      rw [hdrop, fLoop] at e2
      have a2 : AfterS p Wx fx σ2 G3 H3 fps2 (fLoop tg b its ε0) D := a.later (t2.trans t3) f2
      rw [e2] at a2
      cases ep : tg.put d ε2 with
      | none => rw [ep] at a2; exact a2.elim
      | some ε3 =>
        rw [ep] at a2 e2
        refine hg ε2 ε3 σ2 G3 H3 fps2 d x _ r3 o3 ep fun σ4 fps4 r4 w4 f4 _ _ => ⟨ε3, G3, fps4, r4, ?_⟩
        have t4 : Tr G3 H3 (Wf fps2 []) G3 H3 (Wf fps4 []) := Tr.refl.wsub w4
        have a4 := a2.later t4 f4
        have fin : ∀ {ε5 : Ev} {σ5 : L2.St} {G5 H5 : Hp} {fps5 : Fps}, fLoop tg b its ε0 = fLoop tg b (its.drop (i + 1)) ε5 → Rel p.K ε5 σ5 G5 H5 fps5 [] → Tr G3 H3 (Wf fps4 []) G5 H5 (Wf fps5 []) → Fixed fx σ4 σ5 →
            ∃ n', n' < n ∧ (i + 1 + n' = its.length ∧ ∃ (ε' : Ev) (G' : Hp) (fps' : Fps), Rel p.K ε' σ5 G' H5 fps' [] ∧ Tr G H (Wf fps []) G' H5 (Wf fps' []) ∧ Same G1 G' ∧ Fixed fx σ σ5 ∧ fLoop tg b its ε0 = fLoop tg b (its.drop (i + 1)) ε') :=
          fun {ε5 σ5 G5 H5 fps5} e5 r5 t5 f5 => ⟨n - 1, by omega, by omega, ε5, G5, fps5, r5, ((t2.trans t3).trans t4).trans t5, (s2.trans t3.grow).trans t5.grow, (f2.trans f4).trans f5, e5⟩
        dsimp only at a4 e2
        cases eb : b ε3 with
        | ok q =>
          obtain ⟨fl, ε5⟩ := q
          rw [eb] at a4 e2
          cases fl with
          | next => exact fun σ5 G5 H5 fps5 r5 t5 f5 => fin e2 r5 t5 f5
          | cont => exact fun σ5 G5 H5 fps5 r5 t5 f5 => fin e2 r5 t5 f5
          | brk => exact a4
          | ret e => exact a4
        | exc x e' => rw [eb] at a4; exact a4
        | bad => rw [eb] at a4; exact a4
    · refine .inl ⟨hstop (by omega), ?_⟩
      have hd : its.drop i = [] := List.drop_eq_nil_of_le (by omega)
      rw [hd, fLoop] at e2
      rw [e2] at a
      exact a σ2 G2 H2 fps2 r2 t2 f2
end
end Mb
end

section
set_option Elab.async false
set_option linter.all false
set_option maxRecDepth 100000
set_option maxHeartbeats 1000000
/-! Mb15: what loops walk, their targets -/
namespace Mb
open PySem PySem.Spec PyProof.Rows L2

/-- a list, a tuple or a text is walked -/
def iAny (K : PySem.W.Frag) (tl : TE) : TI := fun σ H R => tl σ H fun x H1 =>
  (∃ (a : Addr) (xs : List V), x = .ref a ∧ SqL K H1 a xs ∧ R (Itl K a) H1) ∨ (∃ (a : Addr) (xs : List V), x = .ref a ∧ SqT K H1 a xs ∧ R (Itt K a) H1) ∨ ∃ z : Str, x = .str z ∧ R (Its z) H1
theorem pi_any {X : Cx} {tg l : Expr} {tl : TE} (hl : PE X l tl) : PI X tg l (iAny X.K tl) := by
  refine ⟨fun pins s σ H R I h => thn (hl.run pins s σ H _ I h) fun v s1 hv => ?_⟩
  obtain ⟨x, H1, I1, r1, hc⟩ := hv
  rcases hc with ⟨a, xs, rfl, hq, q⟩ | ⟨a, xs, rfl, hq, q⟩ | ⟨z, rfl, q⟩
  · obtain ⟨its, rv, pl, hz⟩ := I1.list hq
    cases r1
    exact wpAny_pyIter_list pl.isList (pi_one (tk := s1.toks) I1 _ (turn_list a _) ⟨_, Heap.get?_push_size _ rfl, rfl, rfl⟩ q)
  · obtain ⟨its, rv, pl, hz⟩ := I1.tuple hq
    cases r1
    exact wpAny_pyIter_tuple (show s1.heap.IsTuple a its.toArray from pl) (pi_one (tk := s1.toks) I1 _ (turn_tuple a _) ⟨_, Heap.get?_push_size _ rfl, rfl, rfl⟩ q)
  · obtain ⟨t, rfl⟩ := r1
    by_cases ha : z.cps.all (· < 128) = true
    · exact wpAny_pyIter_ascii ha (pi_one (tk := s1.toks) I1 _ (turn_str _ z t "str_ascii_iterator" (.inl rfl)) ⟨_, Heap.get?_push_size _ rfl, rfl, rfl⟩ q)
    · exact wpAny_pyIter_wide (by simpa using ha) (pi_one (tk := s1.toks) I1 _ (turn_str _ z t "str_iterator" (.inr rfl)) ⟨_, Heap.get?_push_size _ rfl, rfl, rfl⟩ q)

/-- the items of what is walked -/
def itemsOf : PyData → Option (List PyData)
  | .list ds => some ds
  | .tuple ds => some ds
  | .str s => some (s.cps.toList.map fun c => .str ⟨#[c]⟩)
  | _ => none
theorem pair_get' {α β : Type} {R : α → β → Prop} {xs : List α} {ys : List β} {j : Nat} {x : α} (h : PySem.Paired R xs ys) (e : xs[j]? = some x) : ∃ y, ys[j]? = some y ∧ R x y := by
  have hl := Paired.length h
  have hj : j < ys.length := by rw [← hl]; exact (List.getElem?_eq_some_iff.mp e).1
  obtain ⟨x', h1, h2⟩ := pair_get h (List.getElem?_eq_getElem hj)
  rw [e] at h1
  cases h1
  exact ⟨_, List.getElem?_eq_getElem hj, h2⟩
section
variable {K : PySem.W.Frag} {G0 : Hp}
theorem src_seq {J : It} {a : Addr} {vs : List V} {ds : List PyData} (r : RzAll K G0 vs ds) (go : ∀ i H, i < vs.length → (∀ {G : Hp}, Same G0 G → Same G H → J.go i H)) (yl : ∀ i H x H' G, Same G0 G → Same G H → J.yld i H x H' → H' = H ∧ vs[i]? = some x)
    (st : ∀ i H G, Same G0 G → Same G H → vs.length ≤ i → J.stop i H) : SrcOk K J G0 ds := fun i G H s g => by
  have hl := r.length
  refine ⟨fun hi => ⟨go i H (by omega) s g, fun x H' y => ?_⟩, fun hi => st i H G s g (by omega)⟩
  obtain ⟨rfl, hx⟩ := yl i H x H' G s g y
  obtain ⟨d, h1, h2⟩ := RzAll.get' r hx
  exact ⟨d, h1, PRes.here g (h2.same s)⟩
theorem src_list {a : Addr} {vs : List V} {ds : List PyData} (h : Rd G0 a (.lst vs)) (r : RzAll K G0 vs ds) : SrcOk K (Itl K a) G0 ds := by
  have at' : ∀ {G H : Hp}, Same G0 G → Same G H → SqL K H a vs := fun s g => .inl (same_rd g (same_rd s h))
  refine src_seq (a := a) r (fun i H hi G s g => ⟨vs, vs[i], at' s g, by simp [hi]⟩) (fun i H x H' G s g y => ⟨y.1, y.2 vs (at' s g)⟩) fun i H G s g hi => ⟨vs, at' s g, hi⟩
theorem src_tup {a : Addr} {vs : List V} {ds : List PyData} (h : SqT K G0 a vs) (r : RzAll K G0 vs ds) : SrcOk K (Itt K a) G0 ds := by
  have at' : ∀ {G H : Hp}, Same G0 G → Same G H → SqT K H a vs := fun s g => same_sqt g (same_sqt s h)
  refine src_seq (a := a) r (fun i H hi G s g => ⟨vs, vs[i], at' s g, by simp [hi]⟩) (fun i H x H' G s g y => ⟨y.1, y.2 vs (at' s g)⟩) fun i H G s g hi => ⟨vs, at' s g, hi⟩
theorem src_str {z : Str} : SrcOk K (Its z) G0 (z.cps.toList.map fun c => PyData.str ⟨#[c]⟩) := fun i G H s g => by
  refine ⟨fun hi => ⟨show i < z.cps.size by simpa using hi, fun x H' y => ?_⟩, fun hi => show z.cps.size ≤ i by simpa using hi⟩
  obtain ⟨rfl, c, hc, rfl⟩ := y
  refine ⟨.str ⟨#[c]⟩, ?_, PRes.here g (.str _)⟩
  rw [List.getElem?_map, Array.getElem?_toList, hc]
  rfl
theorem src_range {lo : Int} {n : Nat} : SrcOk K (Itr lo n) G0 ((List.range n).map fun (k : Nat) => PyData.int (lo + (k : Int))) := fun i G H s g => by
  refine ⟨fun hi => ⟨show i < n by simpa using hi, fun x H' y => ?_⟩, fun hi => show n ≤ i by simpa using hi⟩
  obtain ⟨rfl, rfl⟩ := y
  refine ⟨.int (lo + i), ?_, PRes.here g (.int _)⟩
  have hi' : i < n := by simpa using hi
  rw [List.getElem?_map, List.getElem?_range hi']
  rfl
theorem src_enum {a : Addr} {vs : List V} {ds : List PyData} (h : Rd G0 a (.lst vs)) (r : RzAll K G0 vs ds) : SrcOk K (Ite K a) G0 (ds.zipIdx.map fun q => PyData.tuple [.int (q.2 : Nat), q.1]) := fun i G H s g => by
  have hq : SqL K H a vs := .inl (same_rd g (same_rd s h))
  have hl := r.length
  refine ⟨fun hi => ?_, fun hi => ⟨vs, hq, by simp at hi; omega⟩⟩
  have hi' : i < vs.length := by simp at hi; omega
  refine ⟨⟨vs, vs[i], hq, by simp [hi']⟩, fun x H' y => ?_⟩
  obtain ⟨T, w, rfl, hT, rfl, hw⟩ := y
  obtain ⟨d, h1, h2⟩ := RzAll.get' r (hw vs hq)
  refine ⟨.tuple [.int (i : Nat), d], ?_, PRes.tup g hT (.cons (.int _) (.cons (h2.same s) .nil))⟩
  rw [List.getElem?_map, List.getElem?_zipIdx, h1]
  simp
theorem src_zip {a b : Addr} {vs ws : List V} {ds es : List PyData} (h : Rd G0 a (.lst vs)) (h' : Rd G0 b (.lst ws)) (r : RzAll K G0 vs ds) (r' : RzAll K G0 ws es) : SrcOk K (Itz K a b) G0 ((ds.zip es).map fun q => PyData.tuple [q.1, q.2]) := fun i G H s g => by
  have hq : SqL K H a vs := .inl (same_rd g (same_rd s h))
  have hq' : SqL K H b ws := .inl (same_rd g (same_rd s h'))
  have hl := r.length
  have hl' := r'.length
  refine ⟨fun hi => ?_, fun hi => ⟨vs, ws, hq, hq', by simp at hi; omega⟩⟩
  have hi' : i < vs.length ∧ i < ws.length := by simp at hi; omega
  refine ⟨⟨vs, ws, vs[i], ws[i], hq, hq', by simp [hi'.1], by simp [hi'.2]⟩, fun x H' y => ?_⟩
  obtain ⟨T, w, w', rfl, hT, rfl, hw, hw'⟩ := y
  obtain ⟨d, h1, h2⟩ := RzAll.get' r (hw vs hq)
  obtain ⟨e, h3, h4⟩ := RzAll.get' r' (hw' ws hq')
  refine ⟨.tuple [d, e], ?_, PRes.tup g hT (.cons (h2.same s) (.cons (h4.same s) .nil))⟩
  rw [List.getElem?_map, (List.getElem?_zip_eq_some (z := (d, e))).mpr ⟨h1, h3⟩]
  rfl
end

section
variable {p : Pm} {Wx : WX} {m m1 m2 : Bool} {σ σ1 : L2.St} {G H G1 H1 : Hp} {fps fps1 : Fps} {ε : Ev} {fx : List Nat}
/-- for x in e -/
def fIn (f : Ev → Res (Ent × Ev)) : Ev → Res (List PyData × Ev) := fun ε => (frzR f ε).bind fun q => match itemsOf q.1.2 with
  | some its => .ok (its, q.2)
  | none => .bad
theorem tIt_in {f : Ev → Res (Ent × Ev)} {R : It → Hp → Prop} (h : tIt p Wx m (fIn f) σ H R) : iAny p.K (tE p Wx m f) σ H R := by
  obtain ⟨ε, G, fps, r, a⟩ := h
  unfold fIn at a
  refine tB_frz ⟨ε, G, fps, r, ?_⟩
  cases e : frzR f ε with
  | ok q =>
    obtain ⟨⟨n, d⟩, ε1⟩ := q
    have hn : n = 0 := frz_zero e
    subst hn
    rw [e] at a
    intro v G1 H1 fps1 fp r1 rl t s
    obtain ⟨rfl, rl⟩ := rl
    have a : AfterI p Wx m σ G H fps (match itemsOf d with | some its => .ok (its, ε1) | none => .bad) R := a
    cases rl with
    | lst hs rr => exact .inl ⟨_, _, rfl, .inl (same_rd r1.sub hs), a _ G1 H1 fps1 r1 t s (src_list hs rr)⟩
    | tup hs rr => exact .inr (.inl ⟨_, _, rfl, same_sqt r1.sub hs, a _ G1 H1 fps1 r1 t s (src_tup hs rr)⟩)
    | str z => exact .inr (.inr ⟨z, rfl, a _ G1 H1 fps1 r1 t s src_str⟩)
    | _ => exact a.elim
  | exc x e' => rw [e] at a; exact a
  | bad => rw [e] at a; exact a
/-- for x in range(a), range(a, b) -/
def B62 : Int := 4611686018427387904
def fRng1 (f : Ev → Res (Ent × Ev)) : Ev → Res (List PyData × Ev) := fun ε => (frzR f ε).bind fun q => match q.1.2 with
  | .int j => if -B62 ≤ j ∧ j < B62 then .ok ((List.range j.toNat).map fun (k : Nat) => .int (0 + (k : Int)), q.2) else .bad
  | _ => .bad
theorem tIt_rng1 {f : Ev → Res (Ent × Ev)} {R : It → Hp → Prop} (h : tIt p Wx m (fRng1 f) σ H R) : iRng1 (tCons (tE p Wx m f) tNil) σ H R := by
  obtain ⟨ε, G, fps, r, a⟩ := h
  unfold fRng1 at a
  refine tB_frz ⟨ε, G, fps, r, ?_⟩
  cases e : frzR f ε with
  | ok q =>
    obtain ⟨⟨n, d⟩, ε1⟩ := q
    have hn : n = 0 := frz_zero e
    subst hn
    rw [e] at a
    intro v G1 H1 fps1 fp r1 rl t s
    obtain ⟨rfl, rl⟩ := rl
    cases rl with
    | int j =>
      have a : AfterI p Wx m σ G H fps (if -B62 ≤ j ∧ j < B62 then .ok ((List.range j.toNat).map fun (k : Nat) => PyData.int (0 + (k : Int)), ε1) else .bad) R := a
      by_cases c : -B62 ≤ j ∧ j < B62
      · rw [if_pos c] at a
        exact ⟨j, rfl, by have := c.1; unfold B62 at this; omega, by have := c.2; unfold B62 at this; omega, a _ G1 H1 fps1 r1 t s src_range⟩
      · rw [if_neg c] at a; exact a.elim
    | _ => exact a.elim
  | exc x e' => rw [e] at a; exact a
  | bad => rw [e] at a; exact a
/-- for i, x in enumerate(xs) -/
def fEnum (f : Ev → Res (Ent × Ev)) : Ev → Res (List PyData × Ev) := fun ε => (frzR f ε).bind fun q => match q.1.2 with
  | .list ds => .ok (ds.zipIdx.map fun q => .tuple [.int (q.2 : Nat), q.1], q.2)
  | _ => .bad
theorem tIt_enum {f : Ev → Res (Ent × Ev)} {R : It → Hp → Prop} (h : tIt p Wx m (fEnum f) σ H R) : iEnum p.K (tCons (tE p Wx m f) tNil) σ H R := by
  obtain ⟨ε, G, fps, r, a⟩ := h
  unfold fEnum at a
  refine tB_frz ⟨ε, G, fps, r, ?_⟩
  cases e : frzR f ε with
  | ok q =>
    obtain ⟨⟨n, d⟩, ε1⟩ := q
    have hn : n = 0 := frz_zero e
    subst hn
    rw [e] at a
    intro v G1 H1 fps1 fp r1 rl t s
    obtain ⟨rfl, rl⟩ := rl
    cases rl with
    | lst hs rr => exact ⟨_, _, rfl, .inl (same_rd r1.sub hs), a _ G1 H1 fps1 r1 t s (src_enum hs rr)⟩
    | _ => exact a.elim
  | exc x e' => rw [e] at a; exact a
  | bad => rw [e] at a; exact a

/-! ### targets -/
theorem setAllV_length : ∀ (is : List Nat) (vs : List V) (σ : L2.St), (setAllV is vs σ).length = σ.length
  | [], _, _ => by simp [setAllV]
  | i :: is, [], _ => by simp [setAllV]
  | i :: is, v :: vs, σ => by
    show (setAllV is vs (σ.set i (some v))).length = _
    rw [setAllV_length is vs, List.length_set]
theorem setAllV_ne : ∀ (is : List Nat) (vs : List V) (σ : L2.St) {j : Nat}, j ∉ is → (setAllV is vs σ)[j]? = σ[j]?
  | [], _, _, _, _ => by simp [setAllV]
  | i :: is, [], _, _, _ => by simp [setAllV]
  | i :: is, v :: vs, σ, j, h => by
    show (setAllV is vs (σ.set i (some v)))[j]? = _
    rw [setAllV_ne is vs _ (fun z => h (List.mem_cons_of_mem _ z)), List.getElem?_set_ne fun e => h (by subst e; exact List.mem_cons_self)]
def tgName (fx : List Nat) (i : Nat) : Tgt := ⟨[i], fun d ε => if fx.contains i then none else some (ε.set i (some (0, d)))⟩
def tgTup (fx is : List Nat) : Tgt := ⟨is, fun d ε => match d with
  | .tuple ds => if ds.length = is.length ∧ is.all (fun i => !fx.contains i) = true then some (setAll is ds ε) else none
  | _ => none⟩
theorem tg_name {K : PySem.W.Frag} {i : Nat} : TgOk K fx (tgName fx i) (gName i) := by
  intro ε ε' σ G H fps d x Q r rz h k
  unfold tgName at h
  dsimp only at h
  by_cases c : fx.contains i = true
  · rw [if_pos c] at h; cases h
  · rw [if_neg c] at h
    cases h
    exact k _ _ (r.assignVal i rz) (fun a w => w.assign) (Fixed.set (not_fx c)) (List.length_set ..) fun j hj => List.getElem?_set_ne fun e => hj (by subst e; exact List.mem_singleton.mpr rfl)
theorem tg_tup {K : PySem.W.Frag} {is : List Nat} : TgOk K fx (tgTup fx is) (gTup K is.length (gSet is)) := by
  intro ε ε' σ G H fps d x Q r rz h k
  unfold tgTup at h
  cases d with
  | tuple ds =>
    dsimp only at h
    by_cases c : ds.length = is.length ∧ is.all (fun i => !fx.contains i) = true
    · rw [if_pos c] at h
      cases h
      cases rz with
      | tup hs rr =>
        have hl : _ = is.length := rr.length.trans c.1
        obtain ⟨fps', r', w⟩ := r.setAll is rr
        refine ⟨_, _, rfl, same_sqt r.sub hs, hl, gSet_of is _ σ H _ hl (k _ fps' r' w (Fixed.setAll is _ σ fun i hi => ?_) ?_ ?_)⟩
        · have := List.all_eq_true.mp c.2 i hi
          exact not_fx (by simpa using this)
        · exact setAllV_length is _ σ
        · exact fun j hj => setAllV_ne is _ σ hj
    · rw [if_neg c] at h; cases h
  | _ => cases h
end
end Mb
end

section
set_option Elab.async false
set_option linter.all false
set_option maxRecDepth 100000
set_option maxHeartbeats 1000000
/-! Mb16: list comprehensions -/
namespace Mb
open PySem PySem.Spec PyProof.Rows L2

def wipeE (ε : Ev) : List Nat → Ev
  | [] => ε
  | v :: vs => (wipeE ε vs).set v none
def keep0 : Option Ent → Option Ent
  | some (0, d) => some (0, d)
  | _ => none
/-- behind a comprehension: its own names are again what they were -/
def backE (ε1 ε2 : Ev) : List Nat → Ev
  | [] => ε2
  | v :: vs => match ε1[v]? with
    | some o => (backE ε1 ε2 vs).set v (keep0 o)
    | none => (backE ε1 ε2 vs).set v none
def cLoop (vs : List Nat) (tg : Tgt) (ts : Ev → Res (Bool × Ev)) (f : Ev → Res (Ent × Ev)) : List PyData → Ev → List PyData → Res (List PyData × Ev)
  | [], ε, acc => .ok (acc, ε)
  | d :: its, ε, acc => match tg.put d ε with
    | some ε1 => match ts ε1 with
      | .ok (true, ε2) => match f ε2 with
        | .ok (e, ε3) => if acc.length < LIM then cLoop vs tg ts f its (wipeE ε3 vs) (acc ++ [e.2]) else .bad
        | _ => .bad
      | .ok (false, ε2) => cLoop vs tg ts f its (wipeE ε2 vs) acc
      | _ => .bad
    | none => .bad
def fComp (vs : List Nat) (tg : Tgt) (src : Ev → Res (List PyData × Ev)) (ts : Ev → Res (Bool × Ev)) (f : Ev → Res (Ent × Ev)) : Ev → Res (Ent × Ev) := fun ε => (src ε).bind fun q =>
  (cLoop vs tg ts f q.1 (wipeE q.2 vs) []).bind fun r => .ok ((1, .list r.1), backE q.2 r.2 vs)

theorem wipe_get {σ : L2.St} {j : Nat} : ∀ {vs : List Nat}, j ∈ vs → j < σ.length → (wipe σ vs)[j]? = some none
  | [], h, _ => nomatch h
  | v :: vs, h, hl => by
    unfold wipe
    by_cases e : v = j
    · subst e; rw [List.getElem?_set_self (by rw [wipe_length]; exact hl)]
    · rw [List.getElem?_set_ne e]
      exact wipe_get ((List.mem_cons.mp h).resolve_left (Ne.symm e)) hl
theorem wipe_ne {σ : L2.St} {j : Nat} : ∀ {vs : List Nat}, j ∉ vs → (wipe σ vs)[j]? = σ[j]?
  | [], _ => rfl
  | v :: vs, h => by
    unfold wipe
    rw [List.getElem?_set_ne (fun e => h (by subst e; exact List.mem_cons_self))]
    exact wipe_ne fun z => h (List.mem_cons_of_mem _ z)
theorem wipe_eq {σ σ' : L2.St} {vs is : List Nat} (hl : σ'.length = σ.length) (h : ∀ j, j ∉ is → σ'[j]? = (wipe σ vs)[j]?) (sub : ∀ j ∈ is, j ∈ vs) : wipe σ' vs = wipe σ vs := by
  refine List.ext_getElem? fun j => ?_
  by_cases hj : j ∈ vs
  · by_cases hlt : j < σ.length
    · rw [wipe_get hj hlt, wipe_get hj (by omega)]
    · rw [List.getElem?_eq_none (by rw [wipe_length]; omega), List.getElem?_eq_none (by rw [wipe_length]; omega)]
  · rw [wipe_ne hj, h j (fun z => hj (sub j z))]
theorem wipeE_length (ε : Ev) : ∀ vs : List Nat, (wipeE ε vs).length = ε.length
  | [] => rfl
  | v :: vs => by unfold wipeE; rw [List.length_set, wipeE_length ε vs]
theorem backE_length (ε1 ε2 : Ev) : ∀ vs : List Nat, (backE ε1 ε2 vs).length = ε2.length
  | [] => rfl
  | v :: vs => by unfold backE; split <;> rw [List.length_set, backE_length ε1 ε2 vs]
theorem backE_ne {ε1 ε2 : Ev} {j : Nat} : ∀ {vs : List Nat}, j ∉ vs → (backE ε1 ε2 vs)[j]? = ε2[j]?
  | [], _ => rfl
  | v :: vs, h => by
    have hv : v ≠ j := fun e => h (by subst e; exact List.mem_cons_self)
    unfold backE
    split <;> (rw [List.getElem?_set_ne hv]; exact backE_ne fun z => h (List.mem_cons_of_mem _ z))
theorem backE_in {ε1 ε2 : Ev} {j : Nat} {e : Ent} : ∀ {vs : List Nat}, j ∈ vs → (backE ε1 ε2 vs)[j]? = some (some e) → e.1 = 0 ∧ ε1[j]? = some (some e)
  | [], h, _ => nomatch h
  | v :: vs, h, he => by
    unfold backE at he
    by_cases q : v = j
    · subst q
      have hset : ∀ {o : Option Ent}, ((backE ε1 ε2 vs).set v o)[v]? = some (some e) → o = some e := fun {o} z => by
        by_cases hl : v < (backE ε1 ε2 vs).length
        · rw [List.getElem?_set_self hl] at z; exact Option.some.inj z
        · rw [List.getElem?_eq_none (by rw [List.length_set]; omega)] at z; cases z
      split at he
      · rename_i o ho
        have := hset he
        rw [ho]
        cases o with
        | none => cases this
        | some en =>
          obtain ⟨n, d⟩ := en
          cases n with
          | zero => cases this; exact ⟨rfl, rfl⟩
          | succ n => cases this
      · cases hset he
    · have hj := (List.mem_cons.mp h).resolve_left (Ne.symm q)
      split at he <;> (rw [List.getElem?_set_ne q] at he; exact backE_in hj he)

section
variable {K : PySem.W.Frag} {ε ε1 ε2 : Ev} {σ : L2.St} {G H G1 H1 : Hp} {fps fps1 fps2 : Fps} {fp : List Addr}
theorem Rel.wiped (r : Rel K ε σ G H fps []) : ∀ vs : List Nat, ∃ fps', Rel K (wipeE ε vs) (wipe σ vs) G H fps' [] ∧ ∀ a, Wf fps' [] a → Wf fps [] a
  | [] => ⟨fps, r, fun _ h => h⟩
  | v :: vs => by
    obtain ⟨fps', r', w⟩ := Rel.wiped r vs
    exact ⟨_, r'.forget v none, fun a h => w a h.forget⟩
def offF (fps : Fps) (vs : List Nat) : Fps := fun j => if j ∈ vs then [] else fps j
theorem Wf.offF {vs : List Nat} {a : Addr} (h : Wf (Mb.offF fps vs) fp a) : Wf fps fp a := by
  rcases h with h | ⟨j, h⟩
  · exact .inl h
  · unfold Mb.offF at h
    split at h
    · cases h
    · exact .inr ⟨j, h⟩
/-- a new object that is nobody's -/
theorem Rel.other (r : Rel K ε σ G H fps fp) {a : Addr} {o : HO} (hG : G a = none) (hW : ¬ Wf fps fp a) : Rel K ε σ G (upd H a o) fps fp where
  len := r.len
  sub := fun b u e => by
    have : b ≠ a := fun z => by subst z; rw [hG] at e; cases e
    rw [upd_ne this]; exact r.sub b u e
  off := fun b w => by
    have : b ≠ a := fun z => by subst z; exact hW w
    rw [upd_ne this]; exact r.off b w
  nd := r.nd
  dis := r.dis
  tnd := r.tnd
  tdis := r.tdis
  at' := fun i e he => by
    obtain ⟨v, h1, h2⟩ := r.at' i e he
    exact ⟨v, h1, h2.keep (Same.refl G) fun b hb => upd_ne fun z => by subst z; exact hW (.inr ⟨i, hb⟩)⟩
/-- back in the def's own scope -/
theorem Rel.back {vs : List Nat} (r1 : Rel K ε1 σ G1 H1 fps1 []) (r2 : Rel K ε2 (wipe σ vs) G H fps2 fp) (g : Same G1 G) : Rel K (backE ε1 ε2 vs) σ G H (Mb.offF fps2 vs) fp where
  len := by rw [backE_length, ← r2.len, wipe_length]
  sub := r2.sub
  off := fun a w => r2.off a w.offF
  nd := fun i => by
    unfold Mb.offF
    split
    · exact .nil
    · exact r2.nd i
  dis := fun i j a h1 h2 => by
    unfold Mb.offF at h1 h2
    split at h1
    · cases h1
    · split at h2
      · cases h2
      · exact r2.dis i j a h1 h2
  tnd := r2.tnd
  tdis := fun i a h => by
    unfold Mb.offF
    split
    · exact fun z => nomatch z
    · exact r2.tdis i a h
  at' := fun j e he => by
    by_cases hj : j ∈ vs
    · obtain ⟨e0, h1⟩ := backE_in hj he
      obtain ⟨n, d⟩ := e
      obtain rfl : n = 0 := e0
      obtain ⟨v, hv, rfl', rz⟩ := r1.at' j _ h1
      refine ⟨v, hv, ?_, rz.same g⟩
      unfold Mb.offF
      rw [if_pos hj]
    · rw [backE_ne hj] at he
      obtain ⟨v, hv, o⟩ := r2.at' j e he
      rw [wipe_ne hj] at hv
      refine ⟨v, hv, ?_⟩
      unfold Mb.offF
      rw [if_neg hj]
      exact o
end

section
variable {p : Pm} {Wx Wf' : WX} {m ms mt me : Bool} {σ σ1 : L2.St} {G H G1 H1 : Hp} {fps fps1 : Fps} {ε : Ev} {fx : List Nat}
theorem tE_comp {vs : List Nat} {tg : Tgt} {g : TG} {src : Ev → Res (List PyData × Ev)} {ts : Ev → Res (Bool × Ev)} {f : Ev → Res (Ent × Ev)} {Q : VK} (hg : TgOk p.K fx tg g) (sub : ∀ j ∈ tg.is, j ∈ vs) (hm : m = false → ms = false ∧ mt = false ∧ me = false)
    (h : tE p Wx m (fComp vs tg src ts f) σ H Q) : tLc (tIt p Wx ms src) g (tT p Wf' mt ts) (tE p Wf' me f) vs σ H Q := by
  obtain ⟨ε, G, fps, r, a⟩ := h
  unfold fComp at a
  refine ⟨ε, G, fps, r, ?_⟩
  cases e : src ε with
  | exc x e' => rw [e] at a; exact a
  | bad => rw [e] at a; exact a
  | ok q =>
    obtain ⟨its, ε1⟩ := q
    rw [e] at a
    intro J G1 H1 fps1 r1 t1 s1 srcOk D hD
    have a : After p Wx m σ G H fps (relE p) ((cLoop vs tg ts f its (wipeE ε1 vs) []).bind fun r => .ok ((1, .list r.1), backE ε1 r.2 vs)) Q := a
    obtain ⟨fpsw, rw0, ww⟩ := r1.wiped vs
    have gD : ∀ {G' : Hp}, Same G' H1 → G' D = none := fun s => free_sub s hD
    have nW1 : ¬ Wf fps1 [] D := fun w => (r1.off D w).2 hD
    have nW0 : ¬ Wf fpsw [] D := fun w => nW1 (ww D w)
    have t0 : Tr G1 H1 (Wf fps1 []) G1 (upd H1 D (.lst [])) (Wf fpsw []) := ⟨fun b o hb _ => by rw [upd_ne (ne_of_none hb hD)]; exact hb, fun b hb => by
        by_cases q : b = D
        · subst q; rw [upd_same]; exact fun z => nomatch z
        · rw [upd_ne q]; exact hb, Same.refl _, fun _ h => .inl h, fun b w => .inl (ww b w)⟩
    refine ⟨fun i n H' => i + n = its.length ∧ ∃ (ε' : Ev) (G' : Hp) (fps' : Fps) (acc : List PyData) (va : List V), Rel p.K ε' (wipe σ vs) G' H' fps' [] ∧ Tr G1 H1 (Wf fps1 []) G' H' (Wf fps' []) ∧ (m = false → Same H1 H') ∧ H' D = some (.lst va) ∧ RzAll p.K G' va acc ∧
        G' D = none ∧ ¬ Wf fps' [] D ∧ cLoop vs tg ts f its (wipeE ε1 vs) [] = cLoop vs tg ts f (its.drop i) ε' acc,
      ⟨its.length, by omega, wipeE ε1 vs, G1, fpsw, [], [], rw0.other (gD r1.sub) nW0, t0, fun _ => sUpd hD, upd_same, .nil, gD r1.sub, nW0, rfl⟩, ?_⟩
    rintro i n H2 ⟨hn, ε2, G2, fps2, acc, va, r2, t2, s2, hD2, ra, g2, w2, e2⟩
    obtain ⟨hgo, hstop⟩ := srcOk i G2 H2 t2.grow r2.sub
    by_cases hi : i < its.length
    · obtain ⟨go, yl⟩ := hgo hi
      refine .inr ⟨go, fun H' => ∃ n', n' < n ∧ (i + 1 + n' = its.length ∧ ∃ (ε' : Ev) (G' : Hp) (fps' : Fps) (acc : List PyData) (va : List V), Rel p.K ε' (wipe σ vs) G' H' fps' [] ∧ Tr G1 H1 (Wf fps1 []) G' H' (Wf fps' []) ∧ (m = false → Same H1 H') ∧ H' D = some (.lst va) ∧ RzAll p.K G' va acc ∧
        G' D = none ∧ ¬ Wf fps' [] D ∧ cLoop vs tg ts f its (wipeE ε1 vs) [] = cLoop vs tg ts f (its.drop (i + 1)) ε' acc), fun H' h => h, fun x H3 hy => ?_⟩
      obtain ⟨d, hd, pr⟩ := yl x H3 hy
      have hdrop : its.drop i = d :: its.drop (i + 1) := by
        rw [List.drop_eq_getElem_cons hi]
        have := List.getElem?_eq_getElem hi
        rw [hd] at this
        rw [Option.some.inj this]
      obtain ⟨G3, fp3, r3, o3, t3, sH3⟩ := pr.rel r2
      obtain ⟨rfl, o3⟩ := o3
      -- where the new list stands, behind a step
      have stays : ∀ {Ga Ha Gb Hb : Hp} {fa fb : Fps}, Tr Ga Ha (Wf fa []) Gb Hb (Wf fb []) → Ha D = some (.lst va) → Ga D = none → ¬ Wf fa [] D → Hb D = some (.lst va) ∧ Gb D = none ∧ ¬ Wf fb [] D := fun {Ga Ha Gb Hb fa fb} t h1 h2 h3 => by
        refine ⟨t.keep D _ h1 h3, ?_, fun w => (t.wnew D w).elim h3 fun z => by rw [h1] at z; cases z⟩
        cases q : Gb D with
        | none => rfl
        | some o => exact ((t.new D (by rw [q]; exact fun z => nomatch z)).elim (fun z => absurd h2 z) fun z => z.elim (fun z => by rw [h1] at z; cases z) fun z => absurd z h3)
      obtain ⟨hD3, g3, w3⟩ := stays t3 hD2 g2 w2
      rw [hdrop, cLoop] at e2
      have a2 := a
      rw [e2] at a2
      cases ep : tg.put d ε2 with
      | none => rw [ep] at a2; exact a2.elim
      | some ε3 =>
        rw [ep] at a2 e2
        refine hg ε2 ε3 (wipe σ vs) G3 H3 fps2 d x _ r3 o3 ep fun σ4 fps4 r4 w4 f4 l4 n4 => ⟨wipe_eq (is := tg.is) (by rw [l4, wipe_length]) n4 sub, ε3, G3, fps4, r4, ?_⟩
        have hwσ : wipe σ4 vs = wipe σ vs := wipe_eq (is := tg.is) (by rw [l4, wipe_length]) n4 sub
        have t4 : Tr G3 H3 (Wf fps2 []) G3 H3 (Wf fps4 []) := Tr.refl.wsub w4
        obtain ⟨_, _, w4'⟩ := stays t4 hD3 g3 w3
        dsimp only at a2 e2
        cases et : ts ε3 with
        | exc x' e' => rw [et] at a2; exact a2.elim
        | bad => rw [et] at a2; exact a2.elim
        | ok q =>
          obtain ⟨b, ε5⟩ := q
          rw [et] at a2 e2
          intro b' G5 H5 fps5 fp5 r5 rl5 t5 s5
          obtain ⟨rfl, rfl⟩ := rl5
          obtain ⟨hD5, g5, w5⟩ := stays t5 hD3 g3 w4'
          have sm5 : m = false → Same H1 H5 := fun z => ((s2 z).trans sH3).trans (s5 (hm z).2.1)
          cases b' with
          | false =>
            rw [if_neg Bool.false_ne_true]
            dsimp only at e2
            obtain ⟨fps6, r6, w6⟩ := r5.wiped vs
            rw [hwσ] at r6
            exact ⟨n - 1, by omega, by omega, wipeE ε5 vs, G5, fps6, acc, va, r6, (((t2.trans t3).trans t4).trans t5).wsub w6, sm5, hD5, ra.same (t3.grow.trans t5.grow), g5, fun w => w5 (w6 D w), e2⟩
          | true =>
            rw [if_pos rfl]
            dsimp only at a2 e2
            refine ⟨ε5, G5, fps5, r5, ?_⟩
            cases ef : f ε5 with
            | exc x' e' => rw [ef] at a2; exact a2.elim
            | bad => rw [ef] at a2; exact a2.elim
            | ok q =>
              obtain ⟨en, ε6⟩ := q
              rw [ef] at a2 e2
              dsimp only at a2 e2
              intro v G6 H6 fps6 fp6 r6 o6 t6 s6
              by_cases hz : acc.length < LIM
              · rw [if_pos hz] at e2
                have o6' := o6.freeze r6
                have t6' := t6.freeze r6
                have r6' := r6.freeze
                obtain ⟨hD6, g6, w6⟩ := stays t6' hD5 g5 w5
                obtain ⟨fps7, r7, w7⟩ := r6'.wiped vs
                rw [hwσ] at r7
                have tt := ((((t2.trans t3).trans t4).trans t5).trans t6').wsub w7
                have lenva : va.length = acc.length := ra.length
                refine ⟨va, hD6, by rw [lenva, ← lim_line]; exact hz, n - 1, by omega, by omega, wipeE ε6 vs, _, fps7, acc ++ [en.2], va ++ [v], r7.other g6 (fun w => w6 (w7 D w)), ?_, fun z => ?_, upd_same, ?_, g6, fun w => w6 (w7 D w), e2⟩
                · refine ⟨fun b o hb hw => ?_, fun b hb => ?_, tt.grow, tt.new, tt.wnew⟩
                  · rw [upd_ne (ne_of_none hb hD)]; exact tt.keep b o hb hw
                  · by_cases q : b = D
                    · subst q; rw [upd_same]; exact fun z => nomatch z
                    · rw [upd_ne q]; exact tt.there b hb
                · intro b o hb
                  rw [upd_ne (ne_of_none hb hD)]
                  exact ((sm5 z).trans (s6 (hm z).2.2)) b o hb
                · exact (ra.same (t3.grow.trans (t5.grow.trans t6'.grow))).append (.cons o6' .nil)
              · rw [if_neg hz] at a2; exact a2.elim
    · refine .inl ⟨hstop (by omega), ?_⟩
      have hd : its.drop i = [] := List.drop_eq_nil_of_le (by omega)
      rw [hd, cLoop] at e2
      rw [e2] at a
      have rb := r1.back r2 t2.grow
      have rD : Rel p.K (backE ε1 ε2 vs) σ G2 H2 (offF fps2 vs) [D] := ⟨rb.len, rb.sub, fun b w => ?_, rb.nd, rb.dis, by simp, fun j b hb => ?_, rb.at'⟩
      · refine a (.ref D) G2 H2 (offF fps2 vs) [D] rD ⟨D, [], rfl, rfl, .inl ⟨va, acc, rfl, hD2, all3_zero ra⟩⟩ ⟨(t1.trans t2).keep, (t1.trans t2).there, (t1.trans t2).grow, (t1.trans t2).new, fun b w => ?_⟩ fun z => (s1 (hm z).1).trans (s2 z)
        rcases w with w | ⟨j, w⟩
        · have e : b = D := by simpa using w
          subst e
          have back : H1 b = none → H b = none := fun e => Classical.byContradiction fun n => t1.there b n e
          exact .inr (back hD)
        · exact (t1.trans t2).wnew b (Wf.offF (.inr ⟨j, w⟩))
      · rcases w with w | ⟨j, w⟩
        · have e : b = D := by simpa using w
          subst e
          exact ⟨g2, by rw [hD2]; exact fun z => nomatch z⟩
        · exact rb.off b (.inr ⟨j, w⟩)
      · have e : b = D := by simpa using hb
        subst e
        exact fun w => w2 (Wf.offF (.inr ⟨j, w⟩))
end
end Mb
end

section
set_option Elab.async false
set_option linter.all false
set_option maxRecDepth 100000
set_option maxHeartbeats 1000000
/-! Mb17: defs and their calls -/
namespace Mb
open PySem PySem.Spec PyProof.Rows L2

/-- what a def gives: its value and the last state of its parameters, or an error -/
inductive FRes where
  | ok (e : Ent) (ps : List (Option Ent))
  | exc (x : Exn)
  | bad
abbrev FD := List Ent → FRes
/-- a def's promise -/
def spF (p : Pm) (F : FD) : Sp := fun vs H Q E => ∃ (as : List Ent) (G : Hp) (fps : Fps), Rel p.K (as.map some) (vs.map some) G H fps [] ∧ (∀ i, as.length ≤ i → fps i = []) ∧ match F as with
  | .ok e ps => ∀ (v : V) (G' H' : Hp) (fps' : Fps) (fp : List Addr), Rel p.K ps (vs.map some) G' H' fps' fp → Ow p.K G' H' e.1 v e.2 fp → Tr G H (Wf fps []) G' H' (Wf fps' fp) → (∀ i, as.length ≤ i → fps' i = []) → Q v H'
  | .exc x => ∀ (cls : Value) (d : Option Addr) (G' H' : Hp), Tr G H (Wf fps []) G' H' (fun _ => False) → Same G' H' → ExcAt p x cls d H' → E cls d H'
  | .bad => False
def maskP (fx : List Nat) (n : Nat) (ε : Ev) : List (Option Ent) := (List.range n).map fun i => if fx.contains i then (ε[i]?).join else none
def runF (N n : Nat) (fx : List Nat) (g : Ev → Res (Fl × Ev)) : FD := fun as =>
  if as.length = n then match g (as.map some ++ List.replicate (N - n) none) with
    | .ok (.ret e, ε) => .ok e (maskP fx n ε)
    | .ok (.next, ε) => .ok (0, .none) (maskP fx n ε)
    | .exc x _ => .exc x
    | _ => .bad
  else .bad

/-- a def keeps its promise where nothing is being shown -/
structure FnG (P : Program) (w : World) (K : PySem.W.Frag) (mg : Str → Option Value) (base : Heap) (k : Nat) (f : Addr) (fd : FuncData) (ps : List Str) (sp : Sp) : Prop where
  len : ∀ vs H Q E, sp vs H Q E → vs.length = ps.length
  run : ∀ (A : Around) (outer : List Env) (s : Shared) (H : Hp) (args : Args) (us : List Value) (vs : List V) (Q : VK) (E : XK), Room k A → A.guards = some [] → Env0 P w K mg base A outer s H → BindsTo s fd args (ps.zip us) → Vals vs us →
    sp vs H Q E → codeAny (model P w) A (.call (.ref f) args) (CR (CX P w) outer P w H s Q E) s
theorem FnG.mono {P : Program} {w : World} {K : PySem.W.Frag} {mg : Str → Option Value} {base : Heap} {j k : Nat} {f : Addr} {fd : FuncData} {ps : List Str} {sp : Sp} (F : FnG P w K mg base j f fd ps sp) (h : j ≤ k) : FnG P w K mg base k f fd ps sp :=
  ⟨F.len, fun A outer s H args us vs Q E hr => F.run A outer s H args us vs Q E (hr.mono h)⟩

section
variable {K : PySem.W.Frag} {σ : L2.St} {G H : Hp} {fps : Fps} {fp : List Addr}
theorem pad_get {α : Type} {l : List α} {n i : Nat} {e : α} (h : (l.map some ++ List.replicate n none)[i]? = some (some e)) : i < l.length ∧ l[i]? = some e := by
  by_cases hi : i < l.length
  · rw [List.getElem?_append_left (by simpa using hi), List.getElem?_map] at h
    refine ⟨hi, ?_⟩
    cases q : l[i]? with
    | none => rw [q] at h; cases h
    | some x => rw [q] at h; cases h; rfl
  · rw [List.getElem?_append_right (by simpa using hi), List.getElem?_replicate] at h
    split at h <;> cases h
theorem map_get {α : Type} {l : List α} {i : Nat} {e : α} (h : (l.map some)[i]? = some (some e)) : l[i]? = some e := by
  rw [List.getElem?_map] at h
  cases q : l[i]? with
  | none => rw [q] at h; cases h
  | some x => rw [q] at h; cases h; rfl
theorem Rel.pad {as : List Ent} {vs : List V} (r : Rel K (as.map some) (vs.map some) G H fps fp) (n : Nat) : Rel K (as.map some ++ List.replicate n none) (vs.map some ++ List.replicate n none) G H fps fp where
  len := by have := r.len; simp at this ⊢; omega
  sub := r.sub
  off := r.off
  nd := r.nd
  dis := r.dis
  tnd := r.tnd
  tdis := r.tdis
  at' := fun i e he => by
    obtain ⟨hi, he'⟩ := pad_get he
    obtain ⟨v, hv, o⟩ := r.at' i e (by rw [List.getElem?_map, he']; rfl)
    refine ⟨v, ?_, o⟩
    have hl : vs.length = as.length := by have := r.len; simpa using this
    rw [List.getElem?_append_left (by simpa [hl] using hi)]
    exact hv
def maskF (fx : List Nat) (n : Nat) (fps : Fps) : Fps := fun i => if i < n ∧ fx.contains i = true then fps i else []
theorem Wf.maskF {fx : List Nat} {n : Nat} {a : Addr} (h : Wf (Mb.maskF fx n fps) fp a) : Wf fps fp a := by
  rcases h with h | ⟨i, h⟩
  · exact .inl h
  · unfold Mb.maskF at h
    split at h
    · exact .inr ⟨i, h⟩
    · cases h
theorem Rel.mask {ε : Ev} {vs : List V} {fx : List Nat} {n k : Nat} (r : Rel K ε σ G H fps fp) (hn : vs.length = n) (hf : Fixed fx (vs.map some ++ List.replicate k none) σ) : Rel K (maskP fx n ε) (vs.map some) G H (Mb.maskF fx n fps) fp where
  len := by unfold maskP; simp [hn]
  sub := r.sub
  off := fun a w => r.off a w.maskF
  nd := fun i => by
    unfold Mb.maskF
    split
    · exact r.nd i
    · exact .nil
  dis := fun i j a h1 h2 => by
    unfold Mb.maskF at h1 h2
    split at h1
    · split at h2
      · exact r.dis i j a h1 h2
      · cases h2
    · cases h1
  tnd := r.tnd
  tdis := fun i a h => by
    unfold Mb.maskF
    split
    · exact r.tdis i a h
    · exact fun z => nomatch z
  at' := fun i e he => by
    have hi : i < n := by
      by_cases hi : i < n
      · exact hi
      · rw [List.getElem?_eq_none (by unfold maskP; simp; omega)] at he; cases he
    unfold maskP at he
    rw [List.getElem?_map, List.getElem?_range hi] at he
    have he : (if fx.contains i then (ε[i]?).join else none) = some e := Option.some.inj he
    by_cases c : fx.contains i = true
    · rw [if_pos c] at he
      have he' : ε[i]? = some (some e) := by
        cases q : ε[i]? with
        | none => rw [q] at he; cases he
        | some o => rw [q] at he; have : o = some e := he; rw [this]
      obtain ⟨v, hv, o⟩ := r.at' i e he'
      refine ⟨v, ?_, ?_⟩
      · have := hf i (by simpa using c)
        rw [hv] at this
        rw [List.getElem?_append_left (by simp; omega)] at this
        exact this.symm
      · unfold Mb.maskF
        rw [if_pos ⟨hi, c⟩]
        exact o
    · rw [if_neg c] at he; cases he
theorem Tr.less {G0 H0 : Hp} {W0 W W' : Addr → Prop} (t : Tr G0 H0 W0 G H W) (h : ∀ a, W' a → W a) : Tr G0 H0 W0 G H W' := ⟨t.keep, t.there, t.grow, t.new, fun a w => t.wnew a (h a w)⟩
end

/-- the wish of a def's body about errors -/
def wE (E : XK) : WX := fun cls d _ H => E cls d H
/-- THE RULE for a def -/
theorem fnG_of {P : Program} {w : World} {K : PySem.W.Frag} {mg : Str → Option Value} {base : Heap} {k : Nat} {f : Addr} {name qual : Str} {params : Arguments} {body : List Stmt} {scope : Scope} {dV kV doc pm cdv ct oc : Value} {an od : Option Addr}
    {osl : Array (Option Value)} {N ps : List Str} {fx : List Nat} {g : Ev → Res (Fl × Ev)} (lk : K.lookup f = some ⟨oc, od, .func (PySem.W.fnOf name qual params body scope dV kV doc pm an cdv ct), osl⟩) (hcd : PySem.W.codeIn K cdv qual = true) (S : FnScope N ps scope)
    (hbody : ∀ (A : Around) (outer : List Env) (s : Shared) (H : Hp) (E : XK), Room k (A.deeper (envOfC qual scope s.heap.objs.size f cdv)) → A.guards = some [] →
      PSs (cxOf (CX P w) P w K mg base N qual scope f cdv A outer s H E) body (tS ⟨K, mg⟩ (wE E) fx g)) :
    FnG P w K mg base (k + 1) f (PySem.W.fnOf name qual params body scope dV kV doc pm an cdv ct) ps (spF ⟨K, mg⟩ (runF N.length ps.length fx g)) := by
  have hlen : ∀ vs H Q E, spF ⟨K, mg⟩ (runF N.length ps.length fx g) vs H Q E → vs.length = ps.length := fun vs H Q E ⟨as, G, fps, r, _, h⟩ => by
    have hl : vs.length = as.length := by have := r.len; simpa using this
    unfold runF at h
    by_cases c : as.length = ps.length
    · rw [hl, c]
    · rw [if_neg c] at h; exact h.elim
  refine ⟨hlen, fun A outer s H args us vs Q E hroom hgd e0 hb rv hsp => ?_⟩
  have hvl := hlen vs H Q E hsp
  have kin : K.In s.heap := e0.mod.kin.keeps fun b o e => (e0.bs b o e).1
  have nol : s.heap.NoLimit := e0.mod.nolimit.keeps fun b o e => (e0.bs b o e).1
  have kinds : ∀ y ∈ ps.zip us, scope.names.lookup y.1 = some .local ∨ (scope.names.lookup y.1 = some .cell ∧ ((cellsFrom (s.heap.objs.size + 1) scope.names []).lookup y.1).isSome = true) := fun ⟨x, u⟩ hy =>
    (S.par x (List.of_mem_zip hy).1).imp_right fun q => ⟨q, PySem.W.cellsFrom_some _ _ _ (.inl q)⟩
  refine codeAny_call_function hroom.depth (kin _ _ lk) rfl S.co S.gen rfl (PySem.W.codeRec_of kin hcd) (hb _ _ _ _ (wpAny_newFunctionEnv_cells S.kind kinds fun env he s1 x => ?_))
  subst he
  refine ⟨nol.keeps x.toInCall.keep, codeAny_func ?_⟩
  have I0 : Inv (cxOf (CX P w) P w K mg base N qual scope f cdv A outer s H E) [] (L2.start N vs) H s1 := inv_start S hroom.hd e0 hvl rv x
  obtain ⟨as, G, fps, r, hout, hres⟩ := hsp
  have hal : as.length = ps.length := by have := r.len; simp at this; omega
  have hst : L2.start N vs = vs.map some ++ List.replicate (N.length - ps.length) none := by unfold L2.start; rw [hvl]
  have hgo : tS ⟨K, mg⟩ (wE E) fx g { nx := fun _ H' => Q .non H', rt := Q } (L2.start N vs) H := by
    refine ⟨as.map some ++ List.replicate (N.length - ps.length) none, G, fps, by rw [hst]; exact r.pad _, ?_⟩
    unfold runF at hres
    rw [if_pos hal] at hres
    have fin : ∀ {ε' : Ev} {σ' : L2.St} {G' H' : Hp} {fps' : Fps} {fp : List Addr} {e : Ent} {v : V}, Rel K ε' σ' G' H' fps' fp → Ow K G' H' e.1 v e.2 fp → Tr G H (Wf fps []) G' H' (Wf fps' fp) → Fixed fx (L2.start N vs) σ' →
        (∀ (v : V) (G' H' : Hp) (fps' : Fps) (fp : List Addr), Rel K (maskP fx ps.length ε') (vs.map some) G' H' fps' fp → Ow K G' H' e.1 v e.2 fp → Tr G H (Wf fps []) G' H' (Wf fps' fp) → (∀ i, as.length ≤ i → fps' i = []) → Q v H') → Q v H' :=
      fun {ε' σ' G' H' fps' fp e v} r' o t hf q => by
        rw [hst] at hf
        refine q v G' H' _ fp (r'.mask hvl hf) o (t.less fun a wa => wa.maskF) fun i hi => ?_
        unfold maskF
        rw [if_neg (fun z => absurd z.1 (by omega))]
    cases eg : g (as.map some ++ List.replicate (N.length - ps.length) none) with
    | ok q =>
      obtain ⟨fl, ε'⟩ := q
      rw [eg] at hres
      cases fl with
      | next => exact fun σ' G' H' fps' r' t hf => fin (e := (0, .none)) r' ⟨rfl, .non⟩ t hf hres
      | brk => exact hres.elim
      | cont => exact hres.elim
      | ret e => exact fun v σ' G' H' fps' fp r' o t hf => fin r' o t hf hres
    | exc x' ε' => rw [eg] at hres; exact fun cls d σ' G' H' fps' r' t hf ex => hres cls d G' H' (t.less fun _ z => z.elim) r'.sub ex
    | bad => rw [eg] at hres; exact hres.elim
  refine wpAny_mono ((hbody A outer s H E (hroom.deeper _) hgd).run [] s1 (L2.start N vs) H _ I0 hgo) (fun fl s' hs => ?_) fun e s' hs => hs
  have fin : ∀ {σ' : L2.St} {H' : Hp} {v : V} {u : Value}, Inv (cxOf (CX P w) P w K mg base N qual scope f cdv A outer s H E) [] σ' H' s' → RelV v u → Q v H' → CE outer P w H s Q u s' := fun {σ' H' v u} J rv q => ⟨v, H', J.os, J.bare, J.base, J.hok, rv, q⟩
  cases fl with
  | next => obtain ⟨σ', H', J, q⟩ := hs; exact fin (v := V.non) (u := Value.none) J rfl q
  | ret u => obtain ⟨v, σ', H', J, rv, q⟩ := hs; exact fin J rv q
  | brk => obtain ⟨_, _, _, q⟩ := hs; exact q.elim
  | cont => obtain ⟨_, _, _, q⟩ := hs; exact q.elim
end Mb
end

section
set_option Elab.async false
set_option linter.all false
set_option maxRecDepth 100000
set_option maxHeartbeats 1000000
/-! Mb18: calls of defs -/
namespace Mb
open PySem PySem.Spec PyProof.Rows L2

inductive Ag where
  | own (i : Nat)
  | val (d : PyData)
def agOk (K : PySem.W.Frag) (σ : L2.St) (G : Hp) (v : V) : Ag → Prop
  | .own i => σ[i]? = some (some v)
  | .val d => Rz K G v d
def relC (p : Pm) (σ : L2.St) : List V → List Ag → Hp → Hp → List Addr → Prop := fun vs as G H fp => fp = [] ∧ PySem.Paired (agOk p.K σ G) vs as
theorem agOk.grow {K : PySem.W.Frag} {σ : L2.St} {G G' : Hp} (s : Same G G') {v : V} {a : Ag} (h : agOk K σ G v a) : agOk K σ G' v a := by
  cases a with
  | own i => exact h
  | val d => exact Rz.same s h
def cNil : Ev → Res (List Ag × Ev) := fun ε => .ok ([], ε)
def cVal (f : Ev → Res (Ent × Ev)) (g : Ev → Res (List Ag × Ev)) : Ev → Res (List Ag × Ev) := fun ε => (frzR f ε).bind fun q => (g q.2).bind fun r => .ok (.val q.1.2 :: r.1, r.2)
def cOwn (i : Nat) (g : Ev → Res (List Ag × Ev)) : Ev → Res (List Ag × Ev) := fun ε => match ε[i]? with
  | some (some _) => (g ε).bind fun r => .ok (.own i :: r.1, r.2)
  | _ => .bad
section
variable {p : Pm} {Wx : WX} {m m1 m2 : Bool} {σ : L2.St} {G H : Hp} {fps : Fps} {ε : Ev}
theorem tC_nil {Q : List V → Hp → Prop} (h : tR p Wx m (relC p σ) cNil σ H Q) : tNil σ H Q := by
  obtain ⟨ε, G, fps, r, a⟩ := h
  exact a [] G H fps [] r ⟨rfl, .nil⟩ Tr.refl fun _ => Same.refl H
theorem tC_val {f : Ev → Res (Ent × Ev)} {g : Ev → Res (List Ag × Ev)} {Q : List V → Hp → Prop} (h : tR p Wx (m1 || m2) (relC p σ) (cVal f g) σ H Q) :
    tE p Wx m1 f σ H fun x H1 => tR p Wx m2 (relC p σ) g σ H1 fun xs H2 => Q (x :: xs) H2 := by
  refine tR.bind0 (g := fun q ε => (g ε).bind fun r => .ok (.val q.2 :: r.1, r.2)) h fun d v ε1 G G1 H1 fps fps1 r1 rz t s a => ?_
  refine ⟨ε1, G1, fps1, r1, ?_⟩
  dsimp only at a
  cases e : g ε1 with
  | ok q =>
    obtain ⟨as, ε2⟩ := q
    rw [e] at a
    intro vs G2 H2 fps2 fp r2 rl2 t2 s2
    obtain ⟨rfl, rl2⟩ := rl2
    refine a (v :: vs) G2 H2 fps2 [] r2 ⟨rfl, .cons (Rz.same t2.grow rz) rl2⟩ (t.trans t2) fun z => ?_
    simp only [Bool.or_eq_false_iff] at z
    exact (s z.1).trans (s2 z.2)
  | exc x' ε2 =>
    rw [e] at a
    intro cls d' G2 H2 fps2 r2 t2 x2
    exact a cls d' G2 H2 fps2 r2 (t.trans t2) x2
  | bad => rw [e] at a; exact a
theorem tC_own {i : Nat} {g : Ev → Res (List Ag × Ev)} {Q : List V → Hp → Prop} (h : tR p Wx m (relC p σ) (cOwn i g) σ H Q) : tVar i σ H fun x H1 => tR p Wx m (relC p σ) g σ H1 fun xs H2 => Q (x :: xs) H2 := by
  obtain ⟨ε, G, fps, r, a⟩ := h
  unfold cOwn at a
  cases e : ε[i]? with
  | none => rw [e] at a; exact a.elim
  | some o =>
    cases o with
    | none => rw [e] at a; exact a.elim
    | some en =>
      rw [e] at a
      obtain ⟨v, hv, _⟩ := r.at' i en e
      refine ⟨v, hv, ε, G, fps, r, ?_⟩
      dsimp only at a
      cases e2 : g ε with
      | ok q =>
        obtain ⟨as, ε2⟩ := q
        rw [e2] at a
        intro vs G2 H2 fps2 fp r2 rl2 t2 s2
        obtain ⟨rfl, rl2⟩ := rl2
        exact a (v :: vs) G2 H2 fps2 [] r2 ⟨rfl, .cons hv rl2⟩ t2 s2
      | exc x' ε2 => rw [e2] at a; exact a
      | bad => rw [e2] at a; exact a
end

/-- what is handed on: the owned variables' entries as they stand now -/
def getA (ε : Ev) : List Ag → Option (List Ent)
  | [] => some []
  | .val d :: r => (getA ε r).map ((0, d) :: ·)
  | .own i :: r => match ε[i]? with
    | some (some e) => (getA ε r).map (e :: ·)
    | _ => none
/-- the owned ones: place in the call, slot -/
def owns : Nat → List Ag → List (Nat × Nat)
  | _, [] => []
  | k, .val _ :: r => owns (k + 1) r
  | k, .own i :: r => (k, i) :: owns (k + 1) r
def isV : Ag → Bool
  | .val _ => true
  | _ => false
def fCallV (F : FD) (h : Ev → Res (List Ag × Ev)) : Ev → Res (Ent × Ev) := fun ε => (h ε).bind fun q => if q.1.all isV = true then match getA q.2 q.1 with
  | some as => match F as with
    | .ok e _ => .ok (e, q.2)
    | .exc x => .exc x q.2
    | .bad => .bad
  | none => .bad
  else .bad
def fCallO (F : FD) (h : Ev → Res (List Ag × Ev)) : Ev → Res (Ent × Ev) := fun ε => (h ε).bind fun q => match owns 0 q.1 with
  | [(k, i)] => match getA q.2 q.1 with
    | some as => match F as with
      | .ok e ps => .ok (e, q.2.set i (ps[k]?).join)
      | _ => .bad
    | none => .bad
  | _ => .bad

section
variable {K : PySem.W.Frag} {σ : L2.St} {G H : Hp} {fps : Fps} {ε : Ev}
theorem getA_val : ∀ {ags : List Ag} {vs : List V} {as : List Ent}, ags.all isV = true → getA ε ags = some as → PySem.Paired (agOk K σ G) vs ags → as.length = vs.length ∧ ∀ (i : Nat) (e : Ent), as[i]? = some e → ∃ v, vs[i]? = some v ∧ e.1 = 0 ∧ Rz K G v e.2
  | [], _, as, _, h, .nil => by cases h; exact ⟨rfl, fun i e z => by simp at z⟩
  | .val d :: r, _, as, hv, h, .cons o t => by
    obtain ⟨as', h', rfl⟩ := Option.map_eq_some_iff.mp h
    obtain ⟨hl, ih⟩ := getA_val (ags := r) (by rw [List.all_cons, Bool.and_eq_true] at hv; exact hv.2) h' t
    refine ⟨by simp [hl], fun i e z => ?_⟩
    cases i with
    | zero => simp at z; subst z; exact ⟨_, rfl, rfl, o⟩
    | succ i => obtain ⟨v, h1, h2⟩ := ih i e (by simpa using z); exact ⟨v, by simpa using h1, h2⟩
  | .own i :: r, _, as, hv, h, .cons o t => by simp [isV] at hv
end

section
variable {P : Program} {X : Cx} {p : Pm} {Wx : WX} {m : Bool} {k : Nat} {f : Addr} {fd : FuncData} {ps : List Str} {F : FD} {x : Str} {p' pos : Pos} {e : Expr} {es : List Expr}
/-- the callee runs -/
theorem runG {sp : Sp} {E : XK} {pins : List (Addr × Obj)} {σ : L2.St} {H : Hp} {s : Shared} {Q : VK} {us : List Value} {vs : List V} (Fn : FnG X.prog X.w X.K X.mg X.base k f fd ps sp) (hr : Room k X.A) (hgd : X.A.guards = some []) (hb : Binds X.K fd ps [])
    (hx : ∀ H s e s', Inv X pins σ H s → CX X.prog X.w X.stack H s E e s' → X.xe e s') (I : Inv X pins σ H s) (r : Vals vs us) (h : sp vs H Q E) : wpAny (model X.prog X.w) X.A (call (.ref f) us) (EP X pins σ Q) X.xe s := by
  have hl : us.length = ps.length := r.length.symm.trans (Fn.len _ _ _ _ h)
  have hbb := hb s us I.kIn (by rw [List.append_nil]; exact hl)
  rw [List.append_nil] at hbb
  refine wpAny_call (codeAny_mono (Fn.run X.A X.stack s H ⟨us, []⟩ us vs Q E hr hgd I.env0 hbb r h) fun res s' hq => ?_)
  cases res with
  | ok fl =>
    cases fl with
    | ret u => exact I.after hq
    | _ => exact False.elim hq
  | error e => exact hx H s e s' I hq
/-- f(e, ..): the reading keeps the slots at the call for the error's wish -/
theorem pe_callG {t : L2.St → TA} (Fn : FnG X.prog X.w X.K X.mg X.base k f fd ps (spF p F)) (hr : Room k X.A) (hgd : X.A.guards = some []) (tk : Takes X Wx) (hg : Gl X x) (hm : X.mg x = some (.ref f)) (hk : PySem.W.keepIn X.K (.ref f) = true) (hb : Binds X.K fd ps [])
    (ha : ∀ σ, PA X (e :: es) (t σ)) (hdb : (x == ("__debug__" : Str)) = false) (he : starEach (e :: es) X.env = (false, eval e X.env) :: starEach es X.env) (hpl : (backTo pos (starEach es X.env)).any (·.1) = false) :
    PE X (.Call (.Name x p') (e :: es) [] pos) (fun σ H Q => t σ σ H fun vs H1 => spF p F vs H1 Q fun cls d H' => Wx cls d σ H') := by
  refine ⟨fun pins s σ H Q I h => wpAny_Call_Name_kw (ld_glob I hg hm ?_ hdb)⟩
  refine PySem.W.callWith_K (h₀ := X.base) I.ok.mod.kin hk (thn ((ha σ).run pos pins s σ H _ I h) fun us s1 ⟨vs, H1, I1, r, q⟩ => ⟨I1.kIn, ?_⟩) he hpl
  exact runG Fn hr hgd hb (fun H s e s' I c => tk e s' (XE.of_call I (fun cls d H' h => h) c)) I1 r q
end
section
variable {p : Pm} {Wx : WX} {m : Bool} {σ : L2.St} {G H : Hp} {fps : Fps} {ε : Ev} {F : FD}
theorem tE_callV {h : Ev → Res (List Ag × Ev)} {Q : VK} (hh : tE p Wx m (fCallV F h) σ H Q) : tR p Wx m (relC p σ) h σ H fun vs H1 => spF p F vs H1 Q fun cls d H' => Wx cls d σ H' := by
  have hh : tR p Wx (m || false) (relE p) (fCallV F h) σ H Q := by rw [Bool.or_false]; exact hh
  refine tR.bind (m2 := false) (g := fun ags ε => if ags.all isV = true then match getA ε ags with | some as => (match F as with | .ok e _ => .ok (e, ε) | .exc x => .exc x ε | .bad => .bad) | none => .bad else .bad) (fun _ _ _ _ _ h => h.1) hh
    fun ags vs ε1 G G1 H1 fps fps1 r1 rl t s a => ?_
  by_cases c : ags.all isV = true
  · rw [if_pos c] at a
    cases ea : getA ε1 ags with
    | none => rw [ea] at a; exact a.elim
    | some as =>
      rw [ea] at a
      dsimp only at a
      obtain ⟨hl, hi⟩ := getA_val c ea rl.2
      have rc : Rel p.K (as.map some) (vs.map some) G1 H1 (fun _ => []) [] := ⟨by simp [hl], r1.sub, (fun a w => by rcases w with w | ⟨_, w⟩ <;> cases w), fun _ => .nil, fun _ _ _ h => (nomatch h), .nil, fun _ _ h => (nomatch h), fun i e he => by
        obtain ⟨v, h1, h2, h3⟩ := hi i e (map_get he)
        obtain ⟨n, d⟩ := e
        obtain rfl : n = 0 := h2
        exact ⟨v, by rw [List.getElem?_map, h1]; rfl, rfl, h3⟩⟩
      have W0 : ∀ b, ¬ Wf (fun _ => []) [] b := fun b w => by rcases w with w | ⟨_, w⟩ <;> cases w
      refine ⟨as, G1, fun _ => [], rc, fun _ _ => rfl, ?_⟩
      cases eF : F as with
      | bad => rw [eF] at a; exact a
      | exc x =>
        rw [eF] at a
        intro cls d G2 H2 t2 s2 ex
        have keepAll : ∀ b o, H1 b = some o → H2 b = some o := fun b o hb => t2.keep b o hb (W0 b)
        have up : ∀ b, H1 b ≠ none → H2 b = H1 b := fun b hb => by
          cases q : H1 b with
          | none => exact absurd q hb
          | some o => exact keepAll b o q
        have g2 : ∀ b, Wf fps1 [] b → G2 b = none := fun b w => by
          cases q : G2 b with
          | none => rfl
          | some o => rcases t2.new b (by rw [q]; exact fun z => nomatch z) with z | z | z
                      · exact absurd (r1.off b w).1 z
                      · exact absurd z (r1.off b w).2
                      · exact absurd z (W0 b)
        have r2 : Rel p.K ε1 σ G2 H2 fps1 [] := ⟨r1.len, s2, fun b w => ⟨g2 b w, by rw [up b (r1.off b w).2]; exact (r1.off b w).2⟩, r1.nd, r1.dis, r1.tnd, r1.tdis, fun i e he => by
          obtain ⟨v, hv, o⟩ := r1.at' i e he
          exact ⟨v, hv, o.keep t2.grow fun b hb => up b (r1.off b (.inr ⟨i, hb⟩)).2⟩⟩
        refine a cls d G2 H2 fps1 r2 (t.trans ⟨fun b o hb _ => keepAll b o hb, t2.there, t2.grow, fun b hb => ?_, fun b w => .inl w⟩) ex
        rcases t2.new b hb with z | z | z
        · exact .inl z
        · exact .inr (.inl z)
        · exact absurd z (W0 b)
      | ok en ps =>
        rw [eF] at a
        intro v G2 H2 fps2 fp2 r2c o2 t2 _
        have keepAll : ∀ b o, H1 b = some o → H2 b = some o := fun b o hb => t2.keep b o hb (W0 b)
        have up : ∀ b, H1 b ≠ none → H2 b = H1 b := fun b hb => by
          cases q : H1 b with
          | none => exact absurd q hb
          | some o => exact keepAll b o q
        have fpn : ∀ b ∈ fp2, H1 b = none := fun b hb => (t2.wnew b (.inl hb)).resolve_left (W0 b)
        have g2 : ∀ b, Wf fps1 [] b → G2 b = none := fun b w => by
          cases q : G2 b with
          | none => rfl
          | some o => rcases t2.new b (by rw [q]; exact fun z => nomatch z) with z | z | z
                      · exact absurd (r1.off b w).1 z
                      · exact absurd z (r1.off b w).2
                      · exact absurd z (W0 b)
        have r2 : Rel p.K ε1 σ G2 H2 fps1 fp2 := ⟨r1.len, r2c.sub, fun b w => ?_, r1.nd, r1.dis, r2c.tnd, fun i b hb hi => ?_, fun i e he => ?_⟩
        · refine a v G2 H2 fps1 fp2 r2 o2 (t.trans ⟨fun b o hb _ => keepAll b o hb, t2.there, t2.grow, fun b hb => ?_, fun b w => ?_⟩) fun z => (s (by simpa using z)).trans keepAll
          · rcases t2.new b hb with z | z | z
            · exact .inl z
            · exact .inr (.inl z)
            · exact absurd z (W0 b)
          · rcases w with w | w
            · exact .inr (fpn b w)
            · exact .inl (.inr w)
        · rcases w with w | w
          · exact r2c.off b (.inl w)
          · exact ⟨g2 b (.inr w), by rw [up b (r1.off b (.inr w)).2]; exact (r1.off b (.inr w)).2⟩
        · exact (r1.off b (.inr ⟨i, hi⟩)).2 (fpn b hb)
        · obtain ⟨v, hv, o⟩ := r1.at' i e he
          exact ⟨v, hv, o.keep t2.grow fun b hb => up b (r1.off b (.inr ⟨i, hb⟩)).2⟩
  · rw [if_neg c] at a; exact a.elim
theorem owns_nil : ∀ {n : Nat} {r : List Ag}, owns n r = [] → r.all isV = true
  | _, [], _ => rfl
  | n, .val d :: r, h => by rw [List.all_cons, owns_nil (n := n + 1) h]; rfl
  | _, .own i :: r, h => by cases h
/-- one owned variable is handed on -/
theorem getA_own : ∀ {ags : List Ag} {vs : List V} {as : List Ent} {k0 k i : Nat}, owns k0 ags = [(k, i)] → getA ε ags = some as → PySem.Paired (agOk p.K σ G) vs ags → as.length = vs.length ∧ k0 ≤ k ∧ k - k0 < as.length ∧
    (∃ e v, ε[i]? = some (some e) ∧ as[k - k0]? = some e ∧ vs[k - k0]? = some v ∧ σ[i]? = some (some v)) ∧ ∀ (j : Nat) (e : Ent), j ≠ k - k0 → as[j]? = some e → ∃ v, vs[j]? = some v ∧ e.1 = 0 ∧ Rz p.K G v e.2
  | [], _, _, _, _, _, h, _, _ => by cases h
  | .val d :: r, _, as, k0, k, i, ho, h, .cons o t => by
    obtain ⟨as', h', rfl⟩ := Option.map_eq_some_iff.mp h
    obtain ⟨hl, hk, hlt, ⟨e, v, h1, h2, h3, h4⟩, ih⟩ := getA_own (k0 := k0 + 1) (show owns (k0 + 1) r = [(k, i)] from ho) h' t
    have hs : k - k0 = (k - (k0 + 1)) + 1 := by omega
    refine ⟨by simp [hl], by omega, by simp; omega, ⟨e, v, h1, by rw [hs]; simpa using h2, by rw [hs]; simpa using h3, h4⟩, fun j e hj z => ?_⟩
    cases j with
    | zero => simp at z; subst z; exact ⟨_, rfl, rfl, o⟩
    | succ j => obtain ⟨v, q1, q2⟩ := ih j e (by omega) (by simpa using z); exact ⟨v, by simpa using q1, q2⟩
  | .own i' :: r, _, as, k0, k, i, ho, h, .cons o t => by
    have ho : (k0, i') :: owns (k0 + 1) r = [(k, i)] := ho
    injection ho with e1 e2
    injection e1 with e1 e3
    subst e1 e3
    have hv : r.all isV = true := owns_nil e2
    unfold getA at h
    cases q : ε[i']? with
    | none => rw [q] at h; cases h
    | some en =>
      cases en with
      | none => rw [q] at h; cases h
      | some en =>
        rw [q] at h
        obtain ⟨as', h', rfl⟩ := Option.map_eq_some_iff.mp h
        obtain ⟨hl, ih⟩ := getA_val hv h' t
        refine ⟨by simp [hl], Nat.le_refl _, by simp, ⟨en, _, rfl, by simp, by simp, o⟩, fun j e hj z => ?_⟩
        cases j with
        | zero => omega
        | succ j => obtain ⟨v, q1, q2⟩ := ih j e (by simpa using z); exact ⟨v, by simpa using q1, q2⟩
theorem tE_callO {h : Ev → Res (List Ag × Ev)} {Q : VK} (hh : tE p Wx true (fCallO F h) σ H Q) : tR p Wx true (relC p σ) h σ H fun vs H1 => spF p F vs H1 Q fun cls d H' => Wx cls d σ H' := by
  have hh : tR p Wx (true || false) (relE p) (fCallO F h) σ H Q := hh
  refine tR.bind (m2 := false) (g := fun ags ε => match owns 0 ags with | [(k, i)] => (match getA ε ags with | some as => (match F as with | .ok e ps => .ok (e, ε.set i (ps[k]?).join) | _ => .bad) | none => .bad) | _ => .bad) (fun _ _ _ _ _ h => h.1) hh
    fun ags vs ε1 G G1 H1 fps fps1 r1 rl t s a => ?_
  cases eo : owns 0 ags with
  | nil => rw [eo] at a; exact a.elim
  | cons ki rest =>
    obtain ⟨k, i⟩ := ki
    cases rest with
    | cons _ _ => rw [eo] at a; exact a.elim
    | nil =>
      rw [eo] at a
      dsimp only at a
      cases ea : getA ε1 ags with
      | none => rw [ea] at a; exact a.elim
      | some as =>
        rw [ea] at a
        dsimp only at a
        obtain ⟨hl, _, hk, ⟨e0, v0, q1, q2, q3, q4⟩, hi⟩ := getA_own eo ea rl.2
        rw [Nat.sub_zero] at hk q2 q3 hi
        have fpsC : ∃ fc : Fps, fc = fun j => if j = k then fps1 i else [] := ⟨_, rfl⟩
        obtain ⟨fc, hfc⟩ := fpsC
        have fck : fc k = fps1 i := by rw [hfc]; simp
        have fcn : ∀ j, j ≠ k → fc j = [] := fun j hj => by rw [hfc]; simp [hj]
        have WC : ∀ b, Wf fc [] b → b ∈ fps1 i := fun b w => by
          rcases w with w | ⟨j, w⟩
          · cases w
          · by_cases hj : j = k
            · subst hj; rw [fck] at w; exact w
            · rw [fcn j hj] at w; cases w
        have rc : Rel p.K (as.map some) (vs.map some) G1 H1 fc [] := by
          refine ⟨by simp [hl], r1.sub, fun b w => r1.off b (.inr ⟨i, WC b w⟩), fun j => ?_, fun j j' b h1 h2 => ?_, .nil, fun _ _ h => (nomatch h), fun j e he => ?_⟩
          · by_cases hj : j = k
            · subst hj; rw [fck]; exact r1.nd i
            · rw [fcn j hj]; exact .nil
          · by_cases hj : j = k
            · by_cases hj' : j' = k
              · rw [hj, hj']
              · rw [fcn j' hj'] at h2; cases h2
            · rw [fcn j hj] at h1; cases h1
          · have he' := map_get he
            by_cases hj : j = k
            · subst hj
              rw [q2] at he'
              cases he'
              obtain ⟨v, hv, o⟩ := r1.at' i _ q1
              rw [q4] at hv
              cases hv
              exact ⟨v0, by rw [List.getElem?_map, q3]; rfl, by rw [fck]; exact o⟩
            · obtain ⟨v, h1, h2, h3⟩ := hi j e hj he'
              obtain ⟨n, d⟩ := e
              obtain rfl : n = 0 := h2
              exact ⟨v, by rw [List.getElem?_map, h1]; rfl, fcn j hj, h3⟩
        refine ⟨as, G1, fc, rc, fun j hj => fcn j (by omega), ?_⟩
        cases eF : F as with
        | bad => rw [eF] at a; exact a
        | exc x => rw [eF] at a; exact a.elim
        | ok en ps =>
          rw [eF] at a
          intro v G2 H2 fps2 fp2 r2c o2 t2 _
          have up : ∀ j, j ≠ i → ∀ b ∈ fps1 j, H2 b = H1 b := fun j hj b hb => by
            have nw : ¬ Wf fc [] b := fun w => hj (r1.dis j i b hb (WC b w))
            cases q : H1 b with
            | none => exact absurd q (r1.off b (.inr ⟨j, hb⟩)).2
            | some o => exact t2.keep b o q nw
          have wn : ∀ b, Wf fps2 fp2 b → b ∈ fps1 i ∨ H1 b = none := fun b w => (t2.wnew b w).imp_left (WC b)
          have apart : ∀ j, j ≠ i → ∀ b ∈ fps1 j, ¬ Wf fps2 fp2 b := fun j hj b hb w => (wn b w).elim (fun z => hj (r1.dis j i b hb z)) fun z => (r1.off b (.inr ⟨j, hb⟩)).2 z
          have r2 : Rel p.K (ε1.set i (ps[k]?).join) σ G2 H2 (setF fps1 i (fps2 k)) fp2 := by
            refine ⟨by rw [List.length_set]; exact r1.len, r2c.sub, fun b w => ?_, fun j => ?_, fun j j' b h1 h2 => ?_, r2c.tnd, fun j b hb hj => ?_, fun j e he => ?_⟩
            · rcases w with w | ⟨j, w⟩
              · exact r2c.off b (.inl w)
              · by_cases hj : j = i
                · subst hj; rw [setF_same] at w; exact r2c.off b (.inr ⟨k, w⟩)
                · rw [setF_ne hj] at w
                  refine ⟨?_, by rw [up j hj b w]; exact (r1.off b (.inr ⟨j, w⟩)).2⟩
                  cases q : G2 b with
                  | none => rfl
                  | some o => rcases t2.new b (by rw [q]; exact fun z => nomatch z) with z | z | z
                              · exact absurd (r1.off b (.inr ⟨j, w⟩)).1 z
                              · exact absurd z (r1.off b (.inr ⟨j, w⟩)).2
                              · exact absurd (r1.dis j i b w (WC b z)) hj
            · by_cases hj : j = i
              · subst hj; rw [setF_same]; exact r2c.nd k
              · rw [setF_ne hj]; exact r1.nd j
            · by_cases hj : j = i
              · by_cases hj' : j' = i
                · rw [hj, hj']
                · subst hj; rw [setF_same] at h1; rw [setF_ne hj'] at h2; exact absurd (.inr ⟨k, h1⟩) (apart j' hj' b h2)
              · rw [setF_ne hj] at h1
                by_cases hj' : j' = i
                · subst hj'; rw [setF_same] at h2; exact absurd (.inr ⟨k, h2⟩) (apart j hj b h1)
                · rw [setF_ne hj'] at h2; exact r1.dis j j' b h1 h2
            · by_cases hj' : j = i
              · subst hj'; rw [setF_same] at hj; exact r2c.tdis k b hb hj
              · rw [setF_ne hj'] at hj; exact apart j hj' b hj (.inl hb)
            · by_cases hj : j = i
              · subst hj
                have hlt : j < ε1.length := by
                  by_cases z : j < ε1.length
                  · exact z
                  · rw [List.getElem?_eq_none (by omega)] at q1; cases q1
                rw [List.getElem?_set_self hlt] at he
                have he := Option.some.inj he
                cases q : ps[k]? with
                | none => rw [q] at he; cases he
                | some o =>
                  rw [q] at he
                  have he : o = some e := he
                  rw [he] at q
                  obtain ⟨v', hv', o'⟩ := r2c.at' k e q
                  rw [List.getElem?_map, q3] at hv'
                  cases hv'
                  rw [setF_same]
                  exact ⟨v0, q4, o'⟩
              · rw [List.getElem?_set_ne (Ne.symm hj)] at he
                obtain ⟨v', hv', o'⟩ := r1.at' j e he
                rw [setF_ne hj]
                exact ⟨v', hv', o'.keep t2.grow (up j hj)⟩
          refine a v G2 H2 _ fp2 r2 o2 (t.trans ⟨fun b o hb hw => t2.keep b o hb fun w => hw (.inr ⟨i, WC b w⟩), t2.there, t2.grow, fun b hb => ?_, fun b w => ?_⟩) fun z => nomatch z
          · rcases t2.new b hb with z | z | z
            · exact .inl z
            · exact .inr (.inl z)
            · exact .inr (.inr (.inr ⟨i, WC b z⟩))
          · rcases w with w | ⟨j, w⟩
            · exact (wn b (.inl w)).imp_left fun z => .inr ⟨i, z⟩
            · by_cases hj : j = i
              · subst hj; rw [setF_same] at w; exact (wn b (.inr ⟨k, w⟩)).imp_left fun z => .inr ⟨j, z⟩
              · rw [setF_ne hj] at w; exact .inl (.inr ⟨j, w⟩)
end
end Mb
end

section
set_option Elab.async false
set_option linter.all false
set_option maxRecDepth 100000
set_option maxHeartbeats 1000000
/-! Mb19: owned lists that change, several targets -/
namespace Mb
open PySem PySem.Spec PyProof.Rows L2

section
variable {p : Pm} {Wx : WX} {m m1 m2 : Bool} {σ σ1 : L2.St} {G H G1 H1 : Hp} {fps fps1 : Fps} {fp : List Addr} {ε : Ev} {fx : List Nat} {D : Ends}
theorem Rel.mut {K : PySem.W.Frag} (r : Rel K ε σ G H fps []) {i : Nat} {a : Addr} {o : HO} {e' : Ent} {v : V} (ha : a ∈ fps i) (hv : σ[i]? = some (some v)) (h : Ow K G (upd H a o) e'.1 v e'.2 (fps i)) : Rel K (ε.set i (some e')) σ G (upd H a o) fps [] := by
  have other : ∀ b, b ≠ a → (upd H a o) b = H b := fun b hb => upd_ne hb
  refine ⟨by rw [List.length_set]; exact r.len, fun b u hb => ?_, fun b w => ⟨(r.off b w).1, ?_⟩, r.nd, r.dis, .nil, fun _ _ h => (nomatch h), fun j e he => ?_⟩
  · have : b ≠ a := fun z => by subst z; rw [(r.off b (.inr ⟨i, ha⟩)).1] at hb; cases hb
    rw [other b this]; exact r.sub b u hb
  · by_cases q : b = a
    · subst q; rw [upd_same]; exact fun z => nomatch z
    · rw [other b q]; exact (r.off b w).2
  · by_cases q : j = i
    · subst q
      have hlt : j < ε.length := by rw [← r.len]; exact (List.getElem?_eq_some_iff.mp hv).1
      rw [List.getElem?_set_self hlt] at he
      cases he
      exact ⟨v, hv, h⟩
    · rw [List.getElem?_set_ne (Ne.symm q)] at he
      obtain ⟨u, h1, h2⟩ := r.at' j e he
      exact ⟨u, h1, h2.keep (Same.refl G) fun b hb => other b fun z => by subst z; exact q (r.dis j i b hb ha)⟩
theorem Tr.mut {i : Nat} {a : Addr} {o : HO} (ha : a ∈ fps i) : Tr G H (Wf fps []) G (upd H a o) (Wf fps []) :=
  ⟨fun b u hb hw => by rw [upd_ne (fun z => hw (by subst z; exact .inr ⟨i, ha⟩))]; exact hb, fun b hb => by
    by_cases q : b = a
    · subst q; rw [upd_same]; exact fun z => nomatch z
    · rw [upd_ne q]; exact hb, Same.refl G, fun _ h => .inl h, fun _ h => .inl h⟩
/-- an owned list's own object -/
theorem ow1_list {K : PySem.W.Frag} {v : V} {ds : List PyData} (h : Ow K G H 1 v (.list ds) fp) : ∃ a vs, v = .ref a ∧ fp = [a] ∧ H a = some (.lst vs) ∧ RzAll K G vs ds := by
  obtain ⟨a, fp', e1, e2, h⟩ := h
  rcases h with ⟨vs, ds', ed, eh, r⟩ | ⟨_, _, _, ed, _⟩
  · cases ed
    have all0 : ∀ {vs : List V} {ds : List PyData} {fp' : List Addr}, All3 (Ow K G H 0) vs ds fp' → fp' = [] ∧ RzAll K G vs ds := fun x => by
      induction x with
      | nil => exact ⟨rfl, .nil⟩
      | cons r t ih => exact ⟨by rw [r.1, ih.1]; rfl, .cons r.2 ih.2⟩
    obtain ⟨e3, e4⟩ := all0 r
    subst e3
    exact ⟨a, vs, e1, e2, eh, e4⟩
  · cases ed
/-- a frozen value, then a statement's end made of it -/
theorem tS_val0 {f : Ev → Res (Ent × Ev)} {k : Ent → Ev → Res (Fl × Ev)} {R : VK} (h : tS p Wx fx (fun ε => (frzR f ε).bind fun q => k q.1 q.2) D σ H)
    (i : ∀ (v : V) (d : PyData) (ε1 : Ev) (G G1 H1 : Hp) (fps fps1 : Fps), Rel p.K ε1 σ G1 H1 fps1 [] → Rz p.K G1 v d → Tr G H (Wf fps []) G1 H1 (Wf fps1 []) → AfterS p Wx fx σ G H fps (k (0, d) ε1) D → R v H1) : tE p Wx m f σ H R := by
  obtain ⟨ε, G, fps, r, a⟩ := h
  dsimp only at a
  refine tB_frz ⟨ε, G, fps, r, ?_⟩
  cases e : frzR f ε with
  | ok q =>
    obtain ⟨⟨n, d⟩, ε1⟩ := q
    obtain rfl : n = 0 := frz_zero e
    rw [e] at a
    intro v G1 H1 fps1 fp r1 o t s
    obtain ⟨rfl, o⟩ := o
    exact i v d ε1 G G1 H1 fps fps1 r1 o t a
  | exc x ε1 => rw [e] at a; exact fun cls d G1 H1 fps1 r1 t ex => a cls d σ G1 H1 fps1 r1 t Fixed.refl ex
  | bad => rw [e] at a; exact a
def isLst : Option (Option Ent) → Bool
  | some (some (_, .list _)) => true
  | _ => false
/-- x.append(e) -/
def fApp (i : Nat) (f : Ev → Res (Ent × Ev)) : Ev → Res (Fl × Ev) := fun ε => if isLst ε[i]? = true then (frzR f ε).bind fun q => match q.2[i]? with
  | some (some (1, .list ds)) => if ds.length < LIM then .ok (.next, q.2.set i (some (1, .list (ds ++ [q.1.2])))) else .bad
  | _ => .bad
  else .bad
theorem tS_app {i : Nat} {f : Ev → Res (Ent × Ev)} (h : tS p Wx fx (fApp i f) D σ H) : tDrop (tBM p.K "list" rAppend (tVar i) (tCons (tE p Wx m f) tNil)) D σ H := by
  obtain ⟨ε, G, fps, r, a⟩ := h
  unfold fApp at a
  by_cases c : isLst ε[i]? = true
  · rw [if_pos c] at a
    have hx : ∃ n ds, ε[i]? = some (some (n, .list ds)) := by
      unfold isLst at c
      split at c
      · rename_i n ds e; exact ⟨n, ds, e⟩
      · cases c
    obtain ⟨n0, ds0, e0⟩ := hx
    obtain ⟨v0, hv0, o0⟩ := r.at' i _ e0
    obtain ⟨a0, vs0, rfl, hrd, _⟩ := bo_listN r.sub o0.bo
    refine ⟨.ref a0, hv0, .inl ⟨rfl, vs0, .inl hrd⟩, ?_⟩
    have h2 : tS p Wx fx (fun ε => (frzR f ε).bind fun q => match q.2[i]? with | some (some (1, .list ds)) => if ds.length < LIM then .ok (.next, q.2.set i (some (1, .list (ds ++ [q.1.2])))) else .bad | _ => .bad) D σ H := ⟨ε, G, fps, r, a⟩
    refine tS_val0 (k := fun e ε => match ε[i]? with | some (some (1, .list ds)) => if ds.length < LIM then .ok (.next, ε.set i (some (1, .list (ds ++ [e.2])))) else .bad | _ => .bad) h2 fun v d ε1 G G1 H1 fps fps1 r1 rz t a => ?_
    dsimp only at a
    split at a
    · rename_i ds e1
      by_cases hz : ds.length < LIM
      · rw [if_pos hz] at a
        obtain ⟨v1, hv1, o1⟩ := r1.at' i _ e1
        rw [hv0] at hv1
        cases hv1
        obtain ⟨a', vs, ea, ef, eh, er⟩ := ow1_list o1
        cases ea
        have hin : a0 ∈ fps1 i := by rw [ef]; exact List.mem_singleton.mpr rfl
        refine ⟨a0, vs, v, rfl, rfl, eh, by rw [er.length, ← lim_line]; exact hz, ?_⟩
        have r2 := r1.mut (o := .lst (vs ++ [v])) (e' := (1, .list (ds ++ [d]))) hin hv0 (by rw [ef]; exact ⟨a0, [], rfl, rfl, .inl ⟨_, _, rfl, upd_same, all3_zero (er.append (.cons rz .nil))⟩⟩)
        exact a σ G1 _ fps1 r2 (t.trans (Tr.mut hin)) Fixed.refl
      · rw [if_neg hz] at a; exact a.elim
    · exact a.elim
  · rw [if_neg c] at a; exact a.elim
def setLF (d : PyData) (i : Nat) (r : Ent × Ev) : Res (Fl × Ev) := match r.1.2, r.2[i]? with
  | .int k, some (some (1, .list ds)) => match ixN ds.length k with
    | some j => .ok (.next, r.2.set i (some (1, .list (ds.set j d))))
    | none => .bad
  | _, _ => .bad
/-- x[j] = e, x a list -/
def fSetL (i : Nat) (f g : Ev → Res (Ent × Ev)) : Ev → Res (Fl × Ev) := fun ε => (frzR f ε).bind fun q => match q.2[i]? with
  | some (some _) => (g q.2).bind fun r => setLF q.1.2 i r
  | _ => .bad
theorem rz_set {K : PySem.W.Frag} {G : Hp} {v : V} {d : PyData} (h : Rz K G v d) : ∀ {vs : List V} {ds : List PyData} (j : Nat), RzAll K G vs ds → RzAll K G (vs.set j v) (ds.set j d)
  | _, _, _, .nil => .nil
  | _, _, 0, .cons _ t => .cons h t
  | _, _, j + 1, .cons r t => .cons r (rz_set h j t)
theorem tS_setL {i : Nat} {f g : Ev → Res (Ent × Ev)} (h : tS p Wx fx (fSetL i f g) D σ H) : tAsg (tE p Wx m f) (gSub (tVar i) (tB p Wx m1 g) rSetL) D σ H := by
  refine tS_val0 (k := fun e ε => match ε[i]? with | some (some _) => (g ε).bind fun r => setLF e.2 i r | _ => .bad) h
    fun v d ε1 G G1 H1 fps fps1 r1 rz t a => ?_
  cases e : ε1[i]? with
  | none => rw [e] at a; exact a.elim
  | some o =>
    cases o with
    | none => rw [e] at a; exact a.elim
    | some en =>
      rw [e] at a
      dsimp only at a
      obtain ⟨v0, hv0, o0⟩ := r1.at' i _ e
      refine ⟨v0, hv0, ε1, G1, fps1, r1, ?_⟩
      cases e2 : g ε1 with
      | exc x ε2 => rw [e2] at a; exact fun cls d G2 H2 fps2 r2 t2 ex => a cls d σ G2 H2 fps2 r2 (t.trans t2) Fixed.refl ex
      | bad => rw [e2] at a; exact a
      | ok q =>
        obtain ⟨⟨n, dk⟩, ε2⟩ := q
        rw [e2] at a
        intro vk G2 H2 fps2 fp r2 rl t2 _
        obtain ⟨rfl, rl⟩ := rl
        replace a : AfterS p Wx fx σ G H fps (setLF d i ((n, dk), ε2)) D := a
        unfold setLF at a
        dsimp only at a rl
        split at a
        · rename_i k ds e3
          split at a
          · rename_i j hj
            obtain ⟨v1, hv1, o1⟩ := r2.at' i _ e3
            rw [hv0] at hv1
            cases hv1
            obtain ⟨a', vs, ea, ef, eh, er⟩ := ow1_list o1
            have hin : a' ∈ fps2 i := by rw [ef]; exact List.mem_singleton.mpr rfl
            have r3 := r2.mut (o := .lst (vs.set j v)) (e' := (1, .list (ds.set j d))) hin hv0 (by rw [ef]; exact ⟨a', [], ea, rfl, .inl ⟨_, _, rfl, upd_same, all3_zero (rz_set (rz.same t2.grow) j er)⟩⟩)
            exact ⟨a', vs, k, j, ea, bo_int r2.sub rl, eh, by rw [er.length]; exact hj, a σ G2 _ fps2 r3 ((t.trans t2).trans (Tr.mut hin)) Fixed.refl⟩
          · exact a.elim
        · exact a.elim

/-! ### several values that may be owned -/
inductive AllE (K : PySem.W.Frag) (G H : Hp) : List V → List Ent → List Addr → Prop
  | nil : AllE K G H [] [] []
  | cons {v : V} {vs : List V} {e : Ent} {es : List Ent} {f fs : List Addr} : Ow K G H e.1 v e.2 f → AllE K G H vs es fs → AllE K G H (v :: vs) (e :: es) (f ++ fs)
def relAO (p : Pm) : List V → List Ent → Hp → Hp → List Addr → Prop := fun vs es G H fp => AllE p.K G H vs es fp
def oCons (f : Ev → Res (Ent × Ev)) (g : Ev → Res (List Ent × Ev)) : Ev → Res (List Ent × Ev) := fun ε => (f ε).bind fun q => (g q.2).bind fun r => .ok (q.1 :: r.1, r.2)
theorem tAO_nil {Q : List V → Hp → Prop} (h : tR p Wx m (relAO p) fNil σ H Q) : tNil σ H Q := by
  obtain ⟨ε, G, fps, r, a⟩ := h
  exact a [] G H fps [] r .nil Tr.refl fun _ => Same.refl H
theorem AllE.keep {K : PySem.W.Frag} {G' H' : Hp} (g : Same G G') : ∀ {vs : List V} {es : List Ent} {fp : List Addr}, (∀ a ∈ fp, H' a = H a) → AllE K G H vs es fp → AllE K G' H' vs es fp
  | _, _, _, _, .nil => .nil
  | _, _, _, k, .cons o t => .cons (o.keep g fun a ha => k a (List.mem_append_left _ ha)) (AllE.keep g (fun a ha => k a (List.mem_append_right _ ha)) t)
theorem tAO_cons {f : Ev → Res (Ent × Ev)} {g : Ev → Res (List Ent × Ev)} {Q : List V → Hp → Prop} (h : tR p Wx true (relAO p) (oCons f g) σ H Q) :
    tE p Wx true f σ H fun x H1 => tR p Wx true (relAO p) g σ H1 fun xs H2 => Q (x :: xs) H2 := by
  obtain ⟨ε, G, fps, r, a⟩ := h
  unfold oCons at a
  refine ⟨ε, G, fps, r, ?_⟩
  cases e : f ε with
  | exc x ε1 => rw [e] at a; exact a
  | bad => rw [e] at a; exact a
  | ok q =>
    obtain ⟨en, ε1⟩ := q
    rw [e] at a
    intro v G1 H1 fps1 fp1 r1 o1 t1 _
    refine ⟨ε1, G1, fps1, r1.drop, ?_⟩
    have a : After p Wx true σ G H fps (relAO p) ((g ε1).bind fun r => .ok (en :: r.1, r.2)) Q := a
    cases e2 : g ε1 with
    | exc x ε2 => rw [e2] at a; exact fun cls d G2 H2 fps2 r2 t2 ex => a cls d G2 H2 fps2 r2 (t1.drop.trans t2) ex
    | bad => rw [e2] at a; exact a
    | ok q =>
      obtain ⟨es, ε2⟩ := q
      rw [e2] at a
      intro vs G2 H2 fps2 fp2 r2 o2 t2 _
      -- the first one's objects
      have nw : ∀ b ∈ fp1, ¬ Wf fps1 [] b := fun b hb w => by
        rcases w with w | ⟨j, w⟩
        · cases w
        · exact r1.tdis j b hb w
      have hne : ∀ b ∈ fp1, H1 b ≠ none := fun b hb => (r1.off b (.inl hb)).2
      have up : ∀ b ∈ fp1, H2 b = H1 b := fun b hb => by
        cases q : H1 b with
        | none => exact absurd q (hne b hb)
        | some o => exact t2.keep b o q (nw b hb)
      have nw2 : ∀ b ∈ fp1, ¬ Wf fps2 fp2 b := fun b hb w => (t2.wnew b w).elim (nw b hb) (hne b hb)
      have g2 : ∀ b ∈ fp1, G2 b = none := fun b hb => by
        cases q : G2 b with
        | none => rfl
        | some o => rcases t2.new b (by rw [q]; exact fun z => nomatch z) with z | z | z
                    · exact absurd (r1.off b (.inl hb)).1 z
                    · exact absurd z (hne b hb)
                    · exact absurd z (nw b hb)
      have rr : Rel p.K ε2 σ G2 H2 fps2 (fp1 ++ fp2) := ⟨r2.len, r2.sub, fun b w => ?_, r2.nd, r2.dis, ?_, fun j b hb hj => ?_, r2.at'⟩
      · refine a (v :: vs) G2 H2 fps2 (fp1 ++ fp2) rr (.cons (o1.keep t2.grow up) o2) ⟨fun b o hb hw => t2.keep b o (t1.keep b o hb hw) fun w => ?_, fun b hb => t2.there b (t1.there b hb), t1.grow.trans t2.grow, fun b hb => ?_, fun b w => ?_⟩ fun z => nomatch z
        · exact (t1.wnew b w.drop).elim hw fun z => by rw [hb] at z; cases z
        · exact (t1.drop.trans t2).new b hb
        · rcases w with w | ⟨j, w⟩
          · rcases List.mem_append.mp w with w | w
            · exact t1.wnew b (.inl w)
            · exact (t1.drop.trans t2).wnew b (.inl w)
          · exact (t1.drop.trans t2).wnew b (.inr ⟨j, w⟩)
      · rcases w with w | w
        · rcases List.mem_append.mp w with w | w
          · exact ⟨g2 b w, by rw [up b w]; exact hne b w⟩
          · exact r2.off b (.inl w)
        · exact r2.off b (.inr w)
      · exact List.nodup_append.mpr ⟨r1.tnd, r2.tnd, fun b hb c hc e => by subst e; exact nw2 b hb (.inl hc)⟩
      · rcases List.mem_append.mp hb with hb | hb
        · exact nw2 b hb (.inr ⟨j, hj⟩)
        · exact r2.tdis j b hb hj
def setEnts : List Nat → List Ent → Ev → Ev
  | i :: is, e :: es, ε => setEnts is es (ε.set i (some e))
  | _, _, ε => ε
/-- one of the temporaries becomes a variable's -/
theorem Rel.assign1 {K : PySem.W.Frag} {f fs : List Addr} (r : Rel K ε σ G H fps (f ++ fs)) (i : Nat) {e : Ent} {v : V} (o : Ow K G H e.1 v e.2 f) : Rel K (ε.set i (some e)) (σ.set i (some v)) G H (setF fps i f) fs := by
  have nd := List.nodup_append.mp r.tnd
  have r1 : Rel K ε σ G H fps f := ⟨r.len, r.sub, fun b w => r.off b (w.imp_left fun z => List.mem_append_left _ z), r.nd, r.dis, nd.1, fun j b hb => r.tdis j b (List.mem_append_left _ hb), r.at'⟩
  have r2 := r1.assign i o
  refine ⟨r2.len, r2.sub, fun b w => ?_, r2.nd, r2.dis, nd.2.1, fun j b hb hj => ?_, r2.at'⟩
  · rcases w with w | w
    · exact r.off b (.inl (List.mem_append_right _ w))
    · exact r2.off b (.inr w)
  · by_cases q : j = i
    · subst q; rw [setF_same] at hj; exact nd.2.2 b hj b hb rfl
    · rw [setF_ne q] at hj; exact r.tdis j b (List.mem_append_right _ hb) hj
theorem Rel.setEnts {K : PySem.W.Frag} : ∀ (is : List Nat) {es : List Ent} {vs : List V} {ε : Ev} {σ : L2.St} {fps : Fps} {fp : List Addr}, Rel K ε σ G H fps fp → AllE K G H vs es fp →
    ∃ fps', Rel K (Mb.setEnts is es ε) (setAllV is vs σ) G H fps' [] ∧ (∀ a, Wf fps' [] a → Wf fps fp a)
  | [], es, vs, ε, σ, fps, fp, r, h => ⟨fps, by cases h <;> simpa [Mb.setEnts, setAllV] using r.drop, fun _ w => w.drop⟩
  | i :: is, [], _, ε, σ, fps, _, r, .nil => ⟨fps, by simpa [Mb.setEnts, setAllV] using r, fun _ w => w⟩
  | i :: is, e :: es, _ :: _, ε, σ, fps, _, r, .cons o t => by
    obtain ⟨fps', r', w⟩ := Rel.setEnts is (r.assign1 i o) t
    refine ⟨fps', r', fun a ha => ?_⟩
    rcases w a ha with z | ⟨j, z⟩
    · exact .inl (List.mem_append_right _ z)
    · by_cases q : j = i
      · subst q; rw [setF_same] at z; exact .inl (List.mem_append_left _ z)
      · rw [setF_ne q] at z; exact .inr ⟨j, z⟩
theorem AllE.length {K : PySem.W.Frag} : ∀ {vs : List V} {es : List Ent} {fp : List Addr}, AllE K G H vs es fp → vs.length = es.length
  | _, _, _, .nil => rfl
  | _, _, _, .cons _ t => by simp [AllE.length t]
/-- x, y, .. = a, b, .. -/
def fPar (fx is : List Nat) (h : Ev → Res (List Ent × Ev)) : Ev → Res (Fl × Ev) := fun ε => (h ε).bind fun q => if q.1.length = is.length ∧ is.all (fun i => !fx.contains i) = true then .ok (.next, setEnts is q.1 q.2) else .bad
theorem tS_par {is : List Nat} {h : Ev → Res (List Ent × Ev)} (hh : tS p Wx fx (fPar fx is h) D σ H) : tR p Wx m (relAO p) h σ H fun vs H1 => vs.length = is.length ∧ D.nx (setAllV is vs σ) H1 := by
  refine tS_val (k := fun es ε => if es.length = is.length ∧ is.all (fun i => !fx.contains i) = true then .ok (.next, setEnts is es ε) else .bad) hh fun vs es ε1 G G1 H1 fps fps1 fp r1 o t a => ?_
  by_cases c : es.length = is.length ∧ is.all (fun i => !fx.contains i) = true
  · rw [if_pos c] at a
    obtain ⟨fps', r', w⟩ := r1.setEnts is o
    refine ⟨(AllE.length o).trans c.1, a _ G1 H1 fps' r' ⟨t.keep, t.there, t.grow, t.new, fun b hb => t.wnew b (w b hb)⟩ (Fixed.setAll is _ σ fun i hi => ?_)⟩
    have := List.all_eq_true.mp c.2 i hi
    exact not_fx (by simpa using this)
  · rw [if_neg c] at a; exact a.elim
end
end Mb
end

section
set_option Elab.async false
set_option linter.all false
set_option maxRecDepth 100000
set_option maxHeartbeats 1000000
/-! Mb20: the small syntax and what it denotes -/
namespace Mb
open PySem PySem.Spec PyProof.Rows L2

inductive BOp where
  | add | sub | mul | mod | div
  deriving DecidableEq
inductive COp where
  | eq | ne | lt | le | gt | ge | is | isn | in' | nin
  deriving DecidableEq
inductive Bi where
  | len | abs | int | str | repr | tuple | list | sum | all | any
  deriving DecidableEq
inductive Me where
  | split | join | partition
  deriving DecidableEq
/-- a target: a name, or a tuple of names -/
inductive TgA where
  | nm (i : Nat)
  | tp (is : List Nat)
mutual
inductive Ex where
  | var (i : Nat)
  | non | bl (b : Bool) | int (i : Int) | str (s : Str)
  | glob (j : Nat)
  | tup (es : Exs) | lst (es : Exs)
  | bin (o : BOp) (a b : Ex) | neg (a : Ex)
  | cmp (o : COp) (a b : Ex)
  | chain (o o' : COp) (a b c : Ex)
  | and (a b : Ex) | or (a b : Ex) | not (a : Ex)
  | ite (c a b : Ex)
  | idx (a b : Ex)
  | ixv (i : Nat) (b : Ex)
  | sl (a : Ex) (lo hi : Exo)
  | bi (f : Bi) (a : Ex)
  | me (f : Me) (o a : Ex)
  | isi (T : String) (a : Ex)
  | call (j : Nat) (as : Ags)
  | comp (own : List (Str × Nat)) (tg : TgA) (src : Sr) (cond : Exo) (elt : Ex)
  | fmt (a : Ex)
  | fstr (es : Exs)
  | srt (a : Ex)
inductive Exs where
  | nil
  | cons (e : Ex) (es : Exs)
inductive Exo where
  | no
  | so (e : Ex)
inductive Ags where
  | nil
  | own (i : Nat) (r : Ags)
  | val (e : Ex) (r : Ags)
inductive Sr where
  | inn (e : Ex)
  | rng1 (e : Ex)
  | enum (e : Ex)
end

def BOp.F : BOp → List Ent → Option Ent
  | .add => addF
  | .sub => intF (fun _ _ => true) fun i j => i - j
  | .mul => intF mulC fun i j => i * j
  | .mod => intF (fun _ j => decide (0 < j)) fun i j => i % j
  | .div => intF divC fun i j => i / j
def BOp.op : BOp → Operator
  | .add => .Add
  | .sub => .Sub
  | .mul => .Mult
  | .mod => .Mod
  | .div => .FloorDiv
def COp.F : COp → List Ent → Option Ent
  | .eq => cmpF okEq PyData.eqv
  | .ne => cmpF okEq fun a b => !PyData.eqv a b
  | .lt => cmpF okLt PySem.W.dataLt
  | .gt => cmpF okLt fun a b => PySem.W.dataLt b a
  | .le => cmpF okLt fun a b => !PySem.W.dataLt b a
  | .ge => cmpF okLt fun a b => !PySem.W.dataLt a b
  | .is => isF false
  | .isn => isF true
  | .in' => inF false
  | .nin => inF true
def COp.op : COp → CmpOp
  | .eq => .Eq
  | .ne => .NotEq
  | .lt => .Lt
  | .gt => .Gt
  | .le => .LtE
  | .ge => .GtE
  | .is => .Is
  | .isn => .IsNot
  | .in' => .In
  | .nin => .NotIn
def Bi.F : Bi → List Ent → Option Ent
  | .len => lenF
  | .abs => absF
  | .int => intFn
  | .str => strFn
  | .repr => reprFn
  | .tuple => tupFn
  | .list => lstFn
  | .sum => sumFn
  | .all => allFn false
  | .any => allFn true
def Bi.name : Bi → Str
  | .len => "len"
  | .abs => "abs"
  | .int => "int"
  | .str => "str"
  | .repr => "repr"
  | .tuple => "tuple"
  | .list => "list"
  | .sum => "sum"
  | .all => "all"
  | .any => "any"
def Bi.val : Bi → Value
  | .len => .builtin "len"
  | .abs => .builtin "abs"
  | .int => .type "int"
  | .str => .type "str"
  | .repr => .builtin "repr"
  | .tuple => .type "tuple"
  | .list => .type "list"
  | .sum => .builtin "sum"
  | .all => .builtin "all"
  | .any => .builtin "any"
def Me.F : Me → List Ent → Option Ent
  | .split => splitF
  | .join => joinF
  | .partition => partF
def Me.name : Me → Str
  | .split => "split"
  | .join => "join"
  | .partition => "partition"

def zeros : List Ent → Option (List PyData)
  | [] => some []
  | (0, d) :: r => (zeros r).map (d :: ·)
  | _ => none
def tupD (as : List Ent) : Option Ent := match zeros as with
  | some ds => if ds.length ≤ LIM then some (0, .tuple ds) else none
  | none => none
def lstD (as : List Ent) : Option Ent := match zeros as with
  | some ds => if ds.length ≤ LIM then some (1, .list ds) else none
  | none => none
/-- sorted(set(x)), x of texts alone or of ints alone -/
def dedS : List Str → List Str
  | [] => []
  | x :: r => if (dedS r).contains x then dedS r else x :: dedS r
def dedI : List Int → List Int
  | [] => []
  | x :: r => if (dedI r).contains x then dedI r else x :: dedI r
def leS (a b : Str) : Bool := decide (a.cps.toList ≤ b.cps.toList)
def srtF : Ent → Option Ent
  | (n, .list ds) => if n ≤ 1 ∧ ds.length < 4000 then match strsOf ds with
    | some ss => some (1, .list (((dedS ss).mergeSort leS).map PyData.str))
    | none => (intsOf ds).map fun ns => (1, .list (((dedI ns).mergeSort fun a b => decide (a ≤ b)).map PyData.int))
    else none
  | _ => none

/-- what is known of the module -/
structure Gm where
  blt : List Str
  glb : List (Str × PyData)
  fns : List (Str × FD)
  exs : List (Str × (List Ent → Option Exn))

/-- what an expression denotes: as a value, borrowed, as a test; whether it changes what is owned -/
structure Den where
  v : Ev → Res (Ent × Ev)
  b : Ev → Res (Ent × Ev)
  t : Ev → Res (Bool × Ev)
  m : Bool
def Den.val (f : Ev → Res (Ent × Ev)) (m : Bool) : Den := ⟨f, frzR f, fTru (frzR f), m⟩
def Den.bad : Den := ⟨fun _ => .bad, fun _ => .bad, fun _ => .bad, false⟩
def TgA.tgt (fx : List Nat) : TgA → Tgt
  | .nm i => tgName fx i
  | .tp is => tgTup fx is
def fTrue : Ev → Res (Bool × Ev) := fun ε => .ok (true, ε)

mutual
def den (Γ : Gm) : Ex → Den
  | .var i => ⟨fVar i, fVarB i, fTru (fVarB i), false⟩
  | .non => .val (fLit .none) false
  | .bl b => .val (fLit (.bool b)) false
  | .int i => .val (fLit (.int i)) false
  | .str s => .val (fLit (.str s)) false
  | .glob j => match Γ.glb[j]? with
    | some q => .val (fLit q.2) false
    | none => .bad
  | .tup es => .val (fOp tupD (denV Γ es).1) (denV Γ es).2
  | .lst es => .val (fOp lstD (denV Γ es).1) (denV Γ es).2
  | .bin o a b => .val (fOp2 o.F (den Γ b).m (den Γ a).b (den Γ b).b) ((den Γ a).m || (den Γ b).m)
  | .neg a => .val (fUn negF (den Γ a).b) (den Γ a).m
  | .cmp o a b => ⟨fOp2 o.F (den Γ b).m (den Γ a).b (den Γ b).b, frzR (fOp2 o.F (den Γ b).m (den Γ a).b (den Γ b).b), fBool (fOp2 o.F (den Γ b).m (den Γ a).b (den Γ b).b), (den Γ a).m || (den Γ b).m⟩
  | .chain o o' a b c => if (den Γ b).m || (den Γ c).m then .bad else ⟨fChain o.F o'.F (den Γ a).b (den Γ b).b (den Γ c).b, frzR (fChain o.F o'.F (den Γ a).b (den Γ b).b (den Γ c).b), fBool (fChain o.F o'.F (den Γ a).b (den Γ b).b (den Γ c).b), (den Γ a).m⟩
  | .and a b => ⟨fAnd (den Γ a).v (den Γ b).v, frzR (fAnd (den Γ a).v (den Γ b).v), fAndT (den Γ a).t (den Γ b).t, (den Γ a).m || (den Γ b).m⟩
  | .or a b => ⟨fOr (den Γ a).v (den Γ b).v, frzR (fOr (den Γ a).v (den Γ b).v), fOrT (den Γ a).t (den Γ b).t, (den Γ a).m || (den Γ b).m⟩
  | .not a => ⟨fNot (den Γ a).b, frzR (fNot (den Γ a).b), fNotT (den Γ a).t, (den Γ a).m⟩
  | .ite c a b => ⟨fIf (den Γ c).t (den Γ a).v (den Γ b).v, frzR (fIf (den Γ c).t (den Γ a).v (den Γ b).v), fIf (den Γ c).t (den Γ a).t (den Γ b).t, (den Γ c).m || ((den Γ a).m || (den Γ b).m)⟩
  | .idx a b => ⟨only0 (fOp2 ixF (den Γ b).m (den Γ a).b (den Γ b).b), fOp2 ixF (den Γ b).m (den Γ a).b (den Γ b).b, fTru (fOp2 ixF (den Γ b).m (den Γ a).b (den Γ b).b), (den Γ a).m || (den Γ b).m⟩
  | .ixv i b => ⟨only0 (fIxV i ixF (den Γ b).b), fIxV i ixF (den Γ b).b, fTru (fIxV i ixF (den Γ b).b), (den Γ b).m⟩
  | .sl a lo hi => .val (fSl slF (denO Γ lo).2 (denO Γ hi).2 (den Γ a).b (denO Γ lo).1 (denO Γ hi).1) ((den Γ a).m || ((denO Γ lo).2 || (denO Γ hi).2))
  | .bi f a => .val (fOp f.F (fCons false (den Γ a).b fNil)) (den Γ a).m
  | .me f o a => .val (fM1 f.F (den Γ a).m (den Γ o).b (den Γ a).b) ((den Γ o).m || (den Γ a).m)
  | .isi T a => .val (fUn (isiF T) (den Γ a).b) (den Γ a).m
  | .call j as => match Γ.fns[j]? with
    | some q => if (denG Γ as).2.2 = true then .val (fCallO q.2 (denG Γ as).1) true else .val (fCallV q.2 (denG Γ as).1) (denG Γ as).2.1
    | none => .bad
  | .comp own tg src cond elt => .val (fComp (own.map (·.2)) (tg.tgt []) (denR Γ src).1 (denC Γ cond).1 (den Γ elt).v) ((denR Γ src).2 || ((denC Γ cond).2 || (den Γ elt).m))
  | .fmt a => .val (fUn fmtF (den Γ a).b) (den Γ a).m
  | .fstr es => .val (fStr (denJ Γ es)) (anyM (denJ Γ es))
  | .srt a => .val (fUn srtF (den Γ a).b) (den Γ a).m
/-- several values -/
def denV (Γ : Gm) : Exs → (Ev → Res (List Ent × Ev)) × Bool
  | .nil => (fNil, false)
  | .cons e es => (fCons (denV Γ es).2 (frzR (den Γ e).v) (denV Γ es).1, (den Γ e).m || (denV Γ es).2)
/-- a slice's part -/
def denO (Γ : Gm) : Exo → (Ev → Res (Option Int × Ev)) × Bool
  | .no => (fNoPart, false)
  | .so e => (fPart (den Γ e).b, (den Γ e).m)
/-- a comprehension's test -/
def denC (Γ : Gm) : Exo → (Ev → Res (Bool × Ev)) × Bool
  | .no => (fTrue, false)
  | .so e => ((den Γ e).t, (den Γ e).m)
/-- a call's arguments; whether they change something; whether one is owned -/
def denG (Γ : Gm) : Ags → (Ev → Res (List Ag × Ev)) × Bool × Bool
  | .nil => (cNil, false, false)
  | .own i r => (cOwn i (denG Γ r).1, (denG Γ r).2.1, true)
  | .val e r => (cVal (den Γ e).v (denG Γ r).1, (den Γ e).m || (denG Γ r).2.1, (denG Γ r).2.2)
def denR (Γ : Gm) : Sr → (Ev → Res (List PyData × Ev)) × Bool
  | .inn e => (fIn (den Γ e).v, (den Γ e).m)
  | .rng1 e => (fRng1 (den Γ e).v, (den Γ e).m)
  | .enum e => (fEnum (den Γ e).v, (den Γ e).m)
def denJ (Γ : Gm) : Exs → List (Bool × (Ev → Res (Ent × Ev)))
  | .nil => []
  | .cons e es => ((den Γ e).m, (den Γ e).b) :: denJ Γ es
end
/-- several values that may be owned -/
def denOw (Γ : Gm) : Exs → (Ev → Res (List Ent × Ev))
  | .nil => fNil
  | .cons e es => oCons (den Γ e).v (denOw Γ es)

/-! ### statements -/
/-- what an except clause gives back -/
inductive Hd where
  | k (e : Ex)
  | fld (i : Nat) (f : Str)
  | fldIf (i : Nat) (f : Str) (c : Int) (a b : Ex)
def Hd.slot : Hd → Option Nat
  | .k _ => none
  | .fld i _ => some i
  | .fldIf i _ _ _ _ => some i
def dHd (Γ : Gm) : Hd → Exn → Ev → Res (Ent × Ev)
  | .k e => fun _ => (den Γ e).v
  | .fld _ f => fun x ε => match x.fs.lookup f with
    | some d => .ok ((0, d), ε)
    | none => .bad
  | .fldIf _ f c a b => fun x => match x.fs.lookup f with
    | some (.int n) => if n = c then (den Γ a).v else (den Γ b).v
    | _ => fun _ => .bad
def forgetE : Option Nat → Ev → Ev
  | none, ε => ε
  | some i, ε => ε.set i none
def okSlot : Option Nat → Ev → Bool
  | none, _ => true
  | some i, ε => decide (i < ε.length)
def fTry (c : Str) (b : Ev → Res (Fl × Ev)) (hd : Exn → Ev → Res (Ent × Ev)) (si : Option Nat) : Ev → Res (Fl × Ev) := fun ε => match b ε with
  | .exc x ε' => if x.cls = c ∧ okSlot si ε' = true then match hd x (forgetE si ε') with
    | .ok q => .ok (.ret q.1, q.2)
    | _ => .bad
    else .bad
  | r => r
def fRais (F : List Ent → Option Exn) (h : Ev → Res (List Ent × Ev)) : Ev → Res (Fl × Ev) := fun ε => (h ε).bind fun q => match F q.1 with
  | some x => .exc x q.2
  | none => .bad
mutual
inductive Sm where
  | asg (i : Nat) (e : Ex)
  | par (is : List Nat) (es : Exs)
  | asgT (is : List Nat) (e : Ex)
  | app (i : Nat) (e : Ex)
  | setL (i : Nat) (j e : Ex)
  | expr (e : Ex)
  | ite (c : Ex) (a b : Sms)
  | whl (c : Ex) (b : Sms)
  | forr (tg : TgA) (src : Sr) (b : Sms)
  | ret (e : Ex) | retV (i : Nat) | retN
  | brk | cont | pass
  | rais (j : Nat) (es : Exs)
  | tryK (b : Sms) (j : Nat) (h : Hd)
inductive Sms where
  | nil
  | cons (s : Sm) (r : Sms)
end
mutual
noncomputable def dS (Γ : Gm) (fx : List Nat) : Sm → Ev → Res (Fl × Ev)
  | .asg i e => fAsg fx i (den Γ e).v
  | .par is es => fPar fx is (denOw Γ es)
  | .asgT is e => fAsgT fx is (den Γ e).v
  | .app i e => fApp i (den Γ e).v
  | .setL i j e => fSetL i (den Γ e).v (den Γ j).b
  | .expr e => fExpr (den Γ e).v
  | .ite c a b => fIfS (den Γ c).t (dSs Γ fx a) (dSs Γ fx b)
  | .whl c b => fWh (den Γ c).t (dSs Γ fx b)
  | .forr tg src b => fFor (tg.tgt fx) (denR Γ src).1 (dSs Γ fx b)
  | .ret e => fRet (den Γ e).v
  | .retV i => fRetV fx i
  | .retN => fRetN
  | .brk => fBrk
  | .cont => fCont
  | .pass => fNext
  | .rais j es => match Γ.exs[j]? with
    | some q => fRais q.2 (denV Γ es).1
    | none => fun _ => .bad
  | .tryK b j h => match Γ.exs[j]? with
    | some q => if h.slot.all (fun i => !fx.contains i) = true then fTry q.1 (dSs Γ fx b) (dHd Γ h) h.slot else fun _ => .bad
    | none => fun _ => .bad
noncomputable def dSs (Γ : Gm) (fx : List Nat) : Sms → Ev → Res (Fl × Ev)
  | .nil => fNext
  | .cons s r => fSeq (dS Γ fx s) (dSs Γ fx r)
end
end Mb
end

section
set_option Elab.async false
set_option linter.all false
set_option maxRecDepth 100000
set_option maxHeartbeats 1000000
/-! Mb21: the small syntax stands for the written one -/
namespace Mb
open PySem PySem.Spec PyProof.Rows L2

def vis (sc : Scope) (x : Str) : Bool := match sc.names.lookup x with
  | some .local => true
  | some .cell => true
  | some .free => true
  | _ => false
def gl (sc : Scope) (x : Str) : Bool := match sc.names.lookup x with
  | some .globalImplicit => true
  | _ => false
def locS (sc : Scope) (x : Str) : Bool := match sc.names.lookup x with
  | some .local => true
  | some .cell => true
  | _ => false
def okN (x : Str) : Bool := !(x == ("__debug__" : Str)) && !(x == ("__classdict__" : Str)) && !(x == ("__name__" : Str))
def nmAt (N : List Str) (i : Nat) (x : Str) : Bool := match N[i]? with
  | some y => y == x
  | none => false
def bltOk (Γ : Gm) (sc : Scope) (x : Str) : Bool := Γ.blt.contains x && gl sc x && okN x
/-- a name as a target -/
def chkN (N : List Str) (sc : Scope) (i : Nat) : Expr → Bool
  | .Name x _ => nmAt N i x && locS sc x
  | _ => false
def chkNs (N : List Str) (sc : Scope) : List Nat → List Expr → Bool
  | [], [] => true
  | i :: is, e :: es => chkN N sc i e && chkNs N sc is es
  | _, _ => false
def chkTg (N : List Str) (sc : Scope) : TgA → Expr → Bool
  | .nm i, e => chkN N sc i e
  | .tp is, .Tuple es _ _ => chkNs N sc is es
  | _, _ => false
def TgA.slots : TgA → List Nat
  | .nm i => [i]
  | .tp is => is
def isTup : Expr → Bool
  | .Tuple _ _ _ => true
  | _ => false
def tyNames : List String := ["str", "int", "tuple", "bool", "list"]
mutual
def chk (Γ : Gm) (N : List Str) (sc : Scope) : Ex → Expr → Bool
  | .var i, ex => match ex with
    | .Name x _ => nmAt N i x && vis sc x && okN x
    | _ => false
  | .non, ex => match ex with
    | .Constant .none _ _ => true
    | _ => false
  | .bl b, ex => match ex with
    | .Constant (.bool c) _ _ => b == c
    | _ => false
  | .int b, ex => match ex with
    | .Constant (.int c) _ _ => b == c
    | _ => false
  | .str b, ex => match ex with
    | .Constant (.str c) _ _ => b == c
    | _ => false
  | .glob j, ex => match ex, Γ.glb[j]? with
    | .Name x _, some q => q.1 == x && gl sc x && okN x
    | _, _ => false
  | .tup es, ex => match ex with
    | .Tuple xs _ _ => chkS Γ N sc es xs
    | _ => false
  | .lst es, ex => match ex with
    | .List xs _ => chkS Γ N sc es xs
    | _ => false
  | .bin o a b, ex => match ex with
    | .BinOp x op y _ => decide (op = o.op) && chk Γ N sc a x && chk Γ N sc b y
    | _ => false
  | .neg a, ex => match ex with
    | .UnaryOp .USub x _ => chk Γ N sc a x
    | _ => false
  | .cmp o a b, ex => match ex with
    | .Compare x [op] [y] _ => decide (op = o.op) && chk Γ N sc a x && chk Γ N sc b y
    | _ => false
  | .chain o o' a b c, ex => match ex with
    | .Compare x [op, op'] [y, z] _ => decide (op = o.op) && decide (op' = o'.op) && chk Γ N sc a x && chk Γ N sc b y && chk Γ N sc c z
    | _ => false
  | .and a b, ex => match ex with
    | .BoolOp .And [x, y] _ => chk Γ N sc a x && chk Γ N sc b y
    | .BoolOp .And (x :: y :: z :: r) pos => chk Γ N sc a x && chk Γ N sc b (.BoolOp .And (y :: z :: r) pos)
    | _ => false
  | .or a b, ex => match ex with
    | .BoolOp .Or [x, y] _ => chk Γ N sc a x && chk Γ N sc b y
    | .BoolOp .Or (x :: y :: z :: r) pos => chk Γ N sc a x && chk Γ N sc b (.BoolOp .Or (y :: z :: r) pos)
    | _ => false
  | .not a, ex => match ex with
    | .UnaryOp .Not x _ => chk Γ N sc a x
    | _ => false
  | .ite c a b, ex => match ex with
    | .IfExp z x y _ => chk Γ N sc c z && chk Γ N sc a x && chk Γ N sc b y
    | _ => false
  | .idx a b, ex => match ex with
    | .Subscript x y _ => chk Γ N sc a x && chk Γ N sc b y
    | _ => false
  | .ixv i b, ex => match ex with
    | .Subscript (.Name x _) y _ => nmAt N i x && vis sc x && okN x && chk Γ N sc b y
    | _ => false
  | .sl a lo hi, ex => match ex with
    | .Subscript x (.Slice l h none _) _ => chk Γ N sc a x && chkO Γ N sc lo l && chkO Γ N sc hi h
    | _ => false
  | .bi f a, ex => match ex with
    | .Call (.Name x _) [y] [] _ => (x == f.name) && bltOk Γ sc x && chk Γ N sc a y
    | _ => false
  | .me f o a, ex => match ex with
    | .Call (.Attribute x nm apos) [y] [] pos => (nm == f.name) && (apos.endLine == pos.line) && chk Γ N sc o x && chk Γ N sc a y
    | _ => false
  | .isi T a, ex => match ex with
    | .Call (.Name x _) [y, .Name t _] [] _ => (x == ("isinstance" : Str)) && bltOk Γ sc x && tyNames.contains T && (t == Str.ofString T) && bltOk Γ sc t && chk Γ N sc a y
    | _ => false
  | .call j as, ex => match ex, Γ.fns[j]? with
    | .Call (.Name x _) (y :: r) [] _, some q => (q.1 == x) && gl sc x && okN x && chkG Γ N sc as (y :: r)
    | _, _ => false
  | .comp own tg src cond elt, ex => match ex with
    | .ListComp y [⟨tg', it, ifs, as⟩] scope _ => decide (as = 0) && chkTg N scope tg tg' && tg.slots.all (fun i => (own.map (·.2)).contains i) && blkC N sc scope own && chkR Γ N sc src it tg' && chkC Γ N (relS scope sc) cond ifs && chk Γ N (relS scope sc) elt y
    | _ => false
  | .fmt a, ex => match ex with
    | .FormattedValue y c none _ => decide (c = -1) && chk Γ N sc a y
    | .JoinedStr [.FormattedValue y c none _] _ => decide (c = -1) && chk Γ N sc a y
    | _ => false
  | .fstr es, ex => match ex with
    | .JoinedStr (x :: y :: r) _ => chkS Γ N sc es (x :: y :: r)
    | _ => false
  | .srt a, ex => match ex with
    | .Call (.Name x _) [.Call (.Name x' _) [y] [] _] [] _ => (x == ("sorted" : Str)) && (x' == ("set" : Str)) && bltOk Γ sc x && bltOk Γ sc x' && chk Γ N sc a y
    | _ => false
def chkS (Γ : Gm) (N : List Str) (sc : Scope) : Exs → List Expr → Bool
  | .nil, r => match r with
    | [] => true
    | _ => false
  | .cons e es, r => match r with
    | x :: r => chk Γ N sc e x && chkS Γ N sc es r
    | _ => false
def chkO (Γ : Gm) (N : List Str) (sc : Scope) : Exo → Option Expr → Bool
  | .no, o => match o with
    | none => true
    | _ => false
  | .so e, o => match o with
    | some x => chk Γ N sc e x
    | _ => false
def chkC (Γ : Gm) (N : List Str) (sc : Scope) : Exo → List Expr → Bool
  | .no, o => match o with
    | [] => true
    | _ => false
  | .so e, o => match o with
    | [x] => chk Γ N sc e x
    | _ => false
def chkG (Γ : Gm) (N : List Str) (sc : Scope) : Ags → List Expr → Bool
  | .nil, r => match r with
    | [] => true
    | _ => false
  | .own i as, r => match r with
    | .Name x _ :: r => nmAt N i x && vis sc x && okN x && chkG Γ N sc as r
    | _ => false
  | .val e as, r => match r with
    | x :: r => chk Γ N sc e x && chkG Γ N sc as r
    | _ => false
def chkR (Γ : Gm) (N : List Str) (sc : Scope) : Sr → Expr → Expr → Bool
  | .inn e, x, _ => chk Γ N sc e x
  | .rng1 e, x, _ => match x with
    | .Call (.Name f _) [y] [] _ => (f == ("range" : Str)) && bltOk Γ sc f && chk Γ N sc e y
    | _ => false
  | .enum e, x, tg => match x with
    | .Call (.Name f _) [y] [] _ => isTup tg && (f == ("enumerate" : Str)) && bltOk Γ sc f && chk Γ N sc e y
    | _ => false
end

/-- what holds of the written expressions that are served -/
structure PlE (ex : Expr) : Prop where
  ix : PlainIx ex
  st : ∀ env r, starEach (ex :: r) env = (false, eval ex env) :: starEach r env
  bh : ∀ op, behindInMarks op ex = false
  fo : ∀ env x, foldedSetIterable ex env x = pure x
  ab : ∀ f env, attributeBase ex f env (eval ex env) = eval ex env
theorem chk_plain {Γ : Gm} {N : List Str} {sc : Scope} : ∀ (e : Ex) (ex : Expr), chk Γ N sc e ex = true → PlE ex := by
  intro e ex h
  cases ex with
  | BoolOp _ _ _ => exact ⟨fun _ _ => rfl, fun _ _ => rfl, fun _ => rfl, fun _ _ => rfl, fun _ _ => rfl⟩
  | BinOp _ _ _ _ => exact ⟨fun _ _ => rfl, fun _ _ => rfl, fun _ => rfl, fun _ _ => rfl, fun _ _ => rfl⟩
  | UnaryOp _ _ _ => exact ⟨fun _ _ => rfl, fun _ _ => rfl, fun _ => rfl, fun _ _ => rfl, fun _ _ => rfl⟩
  | IfExp _ _ _ _ => exact ⟨fun _ _ => rfl, fun _ _ => rfl, fun _ => rfl, fun _ _ => rfl, fun _ _ => rfl⟩
  | ListComp _ _ _ _ => exact ⟨fun _ _ => rfl, fun _ _ => rfl, fun _ => rfl, fun _ _ => rfl, fun _ _ => rfl⟩
  | Compare _ _ _ _ => exact ⟨fun _ _ => rfl, fun _ _ => rfl, fun _ => rfl, fun _ _ => rfl, fun _ _ => rfl⟩
  | FormattedValue _ _ _ _ => exact ⟨fun _ _ => rfl, fun _ _ => rfl, fun _ => rfl, fun _ _ => rfl, fun _ _ => rfl⟩
  | JoinedStr _ _ => exact ⟨fun _ _ => rfl, fun _ _ => rfl, fun _ => rfl, fun _ _ => rfl, fun _ _ => rfl⟩
  | Constant _ _ _ => exact ⟨fun _ _ => rfl, fun _ _ => rfl, fun _ => rfl, fun _ _ => rfl, fun _ _ => rfl⟩
  | Subscript _ _ _ => exact ⟨fun _ _ => rfl, fun _ _ => rfl, fun _ => rfl, fun _ _ => rfl, fun _ _ => rfl⟩
  | Name _ _ => exact ⟨fun _ _ => rfl, fun _ _ => rfl, fun _ => rfl, fun _ _ => rfl, fun _ _ => rfl⟩
  | List _ _ => exact ⟨fun _ _ => rfl, fun _ _ => rfl, fun _ => rfl, fun _ _ => rfl, fun _ _ => rfl⟩
  | Tuple _ _ _ => exact ⟨fun _ _ => rfl, fun _ _ => rfl, fun _ => rfl, fun _ _ => rfl, fun _ _ => rfl⟩
  | Call f as ks pos =>
    cases as with
    | cons a as => exact ⟨fun _ _ => rfl, fun _ _ => rfl, fun _ => rfl, fun _ _ => rfl, fun _ _ => by cases f <;> rfl⟩
    | nil => exact absurd h (by cases e <;> simp [chk])
  | _ => exact absurd h (by cases e <;> simp [chk])
end Mb
end

section
set_option Elab.async false
set_option linter.all false
set_option maxRecDepth 100000
set_option maxHeartbeats 1000000
/-! Mb22: what the small syntax denotes is what the machine does: expressions -/
namespace Mb
open PySem PySem.Spec PyProof.Rows L2

theorem boAll_zeros {K : PySem.W.Frag} {G H : Hp} : ∀ {vs : List V} {as : List Ent} {ds : List PyData}, BoAll K G H vs as → zeros as = some ds → RzAll K G vs ds
  | _, _, _, .nil, h => by cases h; exact .nil
  | _, (0, d) :: as, ds, .cons r t, h => by
    obtain ⟨ds', h', rfl⟩ := Option.map_eq_some_iff.mp h
    exact .cons r (boAll_zeros t h')
  | _, (n + 1, d) :: as, ds, .cons r t, h => by cases h
theorem ok_tupD {K : PySem.W.Frag} : OkL K (fun xs H Q => xs.length ≤ sizeLine ∧ ∀ q, H q = none → Q (.ref q) (upd H q (.tup xs))) tupD := by
  intro G H vs as e Q g b h k
  unfold tupD at h
  split at h
  · rename_i ds hz
    split at h
    · rename_i hl
      cases h
      have r := boAll_zeros b hz
      exact ⟨by rw [r.length, ← lim_line]; exact hl, fun q hq => k _ _ (PRes.tup g hq r)⟩
    · cases h
  · cases h
theorem ok_lstD {K : PySem.W.Frag} : OkL K (fun xs H Q => xs.length ≤ sizeLine ∧ ∀ q, H q = none → Q (.ref q) (upd H q (.lst xs))) lstD := by
  intro G H vs as e Q g b h k
  unfold lstD at h
  split at h
  · rename_i ds hz
    split at h
    · rename_i hl
      cases h
      have r := boAll_zeros b hz
      exact ⟨by rw [r.length, ← lim_line]; exact hl, fun q hq => k _ _ (PRes.lst g hq r)⟩
    · cases h
  · cases h

/-- sorted(set(x)) -/
def SrtR (p : Pm) : Prop := ∀ (X : Cx) (Wx : WX) (m : Bool) (f : Ev → Res (Ent × Ev)) (a : Expr) (p1 p2 pos pos' : Pos), Cok X p → X.A.guards = some [] → Gl X "sorted" → Gl X "set" → X.mg "sorted" = none → X.mg "set" = none → PlE a →
  PE X a (tB p Wx m f) → PE X (.Call (.Name "sorted" p1) [.Call (.Name "set" p2) [a] [] pos'] [] pos) (tE p Wx m (fUn srtF f))

structure CtxOk (Γ : Gm) (N : List Str) (sc : Scope) (k : Nat) (X : Cx) (p : Pm) : Prop extends Cok X p where
  hN : X.N = N
  hsc : X.env.scope = sc
  gd : X.A.guards = some []
  room : Room k X.A
  fns : ∀ (j : Nat) (q : Str × FD), Γ.fns[j]? = some q → ∃ f fd ps, FnG X.prog X.w X.K X.mg X.base k f fd ps (spF p q.2) ∧ X.mg q.1 = some (.ref f) ∧ PySem.W.keepIn X.K (.ref f) = true ∧ Binds X.K fd ps []
  blt : ∀ x, Γ.blt.contains x = true → X.mg x = none
  glb : ∀ (j : Nat) (q : Str × PyData), Γ.glb[j]? = some q → ∃ u v, X.mg q.1 = some u ∧ RelV v u ∧ ∀ G, Rz p.K G v q.2

structure DenOk (X : Cx) (p : Pm) (Wx : WX) (ex : Expr) (d : Den) : Prop where
  v : PE X ex (tE p Wx d.m d.v)
  b : PE X ex (tB p Wx d.m d.b)
  t : PT X ex (tT p Wx d.m d.t)

section
variable {Γ : Gm} {N : List Str} {sc : Scope} {k : Nat} {X : Cx} {p : Pm} {Wx : WX} {ex : Expr} {m : Bool} {f : Ev → Res (Ent × Ev)}
theorem okVal (hK : X.K = p.K) (h : PE X ex (tE p Wx m f)) (he : ∀ whole, isTrue ex X.env whole = (do let v ← whole; standAt ex.pos; holding [v] (truthy v))) : DenOk X p Wx ex (.val f m) := ⟨h, den_frz h, den_truth hK (den_frz h) he⟩
theorem okBad : DenOk X p Wx ex .bad := ⟨⟨fun _ _ _ _ _ _ h => by obtain ⟨_, _, _, _, h⟩ := h; exact h.elim⟩, ⟨fun _ _ _ _ _ _ h => by obtain ⟨_, _, _, _, h⟩ := h; exact h.elim⟩, ⟨fun _ _ _ _ _ _ h => by obtain ⟨_, _, _, _, h⟩ := h; exact h.elim⟩⟩
theorem gl_of {x : Str} (c : CtxOk Γ N sc k X p) (h : gl sc x = true) : Gl X x := by
  unfold gl at h
  unfold Gl Env.kindOf
  rw [c.hsc]
  split at h
  · assumption
  · cases h
theorem vis_of {x : Str} (c : CtxOk Γ N sc k X p) (h : vis sc x = true) : Vis X.env.scope x := by
  unfold vis at h
  unfold Vis
  rw [c.hsc]
  split at h
  · exact .inl (by assumption)
  · exact .inr (.inl (by assumption))
  · exact .inr (.inr (by assumption))
  · cases h
theorem nmAt_of {i : Nat} {x : Str} (c : CtxOk Γ N sc k X p) (h : nmAt N i x = true) : X.N[i]? = some x := by
  unfold nmAt at h
  rw [c.hN]
  split at h
  · rename_i y hy
    rw [hy, beq_iff_eq.mp h]
  · cases h
theorem okN_of {x : Str} (h : okN x = true) : (x == ("__debug__" : Str)) = false ∧ (x == ("__classdict__" : Str)) = false ∧ x ≠ "__name__" := by
  unfold okN at h
  simp only [Bool.and_eq_true, Bool.not_eq_true'] at h
  refine ⟨h.1.1, h.1.2, fun e => ?_⟩
  have := h.2
  rw [e] at this
  simp at this
theorem tvar_of {i : Nat} {x : Str} {pos : Pos} (c : CtxOk Γ N sc k X p) (h : (nmAt N i x && vis sc x && okN x) = true) : PE X (.Name x pos) (tVar i) := by
  simp only [Bool.and_eq_true] at h
  obtain ⟨⟨h1, h2⟩, h3⟩ := h
  obtain ⟨d1, d2, _⟩ := okN_of h3
  exact pe_var (nmAt_of c h1) (vis_of c h2) d1 d2
structure BltP (X : Cx) (x : Str) : Prop where
  g : Gl X x
  m : X.mg x = none
  n : x ≠ "__name__"
  d : (x == ("__debug__" : Str)) = false
theorem blt_of {x : Str} (c : CtxOk Γ N sc k X p) (h : bltOk Γ sc x = true) : BltP X x := by
  unfold bltOk at h
  simp only [Bool.and_eq_true] at h
  obtain ⟨⟨h1, h2⟩, h3⟩ := h
  obtain ⟨d1, d2, d3⟩ := okN_of h3
  exact ⟨gl_of c h2, c.blt x h1, d3, d1⟩
theorem bop_ok (c : Cok X p) (o : BOp) : ∃ r : R2, OpR X (binaryOp o.op) r ∧ OkL p.K (b2 r) o.F := by
  cases o with
  | add => exact ⟨_, op_addP c, okD2⟩
  | sub => exact ⟨_, op_subP, okD2⟩
  | mul => exact ⟨_, op_mulI, okD2⟩
  | mod => exact ⟨_, op_modP, okD2⟩
  | div => exact ⟨_, op_divP, okD2⟩
theorem cop_ok (c : Cok X p) (o : COp) : ∃ r : R2, OpR X (compareOp o.op) r ∧ OkL p.K (b2 r) o.F := by
  cases o with
  | eq => exact ⟨_, op_eqP c, okD2⟩
  | ne => exact ⟨_, op_neP c, okD2⟩
  | lt => exact ⟨_, op_ltP c, okD2⟩
  | gt => exact ⟨_, op_gtP c, okD2⟩
  | le => exact ⟨_, op_leP c, okD2⟩
  | ge => exact ⟨_, op_geP c, okD2⟩
  | is => exact ⟨_, op_isP, okD2⟩
  | isn => exact ⟨_, op_isnP, okD2⟩
  | in' => exact ⟨_, op_inP c, okD2⟩
  | nin => exact ⟨_, op_ninP c, okD2⟩
theorem okBi {pos p' : Pos} {e : Expr} (c : Cok X p) (hg : X.A.guards = some []) (o : Bi) (b : BltP X o.name) (pl : PlE e) (he : PE X e (tB p Wx m f)) : PE X (.Call (.Name o.name p') [e] [] pos) (tE p Wx m (fOp o.F (fCons false f fNil))) := by
  have ha : PA X [e] (tA p Wx m (fCons false f fNil)) := by
    have := den_consA (m2 := false) he (den_nilA (p := p) (Wx := Wx)) (pl.st X.env [])
    rw [Bool.or_false] at this
    exact this
  have hs := pl.st X.env []
  have ht : (backTo pos (starEach [] X.env)).any (·.1) = false := rfl
  cases o with
  | len => exact den_callB (call_lenP c) okD b.g b.m (by rfl) ha b.n b.d hs ht
  | abs => exact den_callB call_absP okD b.g b.m (by rfl) ha b.n b.d hs ht
  | repr => exact den_callB (call_reprP c hg) okD b.g b.m (by rfl) ha b.n b.d hs ht
  | sum => exact den_callB (call_sumP c) okD b.g b.m (by rfl) ha b.n b.d hs ht
  | all => exact den_callB (call_allP c) okD b.g b.m (by rfl) ha b.n b.d hs ht
  | any => exact den_callB (call_anyP c) okD b.g b.m (by rfl) ha b.n b.d hs ht
  | int => exact den_callTy call_intP okD b.g b.m (by rfl) ha b.n b.d hs ht
  | str => exact den_callTy call_strP okD b.g b.m (by rfl) ha b.n b.d hs ht
  | tuple => exact den_callTy (call_tupP c) okD b.g b.m (by rfl) ha b.n b.d hs ht
  | list => exact den_callTy (call_lstP c) okD b.g b.m (by rfl) ha b.n b.d hs ht
end
end Mb
end

section
set_option Elab.async false
set_option linter.all false
set_option maxRecDepth 100000
set_option maxHeartbeats 2000000
/-! Mb23: what the small syntax denotes is what the machine does: expressions, all -/
namespace Mb
open PySem PySem.Spec PyProof.Rows L2

/-- the store's reading of a target -/
def TgA.gr (K : PySem.W.Frag) : TgA → TG
  | .nm i => gName i
  | .tp is => gTup K is.length (gSet is)
theorem tgt_ok {K : PySem.W.Frag} {fx : List Nat} (t : TgA) : TgOk K fx (t.tgt fx) (t.gr K) := by
  cases t with
  | nm i => exact tg_name
  | tp is => exact tg_tup
theorem tgt_is {fx : List Nat} (t : TgA) : (t.tgt fx).is = t.slots := by cases t <;> rfl
section
variable {N : List Str} {sc : Scope} {Y : Cx}
theorem pg_n {e : Expr} {i : Nat} (hN : Y.N = N) (nd : Y.N.Nodup) (hl : ∀ x, locS sc x = true → Loc Y.env.scope x ∧ (Y.fn x = true ∨ Y.env.scope.names.lookup x = some .local)) (h : chkN N sc i e = true) : PG Y e (gName i) := by
  unfold chkN at h
  split at h
  · rename_i x _
    simp only [Bool.and_eq_true] at h
    obtain ⟨h1, h2⟩ := h
    obtain ⟨l1, l2⟩ := hl x h2
    refine pg_name nd ?_ l1 l2
    unfold nmAt at h1
    rw [hN]
    split at h1
    · rename_i y hy; rw [hy, beq_iff_eq.mp h1]
    · cases h1
  · cases h
theorem pg_ns (hN : Y.N = N) (nd : Y.N.Nodup) (hl : ∀ x, locS sc x = true → Loc Y.env.scope x ∧ (Y.fn x = true ∨ Y.env.scope.names.lookup x = some .local)) : ∀ {is : List Nat} {es : List Expr}, chkNs N sc is es = true →
    PGs Y es (gSet is) ∧ (assignEach es Y.env).length = is.length ∧ ∀ q ∈ assignEach es Y.env, q.1 = false
  | [], [], _ => ⟨pgs_nil, rfl, fun _ h => nomatch h⟩
  | i :: is, e :: es, h => by
    unfold chkNs at h
    simp only [Bool.and_eq_true] at h
    obtain ⟨h1, h2⟩ := h
    obtain ⟨a, b, c⟩ := pg_ns hN nd hl h2
    cases e with
    | Name x ps =>
      refine ⟨pgs_cons (pg_n hN nd hl h1) a (by rfl), ?_, ?_⟩
      · show (assignEach es Y.env).length + 1 = _
        rw [b]; rfl
      · intro q hq
        rcases List.mem_cons.mp hq with rfl | hq
        · rfl
        · exact c q hq
    | _ => cases h1
  | [], _ :: _, h => by cases h
  | _ :: _, [], h => by cases h
theorem findNone {α : Type} : ∀ {l : List (Bool × α)}, (∀ q ∈ l, q.1 = false) → l.findIdx? (·.1) = none := fun {l} h => by
  rw [List.findIdx?_eq_none_iff]
  exact fun x hx => h x hx
theorem pg_tg {e : Expr} {tg : TgA} (hc : Y.calm = true) (hN : Y.N = N) (nd : Y.N.Nodup) (hl : ∀ x, locS sc x = true → Loc Y.env.scope x ∧ (Y.fn x = true ∨ Y.env.scope.names.lookup x = some .local)) (h : chkTg N sc tg e = true) : PG Y e (tg.gr Y.K) := by
  cases tg with
  | nm i => exact pg_n hN nd hl h
  | tp is =>
    unfold chkTg at h
    split at h
    · rename_i i hh; cases hh
    · rename_i is' es _ _ hh
      cases hh
      obtain ⟨a, b, c⟩ := pg_ns hN nd hl h
      exact pg_tup hc a b (findNone c)
    · cases h
theorem locS_blk {X : Cx} {s : Shared} {H : Hp} {scope : Scope} {cl : List (Str × Addr)} {C : Addr} {fp : List Addr} : ∀ x, locS scope x = true →
    Loc (X.blk s H scope (compEnvC scope cl C X.env) fp).env.scope x ∧ ((X.blk s H scope (compEnvC scope cl C X.env) fp).fn x = true ∨ (X.blk s H scope (compEnvC scope cl C X.env) fp).env.scope.names.lookup x = some .local) := fun x h => by
  unfold locS at h
  have keep : ∀ k, k ≠ .free → scope.names.lookup x = some k → (relS scope X.env.scope).names.lookup x = some k := fun k hk h => lookup_relS_keep hk h
  show Loc (relS scope X.env.scope) x ∧ ((scope.names.lookup x == some .cell) = true ∨ (relS scope X.env.scope).names.lookup x = some .local)
  split at h
  · rename_i q
    exact ⟨.inl (keep _ (by decide) q), .inr (keep _ (by decide) q)⟩
  · rename_i q
    exact ⟨.inr (keep _ (by decide) q), .inl (by rw [q]; rfl)⟩
  · cases h
end

section
variable {Γ : Gm} {N : List Str} {sc : Scope} {k : Nat} {X : Cx} {p : Pm} {Wx : WX}
theorem CtxOk.blk {s : Shared} {H : Hp} {scope : Scope} {cl : List (Str × Addr)} {C : Addr} {fp : List Addr} (c : CtxOk Γ N sc k X p) : CtxOk Γ N (relS scope sc) k (X.blk s H scope (compEnvC scope cl C X.env) fp) p :=
  ⟨⟨c.hK, c.hmg, c.calm, c.nd, c.un⟩, c.hN, by show relS scope X.env.scope = relS scope sc; rw [c.hsc], c.gd, c.room, c.fns, c.blt, c.glb⟩
def wNo : WX := fun _ _ _ _ => False
theorem takes_no {Y : Cx} : Takes Y wNo := fun u s' ⟨_, _, _, _, _, _, _, _, _, _, _, _, _, _, _, _, h⟩ => h.elim
theorem bt_ty {T : String} (h : tyNames.contains T = true) : bootBuiltins (Str.ofString T) = some (.type T) := by
  unfold tyNames at h
  simp only [List.contains_eq_mem, List.mem_cons, List.not_mem_nil, or_false, decide_eq_true_eq] at h
  rcases h with rfl | rfl | rfl | rfl | rfl <;> rfl
theorem chkS_pl : ∀ {es : Exs} {xs : List Expr}, chkS Γ N sc es xs = true → ∀ e ∈ xs, PlE e
  | .nil, [], _ => fun _ h => nomatch h
  | .nil, _ :: _, h => by simp [chkS] at h
  | .cons e es, [], h => by simp [chkS] at h
  | .cons e es, x :: r, h => by
    simp only [chkS, Bool.and_eq_true] at h
    intro y hy
    rcases List.mem_cons.mp hy with rfl | hy
    · exact chk_plain e _ h.1
    · exact chkS_pl h.2 y hy
theorem chkG_st : ∀ {as : Ags} {xs : List Expr}, chkG Γ N sc as xs = true → ∀ e ∈ xs, ∀ env r, starEach (e :: r) env = (false, eval e env) :: starEach r env
  | .nil, [], _ => fun _ h => nomatch h
  | .nil, _ :: _, h => by simp [chkG] at h
  | .val e as, [], h => by simp [chkG] at h
  | .own i as, [], h => by simp [chkG] at h
  | .val e as, x :: r, h => by
    simp only [chkG, Bool.and_eq_true] at h
    intro y hy
    rcases List.mem_cons.mp hy with rfl | hy
    · exact (chk_plain e _ h.1).st
    · exact chkG_st h.2 y hy
  | .own i as, x :: r, h => by
    unfold chkG at h
    split at h
    · rename_i hh
      cases hh
      simp only [Bool.and_eq_true] at h
      intro y hy
      rcases List.mem_cons.mp hy with rfl | hy
      · exact fun _ _ => rfl
      · exact chkG_st h.2 y hy
    · cases h
theorem chkR_fo {src : Sr} {x tg : Expr} (h : chkR Γ N sc src x tg = true) : ∀ env v, foldedSetIterable x env v = pure v := by
  cases src with
  | inn e => exact (chk_plain e _ h).fo
  | rng1 e => unfold chkR at h; split at h <;> first | exact fun _ _ => rfl | cases h
  | enum e => unfold chkR at h; split at h <;> first | exact fun _ _ => rfl | cases h
/-- a test of and, or: whatever the whole is -/
theorem pw_of {op : BoolOp} {es : List Expr} {pos : Pos} {t : TT} (h : PT X (.BoolOp op es pos) t) : PW X (.BoolOp op es pos) t := ⟨fun _ pins s σ H Q I q => h.run pins s σ H Q I q⟩
theorem pt_ifE {c a b : Expr} {pos : Pos} {tc ta tb : TT} (hc : PT X c tc) (ha : PT X a ta) (hb : PT X b tb) : PT X (.IfExp c a b pos) (fun σ H Q => tc σ H fun d H1 => if d = true then ta σ H1 Q else tb σ H1 Q) := by
  refine ⟨fun pins s σ H Q I h => ?_⟩
  refine isTrue_IfExp (thn (hc.run pins s σ H _ I h) fun d s1 ⟨H1, I1, q1⟩ => ?_)
  cases d with
  | true => exact ha.run pins s1 σ H1 Q I1 q1
  | false => exact hb.run pins s1 σ H1 Q I1 q1
end
end Mb
end

section
set_option Elab.async false
set_option linter.all false
set_option maxRecDepth 100000
set_option maxHeartbeats 4000000
/-! Mb24: THE SOUNDNESS of expressions -/
namespace Mb
open PySem PySem.Spec PyProof.Rows L2

abbrev tG (p : Pm) (Wx : WX) (m : Bool) (σ0 : L2.St) (f : Ev → Res (List Ag × Ev)) : TA := fun σ H Q => σ = σ0 ∧ tR p Wx m (relC p σ0) f σ H Q
theorem isT_fst {X : Cx} {pos : Pos} {es : List Expr} : ∀ whole, isTrue (.JoinedStr es pos) X.env whole = (do let v ← whole; standAt pos; holding [v] (truthy v)) := fun _ => rfl
mutual
theorem snd {Γ : Gm} {N : List Str} {k : Nat} {p : Pm} (hs : SrtR p) : ∀ (e : Ex) {sc : Scope} {X : Cx} {Wx : WX} {ex : Expr}, CtxOk Γ N sc k X p → Takes X Wx → chk Γ N sc e ex = true → DenOk X p Wx ex (den Γ e)
  | .var i, sc, X, Wx, ex, c, tk, h => by
    unfold chk at h
    split at h
    · have hv := tvar_of (pos := ‹Pos›) c h
      exact ⟨den_var hv, den_varB hv, den_truth c.hK (den_varB hv) fun _ => rfl⟩
    · cases h
  | .non, sc, X, Wx, ex, c, tk, h => by
    unfold chk at h
    split at h
    · exact okVal c.hK (den_const pe_non fun _ => .non) fun _ => rfl
    · cases h
  | .bl b, sc, X, Wx, ex, c, tk, h => by
    unfold chk at h
    split at h
    · rw [beq_iff_eq.mp h]; exact okVal c.hK (den_const pe_bl fun _ => .bl _) fun _ => rfl
    · cases h
  | .int b, sc, X, Wx, ex, c, tk, h => by
    unfold chk at h
    split at h
    · rw [beq_iff_eq.mp h]; exact okVal c.hK (den_const pe_int fun _ => .int _) fun _ => rfl
    · cases h
  | .str b, sc, X, Wx, ex, c, tk, h => by
    unfold chk at h
    split at h
    · rw [beq_iff_eq.mp h]; exact okVal c.hK (den_const pe_str fun _ => .str _) fun _ => rfl
    · cases h
  | .glob j, sc, X, Wx, ex, c, tk, h => by
    unfold chk at h
    split at h
    · rename_i x _ q hq
      simp only [Bool.and_eq_true] at h
      obtain ⟨u, v, h1, h2, h3⟩ := c.glb j q hq
      unfold den
      rw [hq]
      rw [beq_iff_eq.mp h.1.1] at h1
      exact okVal c.hK (den_const (pe_glob (gl_of c h.1.2) h1 h2 (okN_of h.2).1) h3) fun _ => rfl
    · cases h
  | .tup es, sc, X, Wx, ex, c, tk, h => by
    unfold chk at h
    split at h
    · exact okVal c.hK (den_tup ok_tupD (sndS hs es c tk h)) fun _ => rfl
    · cases h
  | .lst es, sc, X, Wx, ex, c, tk, h => by
    unfold chk at h
    split at h
    · exact okVal c.hK (den_lst ok_lstD (sndS hs es c tk h)) fun _ => rfl
    · cases h
  | .bin o a b, sc, X, Wx, ex, c, tk, h => by
    unfold chk at h
    split at h
    · simp only [Bool.and_eq_true, decide_eq_true_eq] at h
      obtain ⟨⟨e, h1⟩, h2⟩ := h
      subst e
      obtain ⟨r, r1, r2⟩ := bop_ok c.toCok o
      exact okVal c.hK (den_bin r1 r2 (snd hs a c tk h1).b (snd hs b c tk h2).b) fun _ => rfl
    · cases h
  | .neg a, sc, X, Wx, ex, c, tk, h => by
    unfold chk at h
    split at h
    · exact okVal c.hK (den_neg (snd hs a c tk h).b) fun _ => rfl
    · cases h
  | .cmp o a b, sc, X, Wx, ex, c, tk, h => by
    unfold chk at h
    split at h
    · simp only [Bool.and_eq_true, decide_eq_true_eq] at h
      obtain ⟨⟨e, h1⟩, h2⟩ := h
      subst e
      obtain ⟨r, r1, r2⟩ := cop_ok c.toCok o
      have bh := (chk_plain b _ h2).bh o.op
      have v := den_cmp (pos := ‹Pos›) r1 r2 (snd hs a c tk h1).b (snd hs b c tk h2).b bh
      exact ⟨v, den_frz v, den_cmpT r1 r2 (snd hs a c tk h1).b (snd hs b c tk h2).b bh⟩
    · cases h
  | .chain o o' a b d, sc, X, Wx, ex, c, tk, h => by
    unfold chk at h
    split at h
    · simp only [Bool.and_eq_true, decide_eq_true_eq] at h
      obtain ⟨⟨⟨⟨e, e'⟩, h1⟩, h2⟩, h3⟩ := h
      subst e e'
      unfold den
      by_cases hm : ((den Γ b).m || (den Γ d).m) = true
      · rw [if_pos hm]; exact okBad
      · rw [if_neg hm]
        rw [Bool.not_eq_true, Bool.or_eq_false_iff] at hm
        obtain ⟨r, r1, r2⟩ := cop_ok c.toCok o
        obtain ⟨r', r3, r4⟩ := cop_ok c.toCok o'
        have bh := (chk_plain d _ h3).bh o'.op
        have hb := (snd hs b c tk h2).b
        have hd := (snd hs d c tk h3).b
        rw [hm.1] at hb
        rw [hm.2] at hd
        have v := den_chain (pos := ‹Pos›) r1 r3 r2 r4 (snd hs a c tk h1).b hb hd bh
        exact ⟨v, den_frz v, den_chainT r1 r3 r2 r4 (snd hs a c tk h1).b hb hd bh⟩
    · cases h
  | .and a b, sc, X, Wx, ex, c, tk, h => by
    unfold chk at h
    split at h
    · simp only [Bool.and_eq_true] at h
      obtain ⟨h1, h2⟩ := h
      have ia := snd hs a c tk h1
      have ib := snd hs b c tk h2
      have v : PE X _ (tE p Wx ((den Γ a).m || (den Γ b).m) (fAnd (den Γ a).v (den Γ b).v)) := PE.imp (pe_andT ia.v (pe_one (pos := ‹Pos›) ib.v)) fun σ H Q h => by rw [c.hK]; exact tE_and h
      exact ⟨v, den_frz v, PT.imp (pw_and ia.t (pw_and1 ib.t)).pt fun _ _ _ h => tT_and h⟩
    · simp only [Bool.and_eq_true] at h
      obtain ⟨h1, h2⟩ := h
      have ia := snd hs a c tk h1
      have ib := snd hs b c tk h2
      have v : PE X _ (tE p Wx ((den Γ a).m || (den Γ b).m) (fAnd (den Γ a).v (den Γ b).v)) := PE.imp (pe_andT ia.v ib.v) fun σ H Q h => by rw [c.hK]; exact tE_and h
      exact ⟨v, den_frz v, PT.imp (pw_and ia.t (pw_of ib.t)).pt fun _ _ _ h => tT_and h⟩
    · cases h
  | .or a b, sc, X, Wx, ex, c, tk, h => by
    unfold chk at h
    split at h
    · simp only [Bool.and_eq_true] at h
      obtain ⟨h1, h2⟩ := h
      have ia := snd hs a c tk h1
      have ib := snd hs b c tk h2
      have v : PE X _ (tE p Wx ((den Γ a).m || (den Γ b).m) (fOr (den Γ a).v (den Γ b).v)) := PE.imp (pe_orT ia.v (pe_one (pos := ‹Pos›) ib.v)) fun σ H Q h => by rw [c.hK]; exact tE_or h
      exact ⟨v, den_frz v, PT.imp (pw_or ia.t (pw_or1 ib.t)).pt fun _ _ _ h => tT_or h⟩
    · simp only [Bool.and_eq_true] at h
      obtain ⟨h1, h2⟩ := h
      have ia := snd hs a c tk h1
      have ib := snd hs b c tk h2
      have v : PE X _ (tE p Wx ((den Γ a).m || (den Γ b).m) (fOr (den Γ a).v (den Γ b).v)) := PE.imp (pe_orT ia.v ib.v) fun σ H Q h => by rw [c.hK]; exact tE_or h
      exact ⟨v, den_frz v, PT.imp (pw_or ia.t (pw_of ib.t)).pt fun _ _ _ h => tT_or h⟩
    · cases h
  | .not a, sc, X, Wx, ex, c, tk, h => by
    unfold chk at h
    split at h
    · have ia := snd hs a c tk h
      have v := den_not (pos := ‹Pos›) c.hK ia.b
      exact ⟨v, den_frz v, PT.imp (pt_not ia.t) fun _ _ _ h => tT_not h⟩
    · cases h
  | .ite z a b, sc, X, Wx, ex, c, tk, h => by
    unfold chk at h
    split at h
    · simp only [Bool.and_eq_true] at h
      obtain ⟨⟨h1, h2⟩, h3⟩ := h
      have iz := snd hs z c tk h1
      have ia := snd hs a c tk h2
      have ib := snd hs b c tk h3
      have wa : (((den Γ a).m || (den Γ b).m) = false → (den Γ a).m = false) := fun q => (Bool.or_eq_false_iff.mp q).1
      have wb : (((den Γ a).m || (den Γ b).m) = false → (den Γ b).m = false) := fun q => (Bool.or_eq_false_iff.mp q).2
      have v := den_if (pos := ‹Pos›) iz.t (den_weak wa ia.v) (den_weak wb ib.v)
      exact ⟨v, den_frz v, PT.imp (pt_ifE iz.t (den_weakT wa ia.t) (den_weakT wb ib.t)) fun _ _ _ h => tR_if h⟩
    · cases h
  | .idx a b, sc, X, Wx, ex, c, tk, h => by
    unfold chk at h
    split at h
    · simp only [Bool.and_eq_true] at h
      have v := den_ixB (pos := ‹Pos›) c.toCok (snd hs a c tk h.1).b (snd hs b c tk h.2).b (chk_plain b _ h.2).ix
      exact ⟨den_only0 v, v, den_truth c.hK v fun _ => rfl⟩
    · cases h
  | .ixv i b, sc, X, Wx, ex, c, tk, h => by
    unfold chk at h
    split at h
    · rw [Bool.and_eq_true] at h
      have v := fun p1 p2 => den_ixV (pos := p1) c.toCok (tvar_of (pos := p2) c h.1) (snd hs b c tk h.2).b (chk_plain b _ h.2).ix
      exact ⟨den_only0 (v _ _), v _ _, den_truth c.hK (v _ _) fun _ => rfl⟩
    · cases h
  | .sl a lo hi, sc, X, Wx, ex, c, tk, h => by
    unfold chk at h
    split at h
    · simp only [Bool.and_eq_true] at h
      exact okVal c.hK (den_sl (sl_rule c.toCok) okSlD (snd hs a c tk h.1.1).b (sndO hs lo c tk h.1.2) (sndO hs hi c tk h.2)) fun _ => rfl
    · cases h
  | .bi f a, sc, X, Wx, ex, c, tk, h => by
    unfold chk at h
    split at h
    · simp only [Bool.and_eq_true, beq_iff_eq] at h
      obtain ⟨⟨e, h1⟩, h2⟩ := h
      subst e
      exact okVal c.hK (okBi c.toCok c.gd f (blt_of c h1) (chk_plain a _ h2) (snd hs a c tk h2).b) fun _ => rfl
    · cases h
  | .me f o a, sc, X, Wx, ex, c, tk, h => by
    unfold chk at h
    split at h
    · simp only [Bool.and_eq_true] at h
      obtain ⟨⟨⟨e, hl⟩, h1⟩, h2⟩ := h
      have e := beq_iff_eq.mp e
      subst e
      have io := (snd hs o c tk h1).b
      have ia := (snd hs a c tk h2).b
      have st := (chk_plain a _ h2).st X.env []
      have ab := (chk_plain o _ h1).ab
      cases f with
      | split => exact okVal c.hK (den_m1 PySem.F.slot_str_split PySem.F.type_str_split mt_splitP okM1 io ia st (ab _ _) hl) fun _ => rfl
      | join => exact okVal c.hK (den_m1 PySem.F.slot_str_join PySem.F.type_str_join (mt_joinP c.toCok) okM1 io ia st (ab _ _) hl) fun _ => rfl
      | partition => exact okVal c.hK (den_m1 PySem.F.slot_str_partition PySem.F.type_str_partition mt_partP okM1 io ia st (ab _ _) hl) fun _ => rfl
    · cases h
  | .isi T a, sc, X, Wx, ex, c, tk, h => by
    unfold chk at h
    split at h
    · simp only [Bool.and_eq_true] at h
      obtain ⟨⟨⟨⟨⟨e, h1⟩, h2⟩, e'⟩, h3⟩, h4⟩ := h
      have e := beq_iff_eq.mp e
      subst e
      have e' := beq_iff_eq.mp e'
      subst e'
      have b1 := blt_of c h1
      have b2 := blt_of c h3
      exact okVal c.hK (den_isi c.toCok b1.g b1.m b2.g b2.m (bt_ty h2) (by rfl) b2.n b2.d (snd hs a c tk h4).b ((chk_plain a _ h4).st _ _)) fun _ => rfl
    · cases h
  | .call j as, sc, X, Wx, ex, c, tk, h => by
    unfold chk at h
    split at h
    · rename_i x p' y r pos q hq
      simp only [Bool.and_eq_true] at h
      obtain ⟨⟨⟨e, h1⟩, h2⟩, h3⟩ := h
      have e := beq_iff_eq.mp e
      subst e
      obtain ⟨f, fd, ps, F, hm, hk, hb⟩ := c.fns j q hq
      have st := chkG_st h3
      have ha := fun σ => sndG hs as c tk h3 σ
      have P := pe_callG (p' := p') (pos := pos) F c.room c.gd tk (gl_of c h1) hm hk hb ha (okN_of h2).1 (st _ List.mem_cons_self _ _) (starEach_any fun e he r => st e (List.mem_cons_of_mem _ he) _ r)
      unfold den
      rw [hq]
      dsimp only
      by_cases ho : (denG Γ as).2.2 = true
      · rw [if_pos ho]
        exact okVal c.hK (PE.imp P fun σ H Q h => ⟨rfl, tR.weak (m := true) (fun z => by cases z) (tE_callO h)⟩) fun _ => rfl
      · rw [if_neg ho]
        exact okVal c.hK (PE.imp P fun σ H Q h => ⟨rfl, tE_callV h⟩) fun _ => rfl
    · cases h
  | .comp own tg src cond elt, sc, X, Wx, ex, c, tk, h => by
    unfold chk at h
    split at h
    · rename_i y tg' it ifs as' scope pos
      simp only [Bool.and_eq_true, decide_eq_true_eq] at h
      obtain ⟨⟨⟨⟨⟨⟨e, h1⟩, h2⟩, h3⟩, h4⟩, h5⟩, h6⟩ := h
      subst e
      have bo : BlkOk X.N X.env.scope scope own := by rw [c.hN, c.hsc]; exact blkOk_by h3
      have P := pe_lc (pos := pos) (X := X) (g := tg.gr X.K) c.calm c.nd (sndR hs src c tk h4) bo (fun s H C cl fp => pg_tg (sc := scope) c.calm c.hN c.nd locS_blk h1)
        (fun s H C cl fp => sndC hs cond (c.blk (s := s) (H := H) (scope := scope) (cl := cl) (C := C) (fp := fp)) takes_no h5)
        (fun s H C cl fp => (snd hs elt (c.blk (s := s) (H := H) (scope := scope) (cl := cl) (C := C) (fp := fp)) takes_no h6).v) (fun x => chkR_fo h4 _ x)
      refine okVal c.hK (PE.imp P fun σ H Q h => ?_) fun _ => rfl
      rw [c.hK]
      refine tE_comp (tgt_ok tg) (fun j hj => ?_) (fun z => ?_) h
      · rw [tgt_is] at hj
        exact by simpa using List.all_eq_true.mp h2 j hj
      · simpa [Bool.or_eq_false_iff] using z
    · cases h
  | .fmt a, sc, X, Wx, ex, c, tk, h => by
    unfold chk at h
    split at h
    · simp only [Bool.and_eq_true, decide_eq_true_eq] at h
      obtain ⟨e, h1⟩ := h
      subst e
      exact okVal c.hK (den_fmt (snd hs a c tk h1).b) fun _ => rfl
    · simp only [Bool.and_eq_true, decide_eq_true_eq] at h
      obtain ⟨e, h1⟩ := h
      subst e
      exact okVal c.hK (pe_joined1 (den_fmt (snd hs a c tk h1).b)) fun _ => rfl
    · cases h
  | .fstr es, sc, X, Wx, ex, c, tk, h => by
    unfold chk at h
    split at h
    · exact okVal c.hK (den_fstr (sndJ hs es c tk h)) fun _ => rfl
    · cases h
  | .srt a, sc, X, Wx, ex, c, tk, h => by
    unfold chk at h
    split at h
    · simp only [Bool.and_eq_true] at h
      obtain ⟨⟨⟨⟨e, e'⟩, h1⟩, h2⟩, h3⟩ := h
      have e := beq_iff_eq.mp e
      subst e
      have e' := beq_iff_eq.mp e'
      subst e'
      have b1 := blt_of c h1
      have b2 := blt_of c h2
      exact okVal c.hK (hs X Wx _ _ _ _ _ _ _ c.toCok c.gd b1.g b2.g b1.m b2.m (chk_plain a _ h3) (snd hs a c tk h3).b) fun _ => rfl
    · cases h
theorem sndS {Γ : Gm} {N : List Str} {k : Nat} {p : Pm} (hs : SrtR p) : ∀ (es : Exs) {sc : Scope} {X : Cx} {Wx : WX} {xs : List Expr}, CtxOk Γ N sc k X p → Takes X Wx → chkS Γ N sc es xs = true → PA X xs (tA p Wx (denV Γ es).2 (denV Γ es).1)
  | .nil, sc, X, Wx, xs, c, tk, h => by
    unfold chkS at h
    split at h
    · exact den_nilA
    · cases h
  | .cons e es, sc, X, Wx, xs, c, tk, h => by
    unfold chkS at h
    split at h
    · simp only [Bool.and_eq_true] at h
      exact den_consA (den_frz (snd hs e c tk h.1).v) (sndS hs es c tk h.2) ((chk_plain e _ h.1).st _ _)
    · cases h
theorem sndO {Γ : Gm} {N : List Str} {k : Nat} {p : Pm} (hs : SrtR p) : ∀ (o : Exo) {sc : Scope} {X : Cx} {Wx : WX} {x : Option Expr}, CtxOk Γ N sc k X p → Takes X Wx → chkO Γ N sc o x = true → PO X x (tO p Wx (denO Γ o).2 (denO Γ o).1)
  | .no, sc, X, Wx, x, c, tk, h => by
    unfold chkO at h
    split at h
    · exact den_noPart
    · cases h
  | .so e, sc, X, Wx, x, c, tk, h => by
    unfold chkO at h
    split at h
    · exact den_part (snd hs e c tk h).b
    · cases h
theorem sndC {Γ : Gm} {N : List Str} {k : Nat} {p : Pm} (hs : SrtR p) : ∀ (o : Exo) {sc : Scope} {X : Cx} {Wx : WX} {x : List Expr}, CtxOk Γ N sc k X p → Takes X Wx → chkC Γ N sc o x = true → PTs X x (tT p Wx (denC Γ o).2 (denC Γ o).1)
  | .no, sc, X, Wx, x, c, tk, h => by
    unfold chkC at h
    split at h
    · refine ⟨fun pins s σ H Q I h => pts_nil.run pins s σ H Q I ?_⟩
      obtain ⟨ε, G, fps, r, a⟩ := h
      exact a true G H fps [] r ⟨rfl, rfl⟩ Tr.refl fun _ => Same.refl _
    · cases h
  | .so e, sc, X, Wx, x, c, tk, h => by
    unfold chkC at h
    split at h
    · exact pts_one (snd hs e c tk h).t
    · cases h
theorem sndG {Γ : Gm} {N : List Str} {k : Nat} {p : Pm} (hs : SrtR p) : ∀ (as : Ags) {sc : Scope} {X : Cx} {Wx : WX} {xs : List Expr}, CtxOk Γ N sc k X p → Takes X Wx → chkG Γ N sc as xs = true → ∀ σ0, PA X xs (tG p Wx (denG Γ as).2.1 σ0 (denG Γ as).1)
  | .nil, sc, X, Wx, xs, c, tk, h => by
    unfold chkG at h
    split at h
    · exact fun σ0 => PA.imp pa_nil fun σ H Q ⟨e, h⟩ => by subst e; exact tC_nil h
    · cases h
  | .own i as, sc, X, Wx, xs, c, tk, h => by
    unfold chkG at h
    split at h
    · rw [Bool.and_eq_true] at h
      intro σ0
      refine PA.imp (pa_cons (tvar_of c h.1) (sndG hs as c tk h.2 σ0) (by rfl)) fun σ H Q ⟨e, h⟩ => ?_
      subst e
      obtain ⟨v, e, h⟩ := tC_own h
      exact ⟨v, e, rfl, h⟩
    · cases h
  | .val e as, sc, X, Wx, xs, c, tk, h => by
    unfold chkG at h
    split at h
    · simp only [Bool.and_eq_true] at h
      intro σ0
      refine PA.imp (pa_cons (snd hs e c tk h.1).v (sndG hs as c tk h.2 σ0) ((chk_plain e _ h.1).st _ _)) fun σ H Q ⟨e, h⟩ => ?_
      subst e
      exact tR.mono (tC_val h) fun x H1 q => ⟨rfl, q⟩
    · cases h
theorem sndR {Γ : Gm} {N : List Str} {k : Nat} {p : Pm} (hs : SrtR p) : ∀ (src : Sr) {sc : Scope} {X : Cx} {Wx : WX} {x tg : Expr}, CtxOk Γ N sc k X p → Takes X Wx → chkR Γ N sc src x tg = true → PI X tg x (tIt p Wx (denR Γ src).2 (denR Γ src).1)
  | .inn e, sc, X, Wx, x, tg, c, tk, h => by
    unfold chkR at h
    exact PI.imp (pi_any (snd hs e c tk h).v) fun σ H R h => by rw [c.hK]; exact tIt_in h
  | .rng1 e, sc, X, Wx, x, tg, c, tk, h => by
    unfold chkR at h
    split at h
    · simp only [Bool.and_eq_true] at h
      have e' := beq_iff_eq.mp h.1.1
      subst e'
      have b := blt_of c h.1.2
      have st := (chk_plain e _ h.2).st X.env []
      exact PI.imp (pi_range1 b.g b.m (pa_cons (snd hs e c tk h.2).v pa_nil st) st) fun σ H R h => tIt_rng1 h
    · cases h
  | .enum e, sc, X, Wx, x, tg, c, tk, h => by
    unfold chkR at h
    split at h
    · simp only [Bool.and_eq_true] at h
      have e' := beq_iff_eq.mp h.1.1.2
      subst e'
      have b := blt_of c h.1.2
      have st := (chk_plain e _ h.2).st X.env []
      cases tg with
      | Tuple es kk tp => exact PI.imp (pi_enum b.g b.m (pa_cons (snd hs e c tk h.2).v pa_nil st) st) fun σ H R h => by rw [c.hK]; exact tIt_enum h
      | _ => exact absurd h.1.1.1 (by simp [isTup])
    · cases h
theorem sndJ {Γ : Gm} {N : List Str} {k : Nat} {p : Pm} (hs : SrtR p) : ∀ (es : Exs) {sc : Scope} {X : Cx} {Wx : WX} {xs : List Expr}, CtxOk Γ N sc k X p → Takes X Wx → chkS Γ N sc es xs = true → PJ X xs ((denJ Γ es).map fun f => tB p Wx f.1 f.2)
  | .nil, sc, X, Wx, xs, c, tk, h => by
    unfold chkS at h
    split at h
    · exact .nil
    · cases h
  | .cons e es, sc, X, Wx, xs, c, tk, h => by
    unfold chkS at h
    split at h
    · simp only [Bool.and_eq_true] at h
      exact .cons (snd hs e c tk h.1).b (sndJ hs es c tk h.2)
    · cases h
end
end Mb
end

section
set_option Elab.async false
set_option linter.all false
set_option maxRecDepth 100000
set_option maxHeartbeats 1000000
/-! Mb25: raise, try, a tuple of owned values as a tuple -/
namespace Mb
open PySem PySem.Spec PyProof.Rows L2

section
variable {p : Pm} {Wx : WX} {m : Bool} {σ : L2.St} {G H : Hp} {fps : Fps} {ε : Ev} {fx : List Nat} {D : Ends}
/-- the heap with a fresh dict of an exception, or as it was -/
def XdOf (H H2 : Hp) : Prop := H2 = H ∨ ∃ (dx : Addr) (fs : List (Str × V)), H dx = none ∧ H2 = upd H dx (.xd fs)
theorem tS_rais {F : List Ent → Option Exn} {h : Ev → Res (List Ent × Ev)} (hh : tS p Wx fx (fRais F h) D σ H) :
    tA p Wx m h σ H fun vs H1 => ∃ (as : List Ent) (G : Hp) (x : Exn), Same G H1 ∧ BoAll p.K G H1 vs as ∧ F as = some x ∧ ∀ cls d H2, XdOf H1 H2 → ExcAt p x cls d H2 → Wx cls d σ H2 := by
  refine tS_val (k := fun as ε => match F as with | some x => .exc x ε | none => .bad) hh fun vs as ε1 G G1 H1 fps fps1 fp r1 o t a => ?_
  obtain ⟨rfl, o⟩ := o
  cases e : F as with
  | none => rw [e] at a; exact a.elim
  | some x =>
    rw [e] at a
    refine ⟨as, G1, x, r1.sub, o, e, fun cls d H2 z ex => ?_⟩
    rcases z with rfl | ⟨dx, fs, hd, rfl⟩
    · exact a cls d σ G1 H2 fps1 r1 t Fixed.refl ex
    · have gD : G1 dx = none := free_sub r1.sub hd
      have nW : ¬ Wf fps1 [] dx := fun w => (r1.off dx w).2 hd
      refine a cls d σ G1 _ fps1 (r1.other gD nW) ⟨fun b o hb hw => ?_, fun b hb => ?_, t.grow, t.new, t.wnew⟩ Fixed.refl ex
      · rw [upd_ne (ne_of_none (t.keep b o hb hw) hd)]; exact t.keep b o hb hw
      · by_cases q : b = dx
        · subst q; rw [upd_same]; exact fun z => nomatch z
        · rw [upd_ne q]; exact t.there b hb
/-- the suite's reading -/
def tHd (p : Pm) (fx : List Nat) (c : Str) (hd : Exn → Ev → Res (Ent × Ev)) : Addr → Value → Option Addr → TS := fun a cls d D σ H =>
  ∃ x, x.cls = c ∧ ExcAt p x cls d H ∧ ∃ (ε : Ev) (G : Hp) (fps : Fps), Rel p.K ε σ G H fps [] ∧ AfterS p wNo fx σ G H fps (match hd x ε with | .ok q => .ok (.ret q.1, q.2) | _ => .bad) D
theorem tS_try {c : Str} {b : Ev → Res (Fl × Ev)} {hd : Exn → Ev → Res (Ent × Ev)} {cv : Value} (hc : p.mg c = some cv) (he : PySem.W.exmOne p.K cv cv = some true) (h : tS p Wx fx (fTry c b hd none) D σ H) :
    tS p (wOnly p.K cv (tHd p fx c hd) wNo D) fx b D σ H := by
  obtain ⟨ε, G, fps, r, a⟩ := h
  refine ⟨ε, G, fps, r, ?_⟩
  unfold fTry at a
  cases e : b ε with
  | ok q => obtain ⟨fl, ε'⟩ := q; rw [e] at a; cases fl <;> exact a
  | bad => rw [e] at a; exact a
  | exc x ε' =>
    rw [e] at a
    dsimp only at a
    intro cls d σ' G' H' fps' r' t f ex
    by_cases hx : x.cls = c
    · rw [if_pos ⟨hx, rfl⟩] at a
      obtain ⟨C, h1, h2, h3⟩ := ex
      rw [hx, hc] at h1
      cases h1
      subst h2
      refine ⟨true, he, fun _ ad na => ⟨x, hx, ⟨C, by rw [hx]; exact hc, rfl, h3⟩, ε', G', fps', r', ?_⟩, fun z => nomatch z⟩
      cases e2 : hd x ε' with
      | ok q =>
        have e2' : hd x (forgetE none ε') = .ok q := e2
        rw [e2'] at a
        exact AfterS.later (r := .ok (.ret q.1, q.2)) t f a
      | exc _ _ => have e2' : hd x (forgetE none ε') = _ := e2; rw [e2'] at a; exact a.elim
      | bad => have e2' : hd x (forgetE none ε') = _ := e2; rw [e2'] at a; exact a.elim
    · rw [if_neg fun z => hx z.1] at a; exact a.elim
theorem tS_tryAs {c : Str} {b : Ev → Res (Fl × Ev)} {hd : Exn → Ev → Res (Ent × Ev)} {cv : Value} {i : Nat} (hi : i ∉ fx) (hc : p.mg c = some cv) (he : PySem.W.exmOne p.K cv cv = some true) (h : tS p Wx fx (fTry c b hd (some i)) D σ H) :
    tS p (wAs p.K cv i (fun a cls d D' σ' H' => σ'[i]? = some (some (.ref a)) ∧ tHd p fx c hd a cls d D' σ' H') wNo D) fx b D σ H := by
  obtain ⟨ε, G, fps, r, a⟩ := h
  refine ⟨ε, G, fps, r, ?_⟩
  unfold fTry at a
  cases e : b ε with
  | ok q => obtain ⟨fl, ε'⟩ := q; rw [e] at a; cases fl <;> exact a
  | bad => rw [e] at a; exact a
  | exc x ε' =>
    rw [e] at a
    dsimp only at a
    intro cls d σ' G' H' fps' r' t f ex
    by_cases hx : x.cls = c ∧ okSlot (some i) ε' = true
    · rw [if_pos hx] at a
      obtain ⟨hx, hlt⟩ := hx
      have hlt : i < ε'.length := of_decide_eq_true hlt
      obtain ⟨C, h1, h2, h3⟩ := ex
      rw [hx, hc] at h1
      cases h1
      subst h2
      refine ⟨true, he, fun _ ad na => ⟨?_, x, hx, ⟨C, by rw [hx]; exact hc, rfl, h3⟩, ε'.set i none, G', _, r'.forget i (some (.ref ad)), ?_⟩, fun z => nomatch z⟩
      · rw [List.getElem?_set_self (by rw [r'.len]; exact hlt)]
      cases e2 : hd x (ε'.set i none) with
      | ok q =>
        have e2' : hd x (forgetE (some i) ε') = .ok q := e2
        rw [e2'] at a
        have b : AfterS p Wx fx σ' G' H' fps' (.ok (.ret q.1, q.2)) D := AfterS.later t f a
        refine AfterS.later (r := .ok (.ret q.1, q.2)) (Tr.refl.wsub fun _ w => w.forget) (Fixed.set hi) ?_
        exact b
      | exc _ _ => have e2' : hd x (forgetE (some i) ε') = _ := e2; rw [e2'] at a; exact a.elim
      | bad => have e2' : hd x (forgetE (some i) ε') = _ := e2; rw [e2'] at a; exact a.elim
    · rw [if_neg hx] at a; exact a.elim
/-- the values stand in a tuple that is let go -/
theorem tS_parT {is : List Nat} {h : Ev → Res (List Ent × Ev)} (hh : tS p Wx fx (fPar fx is h) D σ H) : tR p Wx m (relAO p) h σ H fun vs H1 => vs.length = is.length ∧ ∀ q, H1 q = none → D.nx (setAllV is vs σ) (upd H1 q (.tup vs)) := by
  refine tS_val (k := fun es ε => if es.length = is.length ∧ is.all (fun i => !fx.contains i) = true then .ok (.next, setEnts is es ε) else .bad) hh fun vs es ε1 G G1 H1 fps fps1 fp r1 o t a => ?_
  by_cases c : es.length = is.length ∧ is.all (fun i => !fx.contains i) = true
  · rw [if_pos c] at a
    obtain ⟨fps', r', w⟩ := r1.setEnts is o
    refine ⟨(AllE.length o).trans c.1, fun q hq => ?_⟩
    have gq : G1 q = none := free_sub r1.sub hq
    have nW : ¬ Wf fps1 fp q := fun w => (r1.off q w).2 hq
    refine a _ G1 _ fps' (r'.other gq fun z => nW (w q z)) ⟨fun b o hb hw => ?_, fun b hb => ?_, t.grow, t.new, fun b hb => t.wnew b (w b hb)⟩ (Fixed.setAll is _ σ fun i hi => ?_)
    · rw [upd_ne (ne_of_none (t.keep b o hb hw) hq)]; exact t.keep b o hb hw
    · by_cases z : b = q
      · subst z; rw [upd_same]; exact fun z => nomatch z
      · rw [upd_ne z]; exact t.there b hb
    · have := List.all_eq_true.mp c.2 i hi
      exact not_fx (by simpa using this)
  · rw [if_neg c] at a; exact a.elim
end
end Mb
end

section
set_option Elab.async false
set_option linter.all false
set_option maxRecDepth 100000
set_option maxHeartbeats 2000000
/-! Mb26: statements: the check, and the ground for their soundness -/
namespace Mb
open PySem PySem.Spec PyProof.Rows L2

theorem swLc {elt : Expr} {gs : List Comprehension} {scope : Scope} {pos : Pos} {t : Str} {tp : Pos} {line : Nat} {env : Env} :
  swapsWith (.ListComp elt gs scope pos) (some (.Name t tp)) line env = pure (env.blockKind == .function && env.kindOf t == some .local && tp.line == pos.line && !(scope.names.any fun (n, k) => n == t && (k == .local || k == .cell))) := by
  rfl
def blkKind (sc : Scope) : ScopeKind := if sc.kind.isAnnotationScope then .function else sc.kind
def swp (sc : Scope) (ts vs : List Expr) : Option (Option (List Str)) :=
  if (!(ts.length == 2 || ts.length == 3) || vs.length != ts.length || blkKind sc != .function) = true then some none
  else if (vs.any fun | .Starred .. => true | _ => false) = true then some none
  else
    let line := (ts.head?.map (·.pos.line)).getD 0
    let names := ts.filterMap fun
      | .Name id pos => if sc.names.lookup id == some .local && pos.line == line then some id else none
      | _ => none
    if (names.length != ts.length || names.eraseDups.length != names.length) = true then some none
    else if vs.all (foldedForSure 8) = true then some none
    else if vs.all (constantsAlone 8) = true then none
    else some (some names)
theorem swp_ok {env : Env} {ts vs : List Expr} {k k2 : Nat} {p p2 : Pos} {r : Option (List Str)} (h : swp env.scope ts vs = some r) : swappedStores [.Tuple ts k p] (.Tuple vs k2 p2) env = pure r := by
  unfold swp at h
  show (do
    if (!(ts.length == 2 || ts.length == 3) || vs.length != ts.length || blkKind env.scope != .function) = true then return none
    if (vs.any fun | .Starred .. => true | _ => false) = true then return none
    let line := (ts.head?.map (·.pos.line)).getD 0
    let names := ts.filterMap fun
      | .Name id pos => if env.scope.names.lookup id == some .local && pos.line == line then some id else none
      | _ => none
    if (names.length != ts.length || names.eraseDups.length != names.length) = true then return none
    if vs.all (foldedForSure 8) = true then return none
    if vs.all (constantsAlone 8) = true then unsupported "assign.tuple-of-constant-expressions:order-of-the-stores"
    return some names : Sem (Option (List Str))) = pure r
  split at h
  · rename_i c; cases h; rw [if_pos c]
  · rename_i c
    rw [if_neg c]
    split at h
    · rename_i c; cases h; rw [if_pos c]
    · rename_i c
      rw [if_neg c]
      dsimp only at h ⊢
      split at h
      · rename_i c; cases h; rw [if_pos c]
      · rename_i c
        rw [if_neg c]
        split at h
        · rename_i c; cases h; rw [if_pos c]
        · rename_i c
          rw [if_neg c]
          split at h
          · cases h
          · rename_i c; cases h; rw [if_neg c]

theorem chk_sw {Γ : Gm} {N : List Str} {sc : Scope} : ∀ (e : Ex) (ex : Expr), chk Γ N sc e ex = true → (∃ elt gs scope pos, ex = .ListComp elt gs scope pos) ∨ ∀ t l env, swapsWith ex t l env = pure false := by
  intro e ex h
  cases ex with
  | ListComp a b c d => exact .inl ⟨a, b, c, d, rfl⟩
  | SetComp _ _ _ _ => exact absurd h (by cases e <;> simp [chk])
  | DictComp _ _ _ _ _ => exact absurd h (by cases e <;> simp [chk])
  | _ => exact .inr fun _ _ _ => rfl
def isCall : Expr → Bool
  | .Call _ _ _ _ => true
  | _ => false
/-- constants, and tuples of constants -/
def cst : Ex → Bool
  | .non => true
  | .bl _ => true
  | .int _ => true
  | .str _ => true
  | _ => false
def csts : Exs → Bool
  | .nil => true
  | .cons e es => cst e && csts es
def cstT : Ex → Bool
  | .tup es => csts es
  | e => cst e
def chkHd (Γ : Gm) (N : List Str) (sc : Scope) : Hd → Option Str → List Stmt → Bool
  | .k e, on, ss => match on, ss with
    | none, [.Return (some v) _] => cstT e && chk Γ N sc e v
    | _, _ => false
  | .fld i f, on, ss => match on, ss with
    | some n, [.Return (some (.Attribute (.Name x _) f' _)) _] => (x == n) && (f' == f) && (f == ("line" : Str)) && nmAt N i n && decide (sc.names.lookup n = some .local) && okN n
    | _, _ => false
  | .fldIf i f c a b, on, ss => match on, ss with
    | some n, [.Return (some (.IfExp (.Compare (.Attribute (.Name x _) f' _) [.Eq] [.Constant (.int c') _ _] _) va vb _)) _] => (x == n) && (f' == f) && (f == ("line" : Str)) && (c == c') && nmAt N i n && decide (sc.names.lookup n = some .local) && okN n && cstT a && cstT b && chk Γ N sc a va && chk Γ N sc b vb
    | _, _ => false
def par2 (sc : Scope) : List Nat → List Expr → List Expr → Bool
  | [i, j], [.Name x _, .Name y _], [_, _] => decide (i ≠ j) && decide (sc.names.lookup x = some .local) && decide (sc.names.lookup y = some .local)
  | [i, j, l], [.Name x _, .Name y _, .Name z _], [_, _, _] => decide (i ≠ j) && decide (i ≠ l) && decide (j ≠ l) && decide (sc.names.lookup x = some .local) && decide (sc.names.lookup y = some .local) && decide (sc.names.lookup z = some .local)
  | _, _, _ => false
def nms : List Expr → List Str
  | .Name x _ :: r => x :: nms r
  | _ => []
def parOk (sc : Scope) (is : List Nat) (ts vs : List Expr) : Bool := match swp sc ts vs with
  | some none => decide (is.length < 1000)
  | some (some ns) => decide (ns = nms ts) && par2 sc is ts vs
  | none => false
mutual
def chkSt (Γ : Gm) (N : List Str) (sc : Scope) : Sm → Stmt → Bool
  | .asg i e, st => match st with
    | .Assign [t] v _ => chkN N sc i t && chk Γ N sc e v
    | _ => false
  | .par is es, st => match st with
    | .Assign [.Tuple ts _ _] (.Tuple vs _ _) _ => chkNs N sc is ts && chkS Γ N sc es vs && parOk sc is ts vs
    | _ => false
  | .asgT is e, st => match st with
    | .Assign [.Tuple ts _ _] v _ => chkNs N sc is ts && chk Γ N sc e v && !isTup v
    | _ => false
  | .app i e, st => match st with
    | .Expr (.Call (.Attribute (.Name x _) nm apos) [y] [] pos) _ => (nm == ("append" : Str)) && (apos.endLine == pos.line) && (nmAt N i x && vis sc x && okN x) && chk Γ N sc e y
    | _ => false
  | .setL i j e, st => match st with
    | .Assign [.Subscript (.Name x _) jx _] v _ => (nmAt N i x && vis sc x && okN x) && chk Γ N sc j jx && chk Γ N sc e v
    | _ => false
  | .expr e, st => match st with
    | .Expr v _ => isCall v && chk Γ N sc e v
    | _ => false
  | .ite c a b, st => match st with
    | .If x y z _ => chk Γ N sc c x && chkSs Γ N sc a y && chkSs Γ N sc b z
    | _ => false
  | .whl c b, st => match st with
    | .While x y [] _ => chk Γ N sc c x && chkSs Γ N sc b y
    | _ => false
  | .forr tg src b, st => match st with
    | .For t it y [] _ => chkTg N sc tg t && chkR Γ N sc src it t && chkSs Γ N sc b y
    | _ => false
  | .ret e, st => match st with
    | .Return (some v) _ => chk Γ N sc e v
    | _ => false
  | .retV i, st => match st with
    | .Return (some (.Name x _)) _ => nmAt N i x && vis sc x && okN x
    | _ => false
  | .retN, st => match st with
    | .Return none _ => true
    | _ => false
  | .brk, st => match st with
    | .Break _ => true
    | _ => false
  | .cont, st => match st with
    | .Continue _ => true
    | _ => false
  | .pass, st => match st with
    | .Pass _ => true
    | _ => false
  | .rais j es, st => match st, Γ.exs[j]? with
    | .Raise (some (.Call (.Name x _) (y :: r) [] _)) none _, some q => (q.1 == x) && gl sc x && okN x && chkS Γ N sc es (y :: r)
    | _, _ => false
  | .tryK b j h, st => match st, Γ.exs[j]? with
    | .Try bx [.ExceptHandler (some (.Name x _)) on hb _] [] [] _, some q => (q.1 == x) && gl sc x && okN x && chkSs Γ N sc b bx && chkHd Γ N sc h on hb
    | _, _ => false
def chkSs (Γ : Gm) (N : List Str) (sc : Scope) : Sms → List Stmt → Bool
  | .nil, r => match r with
    | [] => true
    | _ => false
  | .cons s r, l => match l with
    | st :: l => chkSt Γ N sc s st && chkSs Γ N sc r l
    | _ => false
end
/-- the maker of an exception -/
def MkR (X : Cx) (p : Pm) (x : Str) (F : List Ent → Option Exn) : Prop := ∀ (Wx : WX) (m : Bool) (f : Ev → Res (List Ent × Ev)) (e : Expr) (es : List Expr) (p' pos : Pos), Gl X x → (x == ("__debug__" : Str)) = false →
  starEach (e :: es) X.env = (false, eval e X.env) :: starEach es X.env → (backTo pos (starEach es X.env)).any (·.1) = false → PA X (e :: es) (tA p Wx m f) →
  PMk X (.Call (.Name x p') (e :: es) [] pos) (fun σ H Q => tA p Wx m f σ H fun vs H1 => ∃ (as : List Ent) (G : Hp) (x' : Exn), Same G H1 ∧ BoAll p.K G H1 vs as ∧ F as = some x' ∧ ∀ cls d H2, XdOf H1 H2 → ExcAt p x' cls d H2 → Q cls d H2)
structure ExOk (X : Cx) (p : Pm) (q : Str × (List Ent → Option Exn)) : Prop where
  at' : ∃ C : Addr, p.mg q.1 = some (.ref C) ∧ PySem.W.exmOne p.K (.ref C) (.ref C) = some true ∧ XfC X.K C ∧ PySem.W.findIn X.K (.ref C) "line" = some none
  made : ∀ pn xe, MkR (X.tr pn xe) p q.1 q.2
structure StOk (Γ : Gm) (N : List Str) (sc : Scope) (k : Nat) (X : Cx) (p : Pm) : Prop extends CtxOk Γ N sc k X p where
  fn : ∀ x, X.fn x = true
  pass : PassesOwn (model X.prog X.w) X.A X.env X.xe
  stk : X.stack = X.env :: X.outer
  fr : X.env.frame = some X.env.locals
  exs : ∀ (j : Nat) (q : Str × (List Ent → Option Exn)), Γ.exs[j]? = some q → ExOk X p q
theorem StOk.tr {Γ : Gm} {N : List Str} {sc : Scope} {k : Nat} {X : Cx} {p : Pm} (c : StOk Γ N sc k X p) (pn : List (Addr × Obj)) (xe : Value → Shared → Prop) (h : PassesOwn (model X.prog X.w) X.A X.env xe) : StOk Γ N sc k (X.tr pn xe) p :=
  ⟨⟨⟨c.hK, c.hmg, c.calm, c.nd, c.un⟩, c.hN, c.hsc, c.gd, c.room, c.fns, c.blt, c.glb⟩, c.fn, h, c.stk, c.fr, fun j q e => ⟨(c.exs j q e).at', fun pn' xe' => (c.exs j q e).made pn' xe'⟩⟩
theorem locS_st {Γ : Gm} {N : List Str} {sc : Scope} {k : Nat} {X : Cx} {p : Pm} (c : StOk Γ N sc k X p) : ∀ x, locS sc x = true → Loc X.env.scope x ∧ (X.fn x = true ∨ X.env.scope.names.lookup x = some .local) := fun x h => by
  refine ⟨?_, .inl (c.fn x)⟩
  unfold locS at h
  unfold L2.Loc
  rw [c.hsc]
  split at h
  · exact .inl (by assumption)
  · exact .inr (by assumption)
  · cases h
/-- what is denoted by a constant, anywhere -/
theorem sndCst {Γ : Gm} {N : List Str} {sc : Scope} {p : Pm} {Y : Cx} {Wx : WX} : ∀ (e : Ex) (ex : Expr), cst e = true → chk Γ N sc e ex = true → PE Y ex (tE p Wx (den Γ e).m (den Γ e).v) := by
  intro e ex h1 h2
  cases e with
  | non => unfold chk at h2; split at h2 <;> first | exact den_const pe_non fun _ => .non | cases h2
  | bl b => unfold chk at h2; split at h2 <;> first | (rw [beq_iff_eq.mp h2]; exact den_const pe_bl fun _ => .bl _) | cases h2
  | int b => unfold chk at h2; split at h2 <;> first | (rw [beq_iff_eq.mp h2]; exact den_const pe_int fun _ => .int _) | cases h2
  | str b => unfold chk at h2; split at h2 <;> first | (rw [beq_iff_eq.mp h2]; exact den_const pe_str fun _ => .str _) | cases h2
  | _ => cases h1
theorem sndCsts {Γ : Gm} {N : List Str} {sc : Scope} {p : Pm} {Y : Cx} {Wx : WX} : ∀ (es : Exs) (xs : List Expr), csts es = true → chkS Γ N sc es xs = true → PA Y xs (tA p Wx (denV Γ es).2 (denV Γ es).1)
  | .nil, xs, _, h => by
    unfold chkS at h
    split at h
    · exact den_nilA
    · cases h
  | .cons e es, xs, h1, h => by
    unfold chkS at h
    split at h
    · simp only [Bool.and_eq_true] at h
      unfold csts at h1
      rw [Bool.and_eq_true] at h1
      exact den_consA (den_frz (sndCst e _ h1.1 h.1)) (sndCsts es _ h1.2 h.2) ((chk_plain e _ h.1).st _ _)
    · cases h
theorem sndCstT {Γ : Gm} {N : List Str} {sc : Scope} {p : Pm} {Y : Cx} {Wx : WX} (e : Ex) (ex : Expr) (h1 : cstT e = true) (h2 : chk Γ N sc e ex = true) : PE Y ex (tE p Wx (den Γ e).m (den Γ e).v) := by
  unfold cstT at h1
  split at h1
  · rename_i es
    unfold chk at h2
    split at h2
    · exact den_tup ok_tupD (sndCsts es _ h1 h2)
    · cases h2
  · exact sndCst e ex h1 h2
end Mb
end

section
set_option Elab.async false
set_option linter.all false
set_option maxRecDepth 100000
set_option maxHeartbeats 4000000
/-! Mb27: THE SOUNDNESS of statements -/
namespace Mb
open PySem PySem.Spec PyProof.Rows L2

section
variable {Γ : Gm} {N : List Str} {sc : Scope} {k : Nat} {X : Cx} {p : Pm} {Wx : WX} {fx : List Nat}
theorem swF {e : Ex} {v : Expr} {t : Option Expr} {l : Nat} {env : Env} (h : chk Γ N sc e v = true) (hv : ∀ a b c d, v ≠ .ListComp a b c d) : swapsWith v t l env = pure false := by
  rcases chk_sw e v h with ⟨a, b, c, d, q⟩ | q
  · exact absurd q (hv a b c d)
  · exact q t l env
theorem chk_asgS {e : Ex} {i o : Expr} {pos : Pos} {env : Env} (h : chk Γ N sc e i = true) : ∀ v, assign (.Subscript o i pos) env v = (do
      let ov ← holding [v] (eval o env)
      let iv ← holding [v, ov] (eval i env)
      standAt pos
      holding [v, ov, iv] (setItem ov iv v)
      release [v, ov, iv] []) := by
  cases i with
  | Slice a b c d => exact absurd h (by cases e <;> simp [chk])
  | _ => exact fun _ => rfl
/-- name = value -/
theorem snd_asg (hs : SrtR p) {i : Nat} {e : Ex} {t v : Expr} {pos : Pos} (c : StOk Γ N sc k X p) (tk : Takes X Wx) (h1 : chkN N sc i t = true) (h2 : chk Γ N sc e v = true) : PS X (.Assign [t] v pos) (tS p Wx fx (fAsg fx i (den Γ e).v)) := by
  unfold chkN at h1
  split at h1
  · rename_i x xp
    simp only [Bool.and_eq_true] at h1
    obtain ⟨l1, l2⟩ := locS_st c x h1.2
    have hi := nmAt_of c.toCtxOk h1.1
    by_cases hv : ∃ a b d g, v = .ListComp a b d g
    · obtain ⟨elt, gs, scope, lp, rfl⟩ := hv
      have sw := @swLc elt gs scope lp x xp pos.line X.env
      cases hb : (X.env.blockKind == .function && X.env.kindOf x == some .local && xp.line == lp.line && !(scope.names.any fun (n, k) => n == x && (k == .local || k == .cell))) with
      | false =>
        rw [hb] at sw
        exact PS.imp (ps_set c.nd hi l1 (snd hs e c.toCtxOk tk h2).v sw l2) fun D σ H h => tS_asg h
      | true =>
        rw [hb] at sw
        have hyl : X.env.scope.names.lookup x = some .local := by
          simp only [Bool.and_eq_true, beq_iff_eq] at hb
          exact hb.1.1.2
        cases e with
        | comp own tg src cond elt' =>
          unfold chk at h2
          split at h2
          · rename_i y tg' it ifs as' scope' pos' hh
            cases hh
            simp only [Bool.and_eq_true, decide_eq_true_eq] at h2
            obtain ⟨⟨⟨⟨⟨⟨e', h1'⟩, h2'⟩, h3⟩, h4⟩, h5⟩, h6⟩ := h2
            subst e'
            have bo : BlkOk X.N X.env.scope scope own := by rw [c.hN, c.hsc]; exact blkOk_by h3
            have P := ps_setLc (X := X) (g := tg.gr X.K) c.calm c.nd hi hyl sw (sndR hs src c.toCtxOk tk h4) bo (fun s H C cl fp => pg_tg (sc := scope) c.calm c.hN c.nd locS_blk h1')
              (fun s H C cl fp => sndC hs cond (c.toCtxOk.blk (s := s) (H := H) (scope := scope) (cl := cl) (C := C) (fp := fp)) takes_no h5)
              (fun s H C cl fp => (snd hs elt' (c.toCtxOk.blk (s := s) (H := H) (scope := scope) (cl := cl) (C := C) (fp := fp)) takes_no h6).v) (fun x => chkR_fo h4 _ x)
            refine PS.imp P fun D σ H h => ?_
            have h := tS_asg (m := (denR Γ src).2 || ((denC Γ cond).2 || (den Γ elt').m)) h
            rw [c.hK]
            refine tE_comp (tgt_ok tg) (fun j hj => ?_) (fun z => ?_) h
            · rw [tgt_is] at hj
              exact by simpa using List.all_eq_true.mp h2' j hj
            · simpa [Bool.or_eq_false_iff] using z
          · cases h2
        | _ => exact absurd h2 (by simp [chk])
    · exact PS.imp (ps_set c.nd hi l1 (snd hs e c.toCtxOk tk h2).v (swF h2 fun a b d g z => hv ⟨a, b, d, g, z⟩) l2) fun D σ H h => tS_asg h
  · cases h1
theorem sndOw (hs : SrtR p) : ∀ (es : Exs) {xs : List Expr}, CtxOk Γ N sc k X p → Takes X Wx → chkS Γ N sc es xs = true → PA X xs (tR p Wx true (relAO p) (denOw Γ es))
  | .nil, xs, c, tk, h => by
    unfold chkS at h
    split at h
    · exact PA.imp pa_nil fun σ H Q h => tAO_nil h
    · cases h
  | .cons e es, xs, c, tk, h => by
    unfold chkS at h
    split at h
    · simp only [Bool.and_eq_true] at h
      exact PA.imp (pa_cons (den_weak (m := true) (fun z => nomatch z) (snd hs e c tk h.1).v) (sndOw hs es c tk h.2) ((chk_plain e _ h.1).st _ _)) fun σ H Q h => tAO_cons h
    · cases h
theorem snd_par (hs : SrtR p) {is : List Nat} {es : Exs} {ts vs : List Expr} {k1 k2 : Nat} {tp vp pos : Pos} (c : StOk Γ N sc k X p) (tk : Takes X Wx) (h1 : chkNs N sc is ts = true) (h2 : chkS Γ N sc es vs = true) (h3 : parOk sc is ts vs = true) :
    PS X (.Assign [.Tuple ts k1 tp] (.Tuple vs k2 vp) pos) (tS p Wx fx (fPar fx is (denOw Γ es))) := by
  have ha := sndOw hs es c.toCtxOk tk h2
  unfold parOk at h3
  split at h3
  · rename_i hw
    rw [← c.hsc] at hw
    obtain ⟨g1, g2, g3⟩ := pg_ns c.hN c.nd (locS_st c) h1
    refine PS.imp (ps_asg (pe_tup ha) (pg_tup c.calm g1 g2 (findNone g3)) (by rfl) (swp_ok hw)) fun D σ H h => ?_
    refine tR.mono (tS_parT h) fun vs H1 ⟨hl, q⟩ => ?_
    refine ⟨by rw [hl, ← lim_line]; have := of_decide_eq_true h3; unfold LIM; omega, fun a hq => ⟨a, vs, rfl, .inl (.inl upd_same), hl, gSet_of is vs σ _ _ hl (q a hq)⟩⟩
  · rename_i ns hw
    rw [← c.hsc] at hw
    rw [Bool.and_eq_true, decide_eq_true_eq] at h3
    obtain ⟨e, h3⟩ := h3
    subst e
    unfold par2 at h3
    split at h3
    · rename_i i j x px y py a b
      simp only [Bool.and_eq_true, decide_eq_true_eq] at h3
      obtain ⟨⟨q1, q2⟩, q3⟩ := h3
      simp only [chkNs, chkN, Bool.and_eq_true] at h1
      rw [← c.hsc] at q2 q3
      refine PS.imp (ps_par c.calm c.nd (nmAt_of c.toCtxOk h1.1.1) (nmAt_of c.toCtxOk h1.2.1.1) q1 q2 q3 ha (swp_ok hw)) fun D σ H h => ?_
      refine tR.mono (tS_par h) fun vs H1 ⟨hl, q⟩ => ?_
      match vs, hl with
      | [v, w], _ => exact ⟨v, w, rfl, q⟩
    · rename_i i j l x px y py z pz a b d
      simp only [Bool.and_eq_true, decide_eq_true_eq] at h3
      obtain ⟨⟨⟨⟨⟨q1, q2⟩, q3⟩, q4⟩, q5⟩, q6⟩ := h3
      simp only [chkNs, chkN, Bool.and_eq_true] at h1
      rw [← c.hsc] at q4 q5 q6
      refine PS.imp (ps_par3 c.calm c.nd (nmAt_of c.toCtxOk h1.1.1) (nmAt_of c.toCtxOk h1.2.1.1) (nmAt_of c.toCtxOk h1.2.2.1.1) q1 q2 q3 q4 q5 q6 ha (swp_ok hw)) fun D σ H h => ?_
      refine tR.mono (tS_par h) fun vs H1 ⟨hl, q⟩ => ?_
      match vs, hl with
      | [u, v, w], _ => exact ⟨u, v, w, rfl, q⟩
    · cases h3
  · cases h3
theorem pair_lookup {R : V → PyData → Prop} : ∀ {fs : List (Str × V)} {gs : List (Str × PyData)} {f : Str} {d : PyData}, PySem.Paired (fun (a : Str × V) (b : Str × PyData) => a.1 = b.1 ∧ R a.2 b.2) fs gs → gs.lookup f = some d → ∃ v, fs.lookup f = some v ∧ R v d
  | _, _, _, _, .nil, h => nomatch h
  | (a, v) :: fs, (b, e) :: gs, f, d, .cons ⟨h1, h2⟩ t, h => by
    have h1 : a = b := h1
    subst h1
    simp only [List.lookup_cons] at h ⊢
    split at h
    · cases h; exact ⟨v, rfl, h2⟩
    · exact pair_lookup t h
theorem exc_fld {x : Exn} {cls : Value} {d : Option Addr} {H : Hp} {f : Str} {e : PyData} {C : Addr} (ex : ExcAt p x cls d H) (hm : p.mg x.cls = some (.ref C)) (h : x.fs.lookup f = some e) : cls = .ref C ∧ ∃ (dd : Addr) (fs : List (Str × V)) (v : V), d = some dd ∧ H dd = some (.xd fs) ∧ fs.lookup f = some v ∧ Rz p.K (fun _ => none) v e := by
  obtain ⟨C', h1, h2, h3⟩ := ex
  rw [hm] at h1
  cases h1
  refine ⟨h2, ?_⟩
  rcases h3 with ⟨z, _⟩ | ⟨dx, fs, e1, e2, e3⟩
  · rw [z] at h; cases h
  · obtain ⟨v, hv, r⟩ := pair_lookup e3 h
    exact ⟨dx, fs, v, e1, e2, hv, r⟩
theorem psBad {st : Stmt} : PS X st (tS p Wx fx fun _ => .bad) := ⟨fun _ _ _ _ _ _ h => by obtain ⟨_, _, _, _, h⟩ := h; exact h.elim⟩
theorem hd_shape {h : Hd} {i : Nat} {on : Option Str} {hb : List Stmt} (c : StOk Γ N sc k X p) (hi : h.slot = some i) (hc : chkHd Γ N sc h on hb = true) : ∃ n, on = some n ∧ X.N[i]? = some n ∧ X.env.kindOf n = some .local ∧ ∃ b0 r, hb = b0 :: r := by
  cases h with
  | k e => cases hi
  | fld j f =>
    cases hi
    dsimp only [chkHd] at hc
    split at hc
    · simp only [Bool.and_eq_true, decide_eq_true_eq] at hc
      exact ⟨_, rfl, nmAt_of c.toCtxOk hc.1.1.2, by unfold Env.kindOf; rw [c.hsc]; exact hc.1.2, _, _, rfl⟩
    · cases hc
  | fldIf j f z a b =>
    cases hi
    dsimp only [chkHd] at hc
    split at hc
    · simp only [Bool.and_eq_true, decide_eq_true_eq] at hc
      exact ⟨_, rfl, nmAt_of c.toCtxOk hc.1.1.1.1.1.1.2, by unfold Env.kindOf; rw [c.hsc]; exact hc.1.1.1.1.1.2, _, _, rfl⟩
    · cases hc
/-- the suite of a clause -/
theorem snd_hdK {e : Ex} {on : Option Str} {hb : List Stmt} {a : Addr} {oe : Obj} {cls : Value} {d : Option Addr} {pn : List (Addr × Obj)} {cn : Str} (h : chkHd Γ N sc (.k e) on hb = true) :
    on = none ∧ ∃ b0 r, hb = b0 :: r ∧ PSs (X.suite a pn) (b0 :: r) (tHd p fx cn (dHd Γ (.k e)) a cls d) := by
  dsimp only [chkHd] at h
  split at h
  · rw [Bool.and_eq_true] at h
    refine ⟨rfl, _, _, rfl, pss_one (PS.imp (ps_ret (sndCstT (p := p) (Wx := wNo) e _ h.1 h.2)) fun D σ H ⟨x, _, _, ε, G, fps, r, q⟩ => tS_ret (fx := fx) ⟨ε, G, fps, r, ?_⟩)⟩
    unfold dHd at q
    dsimp only at q
    unfold fRet
    cases z : (den Γ e).v ε with
    | ok y => rw [z] at q; exact q
    | exc _ _ => rw [z] at q; exact q.elim
    | bad => rw [z] at q; exact q.elim
  · cases h
theorem snd_hdF {i : Nat} {f : Str} {on : Option Str} {hb : List Stmt} {a C : Addr} {oe : Obj} {cls : Value} {d : Option Addr} {pn : List (Addr × Obj)} {cn : Str} (c : StOk Γ N sc k X p) (hm : p.mg cn = some (.ref C)) (T : XfC X.K C) (hno : PySem.W.findIn X.K (.ref C) "line" = some none)
    (hz : Zc cls d oe) (hf : ∃ vs, oe.data = .fields vs) (h : chkHd Γ N sc (.fld i f) on hb = true) :
    ∃ n, on = some n ∧ X.N[i]? = some n ∧ X.env.kindOf n = some .local ∧ ∃ b0 r, hb = b0 :: r ∧
      PSs (X.suite a ((a, oe) :: pn)) (b0 :: r) (fun D σ H => σ[i]? = some (some (.ref a)) ∧ tHd p fx cn (dHd Γ (.fld i f)) a cls d D σ H) := by
  dsimp only [chkHd] at h
  split at h
  · rename_i n x xp f' ap rp
    simp only [Bool.and_eq_true, decide_eq_true_eq, beq_iff_eq] at h
    obtain ⟨⟨⟨⟨⟨e1, e2⟩, e3⟩, h1⟩, h2⟩, h3⟩ := h
    subst e1 e2 e3
    have hi := nmAt_of c.toCtxOk h1
    have hl : X.env.kindOf x = some .local := by unfold Env.kindOf; rw [c.hsc]; exact h2
    obtain ⟨d1, d2, _⟩ := okN_of h3
    refine ⟨x, rfl, hi, hl, _, _, rfl, pss_one (PS.imp (ps_ret (pe_xf (pos := ap) T hno hz hf (pe_var (X := X.suite a ((a, oe) :: pn)) (pos := xp) hi (.inl hl) d1 d2))) fun D σ H ⟨hσ, y, hy, ex, ε, G, fps, r, q⟩ => ?_)⟩
    unfold dHd at q
    dsimp only at q
    cases z : y.fs.lookup ("line" : Str) with
    | none => rw [z] at q; exact q.elim
    | some e =>
      rw [z] at q
      rw [← hy] at hm
      obtain ⟨q1, dd, fs, v, q2, q3, q4, q5⟩ := exc_fld ex hm z
      exact ⟨_, hσ, rfl, q1, dd, fs, v, q2, q3, q4, q v σ G H fps [] r ⟨rfl, q5.same fun _ _ z => by cases z⟩ Tr.refl Fixed.refl⟩
  · cases h
theorem snd_hdI {i : Nat} {f : Str} {z : Int} {ea eb : Ex} {on : Option Str} {hb : List Stmt} {a C : Addr} {oe : Obj} {cls : Value} {d : Option Addr} {pn : List (Addr × Obj)} {cn : Str} (c : StOk Γ N sc k X p) (hm : p.mg cn = some (.ref C)) (T : XfC X.K C) (hno : PySem.W.findIn X.K (.ref C) "line" = some none)
    (hz : Zc cls d oe) (hf : ∃ vs, oe.data = .fields vs) (h : chkHd Γ N sc (.fldIf i f z ea eb) on hb = true) :
    ∃ n, on = some n ∧ X.N[i]? = some n ∧ X.env.kindOf n = some .local ∧ ∃ b0 r, hb = b0 :: r ∧
      PSs (X.suite a ((a, oe) :: pn)) (b0 :: r) (fun D σ H => σ[i]? = some (some (.ref a)) ∧ tHd p fx cn (dHd Γ (.fldIf i f z ea eb)) a cls d D σ H) := by
  dsimp only [chkHd] at h
  split at h
  · rename_i n x xp f' ap c' kk cp cmp va vb ip rp
    simp only [Bool.and_eq_true, decide_eq_true_eq, beq_iff_eq] at h
    obtain ⟨⟨⟨⟨⟨⟨⟨⟨⟨⟨e1, e2⟩, e3⟩, e4⟩, h1⟩, h2⟩, h3⟩, k1⟩, k2⟩, k3⟩, k4⟩ := h
    subst e1 e2 e3 e4
    have hi := nmAt_of c.toCtxOk h1
    have hl : X.env.kindOf x = some .local := by unfold Env.kindOf; rw [c.hsc]; exact h2
    obtain ⟨d1, d2, _⟩ := okN_of h3
    have pf := pe_xf (pos := ap) T hno hz hf (pe_var (X := X.suite a ((a, oe) :: pn)) (pos := xp) hi (.inl hl) d1 d2)
    refine ⟨x, rfl, hi, hl, _, _, rfl, pss_one (PS.imp (ps_ret (pe_ifExp (pt_cmp (pc_eqI pf pe_int)) (sndCstT (p := p) (Wx := wNo) ea _ k1 k3) (sndCstT (p := p) (Wx := wNo) eb _ k2 k4))) fun D σ H ⟨hσ, y, hy, ex, ε, G, fps, r, q⟩ => ?_)⟩
    unfold dHd at q
    dsimp only at q
    cases z' : y.fs.lookup ("line" : Str) with
    | none => rw [z'] at q; exact q.elim
    | some e =>
      rw [z'] at q
      cases e with
      | int n =>
        dsimp only at q
        rw [← hy] at hm
        obtain ⟨q1, dd, fs, v, q2, q3, q4, q5⟩ := exc_fld ex hm z'
        cases q5
        refine ⟨_, hσ, rfl, q1, dd, fs, _, q2, q3, q4, n, z, rfl, rfl, _, rfl, ?_⟩
        have fin : ∀ e' : Ex, AfterS p wNo fx σ G H fps (match (den Γ e').v ε with | .ok q => .ok (.ret q.1, q.2) | _ => .bad) D → tE p wNo (den Γ e').m (den Γ e').v σ H D.rt := fun e' q => tS_ret (fx := fx) ⟨ε, G, fps, r, by
          unfold fRet
          cases w : (den Γ e').v ε with
          | ok y => rw [w] at q; exact q
          | exc _ _ => rw [w] at q; exact q.elim
          | bad => rw [w] at q; exact q.elim⟩
        show (if decide (n = z) = true then tE p wNo (den Γ ea).m (den Γ ea).v σ H D.rt else tE p wNo (den Γ eb).m (den Γ eb).v σ H D.rt)
        by_cases hn : n = z
        · rw [if_pos hn] at q
          rw [decide_eq_true hn, if_pos rfl]
          exact fin ea q
        · rw [if_neg hn] at q
          rw [decide_eq_false hn, if_neg Bool.false_ne_true]
          exact fin eb q
      | _ => exact q.elim
  · cases h
end
mutual
theorem sndSt {Γ : Gm} {N : List Str} {sc : Scope} {k : Nat} {p : Pm} {fx : List Nat} (hs : SrtR p) : ∀ (s : Sm) {X : Cx} {Wx : WX} {st : Stmt}, StOk Γ N sc k X p → Takes X Wx → chkSt Γ N sc s st = true → PS X st (tS p Wx fx (dS Γ fx s))
  | .asg i e, X, Wx, st, c, tk, h => by
    unfold chkSt at h
    split at h
    · rw [Bool.and_eq_true] at h
      exact snd_asg hs c tk h.1 h.2
    · cases h
  | .par is es, X, Wx, st, c, tk, h => by
    unfold chkSt at h
    split at h
    · simp only [Bool.and_eq_true] at h
      exact snd_par hs c tk h.1.1 h.1.2 h.2
    · cases h
  | .asgT is e, X, Wx, st, c, tk, h => by
    unfold chkSt at h
    split at h
    · rename_i ts k1 p1 v pos
      simp only [Bool.and_eq_true] at h
      obtain ⟨g1, g2, g3⟩ := pg_ns c.hN c.nd (locS_st c) h.1.1
      refine PS.imp (ps_asg (snd hs e c.toCtxOk tk h.1.2).v (pg_tup c.calm g1 g2 (findNone g3)) ?_ ?_) fun D σ H q => by rw [c.hK]; exact tS_asgT q
      · cases v <;> rfl
      · cases v with
        | Tuple _ _ _ => exact absurd h.2 (by simp [isTup])
        | _ => rfl
    · cases h
  | .app i e, X, Wx, st, c, tk, h => by
    unfold chkSt at h
    split at h
    · rename_i x xp nm apos y pos epos
      simp only [Bool.and_eq_true] at h
      obtain ⟨⟨⟨e1, e2⟩, h1⟩, h2⟩ := h
      have e1 := beq_iff_eq.mp e1
      subst e1
      have pl := chk_plain e _ h2
      have hv := tvar_of (pos := xp) c.toCtxOk (by simp only [Bool.and_eq_true]; exact h1)
      refine PS.imp (ps_expr (pe_bm PySem.F.plainAttrs_list PySem.F.slot_list_append PySem.F.type_list_append mt_append hv (pa_cons (snd hs e c.toCtxOk tk h2).v pa_nil (pl.st _ _)) (by rfl) (by rw [pl.st]; rfl) e2 (pl.st _ _) (by rfl))) fun D σ H q => by rw [c.hK]; exact tS_app q
    · cases h
  | .setL i j e, X, Wx, st, c, tk, h => by
    unfold chkSt at h
    split at h
    · rename_i x xp jx sp v pos
      simp only [Bool.and_eq_true] at h
      obtain ⟨⟨h1, h2⟩, h3⟩ := h
      have hv := tvar_of (pos := xp) c.toCtxOk (by simp only [Bool.and_eq_true]; exact h1)
      refine PS.imp (ps_asg (snd hs e c.toCtxOk tk h3).v (pg_sub hv (snd hs j c.toCtxOk tk h2).b set_list (chk_asgS h2)) ?_ (by cases v <;> rfl) (by rfl)) fun D σ H q => tS_setL q
      cases v <;> rfl
    · cases h
  | .expr e, X, Wx, st, c, tk, h => by
    unfold chkSt at h
    split at h
    · rename_i v pos
      simp only [Bool.and_eq_true] at h
      refine PS.imp (ps_expr (snd hs e c.toCtxOk tk h.2).v (swF h.2 fun a b d g z => ?_)) fun D σ H q => tS_expr q
      rw [z] at h
      cases h.1
    · cases h
  | .ite z a b, X, Wx, st, c, tk, h => by
    unfold chkSt at h
    split at h
    · simp only [Bool.and_eq_true] at h
      exact PS.imp (ps_if (snd hs z c.toCtxOk tk h.1.1).t (sndSs hs a c tk h.1.2) (sndSs hs b c tk h.2)) fun D σ H q => tS_if q
    · cases h
  | .whl z b, X, Wx, st, c, tk, h => by
    unfold chkSt at h
    split at h
    · simp only [Bool.and_eq_true] at h
      exact PS.imp (ps_while c.pass (snd hs z c.toCtxOk tk h.1).t (sndSs hs b c tk h.2)) fun D σ H q => tS_while q
    · cases h
  | .forr tg src b, X, Wx, st, c, tk, h => by
    unfold chkSt at h
    split at h
    · simp only [Bool.and_eq_true] at h
      exact PS.imp (ps_for c.pass c.calm (sndR hs src c.toCtxOk tk h.1.2) (pg_tg c.calm c.hN c.nd (locS_st c) h.1.1) (sndSs hs b c tk h.2) (fun x => chkR_fo h.1.2 _ x)) fun D σ H q => tS_for (by rw [c.hK]; exact tgt_ok tg) q
    · cases h
  | .ret e, X, Wx, st, c, tk, h => by
    unfold chkSt at h
    split at h
    · exact PS.imp (ps_ret (snd hs e c.toCtxOk tk h).v) fun D σ H q => tS_ret q
    · cases h
  | .retV i, X, Wx, st, c, tk, h => by
    unfold chkSt at h
    split at h
    · exact PS.imp (ps_ret (tvar_of c.toCtxOk h)) fun D σ H q => tS_retV q
    · cases h
  | .retN, X, Wx, st, c, tk, h => by
    unfold chkSt at h
    split at h
    · exact PS.imp ps_retN fun D σ H q => tS_retN q
    · cases h
  | .brk, X, Wx, st, c, tk, h => by
    unfold chkSt at h
    split at h
    · exact PS.imp ps_break fun D σ H q => tS_brk q
    · cases h
  | .cont, X, Wx, st, c, tk, h => by
    unfold chkSt at h
    split at h
    · exact PS.imp ps_continue fun D σ H q => tS_cont q
    · cases h
  | .pass, X, Wx, st, c, tk, h => by
    unfold chkSt at h
    split at h
    · exact PS.imp ps_pass fun D σ H q => tS_next q
    · cases h
  | .rais j es, X, Wx, st, c, tk, h => by
    unfold chkSt at h
    split at h
    · rename_i x xp y r cp rp q hq
      simp only [Bool.and_eq_true] at h
      obtain ⟨⟨⟨e, h1⟩, h2⟩, h3⟩ := h
      have e := beq_iff_eq.mp e
      subst e
      have st := chkS_pl h3
      have M := (c.exs j q hq).made X.pn X.xe Wx _ _ y r xp cp (gl_of c.toCtxOk h1) (okN_of h2).1 ((st _ List.mem_cons_self).st _ _) (starEach_any fun e he r => (st e (List.mem_cons_of_mem _ he)).st _ r) (sndS hs es c.toCtxOk tk h3)
      refine PS.imp (ps_raise c.calm tk M) fun D σ H q' => ?_
      unfold dS at q'
      rw [hq] at q'
      exact tS_rais q'
    · cases h
  | .tryK b j hd, X, Wx, st, c, tk, h => by
    unfold chkSt at h
    split at h
    · rename_i bx x xp on hb hp pos q hq
      simp only [Bool.and_eq_true] at h
      obtain ⟨⟨⟨⟨e, h1⟩, h2⟩, h3⟩, h4⟩ := h
      have e := beq_iff_eq.mp e
      subst e
      obtain ⟨C, m1, m2, m3, m4⟩ := (c.exs j q hq).at'
      have nm : Names X q.1 (.ref C) := ⟨gl_of c.toCtxOk h1, (okN_of h2).1, .inl (by rw [c.hmg]; exact m1)⟩
      have body := fun (W : WX) pn xe (t : Takes (X.tr pn xe) W) (pw : PassesOwn (model X.prog X.w) X.A X.env xe) => sndSs hs b (c.tr pn xe pw) t h3 (fx := fx)
      unfold dS
      rw [hq]
      dsimp only
      by_cases hfx' : hd.slot.all (fun i => !fx.contains i) = true
      case neg => rw [if_neg hfx']; exact psBad
      rw [if_pos hfx']
      cases hd with
      | k e =>
        have H := snd_hdK (X := X) (p := p) (fx := fx) (cn := q.1) (a := 0) (oe := default) (cls := .none) (d := none) (pn := []) h4
        obtain ⟨e1, b0, r, e2, _⟩ := H
        subst e1 e2
        refine PS.imp (ps_try_only (c := .ref C) (tb := fun W => tS p W fx (dSs Γ fx b)) (ts := tHd p fx q.1 (dHd Γ (.k e))) (Wout := wNo) c.stk c.fr nm takes_no body fun a oe cls d pn _ _ => ?_) fun D σ H q' => ?_
        · obtain ⟨_, b0', r', e2, P⟩ := snd_hdK (X := X) (p := p) (fx := fx) (cn := q.1) (a := a) (oe := oe) (cls := cls) (d := d) (pn := (a, oe) :: pn) h4
          cases e2
          exact P
        · rw [c.hK]
          exact tS_try m1 m2 q'
      | fld i f =>
        obtain ⟨n, e1, hi, hl, b0, r, e2⟩ := hd_shape c (i := i) rfl h4
        subst e1 e2
        have hfx : i ∉ fx := fun z => by simp [Hd.slot, z] at hfx'
        refine PS.imp (ps_try_as (c := .ref C) (tb := fun W => tS p W fx (dSs Γ fx b)) (ts := fun a cls d D' σ' H' => σ'[i]? = some (some (.ref a)) ∧ tHd p fx q.1 (dHd Γ (.fld i f)) a cls d D' σ' H') (Wout := wNo) c.stk c.fr c.nd hi hl nm takes_no body fun a oe cls d pn hz hf => ?_) fun D σ H q' => ?_
        · obtain ⟨_, _, _, _, b0', r', e2, P⟩ := snd_hdF (X := X) (fx := fx) (a := a) (oe := oe) (cls := cls) (d := d) (pn := pn) (cn := q.1) c m1 m3 m4 hz hf h4
          cases e2
          exact P
        · rw [c.hK]
          exact tS_tryAs hfx m1 m2 q'
      | fldIf i f z ea eb =>
        obtain ⟨n, e1, hi, hl, b0, r, e2⟩ := hd_shape c (i := i) rfl h4
        subst e1 e2
        have hfx : i ∉ fx := fun z => by simp [Hd.slot, z] at hfx'
        refine PS.imp (ps_try_as (c := .ref C) (tb := fun W => tS p W fx (dSs Γ fx b)) (ts := fun a cls d D' σ' H' => σ'[i]? = some (some (.ref a)) ∧ tHd p fx q.1 (dHd Γ (.fldIf i f z ea eb)) a cls d D' σ' H') (Wout := wNo) c.stk c.fr c.nd hi hl nm takes_no body fun a oe cls d pn hz hf => ?_) fun D σ H q' => ?_
        · obtain ⟨_, _, _, _, b0', r', e2, P⟩ := snd_hdI (X := X) (fx := fx) (a := a) (oe := oe) (cls := cls) (d := d) (pn := pn) (cn := q.1) c m1 m3 m4 hz hf h4
          cases e2
          exact P
        · rw [c.hK]
          exact tS_tryAs hfx m1 m2 q'
    · cases h
theorem sndSs {Γ : Gm} {N : List Str} {sc : Scope} {k : Nat} {p : Pm} {fx : List Nat} (hs : SrtR p) : ∀ (s : Sms) {X : Cx} {Wx : WX} {st : List Stmt}, StOk Γ N sc k X p → Takes X Wx → chkSs Γ N sc s st = true → PSs X st (tS p Wx fx (dSs Γ fx s))
  | .nil, X, Wx, st, c, tk, h => by
    unfold chkSs at h
    split at h
    · exact PSs.imp pss_nil fun D σ H q => tS_next q
    · cases h
  | .cons s r, X, Wx, st, c, tk, h => by
    unfold chkSs at h
    split at h
    · rw [Bool.and_eq_true] at h
      exact PSs.imp (pss_cons (sndSt hs s c tk h.1) (sndSs hs r c tk h.2)) fun D σ H q => tS_seq q
    · cases h
end
end Mb
end

section
set_option Elab.async false
set_option linter.all false
set_option maxRecDepth 100000
set_option maxHeartbeats 2000000
/-! Mb28: defs of the text, the law's end -/
namespace Mb
open PySem PySem.Spec PyProof.Rows L2

/-- the module's facts for a def's body -/
structure GmOk (P : Program) (w : World) (K : PySem.W.Frag) (mg : Str → Option Value) (base : Heap) (k : Nat) (Γ : Gm) : Prop where
  fns : ∀ (j : Nat) (q : Str × FD), Γ.fns[j]? = some q → ∃ f fd ps, FnG P w K mg base k f fd ps (spF ⟨K, mg⟩ q.2) ∧ mg q.1 = some (.ref f) ∧ PySem.W.keepIn K (.ref f) = true ∧ Binds K fd ps []
  blt : ∀ x, Γ.blt.contains x = true → mg x = none
  glb : ∀ (j : Nat) (q : Str × PyData), Γ.glb[j]? = some q → ∃ u v, mg q.1 = some u ∧ RelV v u ∧ ∀ G, Rz K G v q.2
  exs : ∀ (X : Cx) (j : Nat) (q : Str × (List Ent → Option Exn)), X.prog = P → X.w = w → X.K = K → X.mg = mg → X.base = base → X.calm = true → X.env.scope.kind = .function → Room k X.A → X.A.guards = some [] → Γ.exs[j]? = some q → ExOk X ⟨K, mg⟩ q

theorem fnG_d {P : Program} {w : World} {K : PySem.W.Frag} {mg : Str → Option Value} {base : Heap} {k : Nat} {f : Addr} {x qual : Str} {params : Arguments} {body : List Stmt} {scope : Scope} {fd : FuncData} {N ps : List Str} {fx : List Nat} {Γ : Gm} {sms : Sms}
    (D : FunD K x qual params body scope [] [] f fd) (S : FnScope N ps scope) (hs : SrtR ⟨K, mg⟩) (g : GmOk P w K mg base k Γ) (hc : chkSs Γ N scope sms body = true) :
    FnG P w K mg base (k + 1) f fd ps (spF ⟨K, mg⟩ (runF N.length ps.length fx (dSs Γ fx sms))) := by
  obtain ⟨oc, od, dV, kV, doc, pm, an, cdv, ct, osl, rfl, lk, hcd, _, _⟩ := D.ex
  refine fnG_of lk hcd S fun A outer s H E hr hg => ?_
  refine sndSs hs sms ⟨⟨⟨rfl, rfl, rfl, S.nd, hr.units⟩, rfl, rfl, ?_, hr, g.fns, g.blt, g.glb⟩, fun _ => rfl, passes_of rfl, rfl, rfl, fun j q e => g.exs _ j q rfl rfl rfl rfl rfl rfl S.kind hr ?_ e⟩ (takes_of rfl rfl rfl rfl) hc
  all_goals exact hg
end Mb
end

section
set_option Elab.async false
set_option linter.all false
set_option maxRecDepth 100000
set_option maxHeartbeats 2000000
/-! Mb29: the law's end -/
namespace Mb
open PySem PySem.Spec PyProof.Rows L2

/-- how the law's call ends -/
abbrev LawEnd (s : Shared) : Result → Shared → Prop := fun r t => r = .ok (.ret (.bool true)) ∧ OldK s.heap t.heap ∧ t.os = s.os ∧ AllBare t.gens
section
variable {P : Program} {w : World} {K : PySem.W.Frag} {mg mb : Str → Option Value} {k : Nat} {fa a : Addr} {fd : FuncData} {x : Str} {sp : Sp} {s : Shared} {vs : List Value} {ns : List Int}
/-- from an abstract heap that tracks at most the script -/
theorem law_from {T : Hp} (KX : K.In s.heap) (gl : s.heap.Ns mainGlobals mg) (gb : s.heap.Ns builtinsNs mb) (bb : ∀ y : Str, y ≠ "__name__" → mb y = bootBuiltins y) (nl : s.heap.NoLimit) (ge : s.gens = #[])
    (ha : s.heap.get? a = some { cls := .type "list", data := .seq vs.toArray }) (room : Room k callerA)
    (F : ∀ base : Heap, K.In base → base.Ns mainGlobals mg → FnG P w K mg base k fa fd [x] sp) (bind : ∀ (t : Shared) (u : Value), BindsTo t fd ⟨[u], []⟩ [(x, u)])
    (pr : sp [.ref a] T (fun v _ => v = .bl true) fun _ _ _ => False) (only : ∀ b, T b = none ∨ ∃ o ys, T b = some (.frz o (.lst ys))) (ok : HOk P w T s.heap) (at1 : ∀ b, T b ≠ none → b = a ∧ K.lookup a = none) :
    codeAny (model P w) callerA (.call (.ref fa) ⟨[.ref a], []⟩) (LawEnd s) s := by
  have dicts : ∀ {b : Addr} {o : Obj}, s.heap.get? b = some o → (∀ its n, o.data ≠ .seq its n) → T b = none := fun {b o} e nd => by
    rcases only b with z | ⟨_, _, z⟩
    · exact z
    · have := (at1 b (by rw [z]; exact fun q => nomatch q)).1
      subst this
      rw [ha] at e
      cases e
      exact absurd rfl (nd _ _)
  have stays : ∀ {b : Addr} {m : Str → Option Value}, s.heap.Ns b m → (hidT s.heap T).Ns b m := fun {b m} ⟨o, es, ep, e, d, r⟩ => ⟨o, es, ep, hidT_get e (dicts e fun its n z => by rw [d] at z; cases z), d, r⟩
  have kin : K.In (hidT s.heap T) := fun b o e => hidT_get (KX b o e) (by
    cases q : T b with
    | none => rfl
    | some u =>
      obtain ⟨e1, e2⟩ := at1 b (by rw [q]; exact fun z => nomatch z)
      rw [e1, e2] at e
      cases e)
  obtain ⟨mc, l1, l2⟩ := nl
  have M : Mod K mg (hidT s.heap T) := ⟨kin, stays gl, ⟨mb, stays gb, bb⟩, ⟨mc, stays l1, l2⟩⟩
  have en : Env0 P w K mg (hidT s.heap T) callerA [] s T := ⟨rfl, M, fun b o e => of_hidT e, Nat.le_of_eq (hidT_size _ _), trivial, fun _ z => (nomatch z), ok, .of_eq ge⟩
  have R := (F _ kin (stays gl)).run callerA [] s T ⟨[.ref a], []⟩ [.ref a] [.ref a] _ _ room rfl en (bind s (.ref a)) (.cons rfl .nil) pr
  refine codeAny_mono R fun r t h => ?_
  match r, h with
  | .error e, ⟨_, _, _, _, _, _, _, _, _, _, _, _, z⟩ => exact z.elim
  | .ok (.ret u), ⟨v, T', os, bare, un, ok', rel, q⟩ =>
    have q : v = .bl true := q
    subst q
    have rel : u = Value.bool true := rel
    subst rel
    refine ⟨rfl, OldK.of_keep fun b o e => ?_, os, bare⟩
    rcases only b with z | ⟨ob, ys, z⟩
    · exact un.keep b o e z (fun y => nomatch y) (fun y => nomatch y)
    · have z2 := un.frzs b ob _ z
      obtain ⟨e1, _⟩ := ok b _ z
      obtain ⟨e2, _⟩ := ok' b _ z2
      rw [e] at e1
      cases e1
      exact e2
theorem law_callG (KX : K.In s.heap) (noL : ∀ b o, K.lookup b = some o → o.cls ≠ .type "list") (gl : s.heap.Ns mainGlobals mg) (gb : s.heap.Ns builtinsNs mb) (bb : ∀ y : Str, y ≠ "__name__" → mb y = bootBuiltins y) (nl : s.heap.NoLimit) (ge : s.gens = #[])
    (ha : s.heap.get? a = some { cls := .type "list", data := .seq vs.toArray }) (hi : IntsAre vs ns) (hl : ns.length ≤ sizeLine) (room : Room k callerA)
    (F : ∀ base : Heap, K.In base → base.Ns mainGlobals mg → FnG P w K mg base k fa fd [x] sp) (bind : ∀ (t : Shared) (u : Value), BindsTo t fd ⟨[u], []⟩ [(x, u)])
    (pr : ∀ T : Hp, Rd T a (.lst (ns.map V.int)) → sp [.ref a] T (fun v _ => v = .bl true) fun _ _ _ => False) :
    codeAny (model P w) callerA (.call (.ref fa) ⟨[.ref a], []⟩) (LawEnd s) s := by
  have rv := vals_ints hi
  have hk : K.lookup a = none := by
    cases q : K.lookup a with
    | none => rfl
    | some o =>
      have e := KX a o q
      rw [ha] at e
      cases e
      exact absurd rfl (noL a _ q)
  let o : Obj := { cls := .type "list", data := .seq vs.toArray }
  let T : Hp := upd (fun _ => none) a (.frz o (.lst (ns.map V.int)))
  have Ta : T a = some (.frz o (.lst (ns.map V.int))) := upd_same
  have Tn : ∀ b, b ≠ a → T b = none := fun b z => upd_ne z
  refine law_from (T := T) KX gl gb bb nl ge ha room F bind (pr T (.inr ⟨o, Ta⟩)) (fun b => ?_) (fun b u z => ?_) fun b z => ⟨?_, hk⟩
  · by_cases q : b = a
    · rw [q]; exact .inr ⟨o, _, Ta⟩
    · exact .inl (Tn b q)
  · by_cases q : b = a
    · subst q
      rw [Ta] at z
      cases z
      exact ⟨ha, by rw [List.length_map]; exact hl, vs, _, rv, ha⟩
    · rw [Tn b q] at z; cases z
  · by_cases q : b = a
    · exact q
    · exact absurd (Tn b q) z
end
theorem spF_law {K : PySem.W.Frag} {mg : Str → Option Value} {FF : FD} {ns : List Int} {ps : List (Option Ent)} {T : Hp} {a : Addr} (h : FF [(0, .list (ns.map PyData.int))] = .ok (0, .bool true) ps) (hS : Rd T a (.lst (ns.map V.int))) :
    spF ⟨K, mg⟩ FF [.ref a] T (fun v _ => v = .bl true) fun _ _ _ => False := by
  refine ⟨[(0, .list (ns.map PyData.int))], T, fun _ => [], ⟨rfl, Same.refl T, fun b w => ?_, fun _ => .nil, fun _ _ _ z => (nomatch z), .nil, fun _ _ z => (nomatch z), fun i e he => ?_⟩, fun _ _ => rfl, ?_⟩
  · rcases w with w | ⟨_, w⟩ <;> cases w
  · match i, he with
    | 0, he =>
      cases he
      exact ⟨.ref a, rfl, rfl, .lst hS (map_rz PyData.int V.int (fun i => .int i) ns)⟩
  · rw [h]
    intro v G' H' fps' fp _ o _ _
    cases o.2
    rfl
/-- the goal of the head: F gives the written part, the def, what it computes -/
theorem walkG {l : PySem.W.OpenLaw} {n k : Nat} {q : Program} {loose : List Str} {XP : (Str → Option Value) → Heap → Prop} {YP : World → Heap → Prop} {d : DefRec} {x : Str} (hn : l.most = some n) (hn2 : n ≤ sizeLine) (hdf : d.params.defaults = []) (hr : Room k callerA)
    (F : ∀ (w : World) (mg : Str → Option Value) (fa : Addr) (h : Heap), YP w h → h.Ns mainGlobals mg → mg d.name = some (.ref fa) →
      ∃ (K : PySem.W.Frag) (fd : FuncData) (FF : FD), K.In h ∧ (∀ b o, K.lookup b = some o → o.cls ≠ .type "list") ∧ (∀ (s : Shared) (u : Value), BindsTo s fd ⟨[u], []⟩ [(x, u)]) ∧ (∀ ns : List Int, ns.length ≤ n → ∃ ps, FF [(0, .list (ns.map PyData.int))] = .ok (0, .bool true) ps) ∧
        ∀ base : Heap, K.In base → base.Ns mainGlobals mg → FnG l.prog w K mg base k fa fd [x] (spF ⟨K, mg⟩ FF)) :
    PySem.W.WalkO q loose XP YP l.row.toRowW d [] (fun f vs => PySem.call f vs) := by
  refine Att.attach_call hn hdf fun w s0 s mg mb fa o pm cd doc a vs ns G Y ho hd hcd hmg hobj hints hlen hg => ?_
  obtain ⟨K, fd, FF, KX, noL, hb, hv, hF⟩ := F w mg fa _ Y G.T.g hmg
  obtain ⟨ps, hv⟩ := hv ns hlen
  refine law_callG KX noL G.T.g G.T.b G.T.builtins G.T.nolimit hg hobj hints (Nat.le_trans hlen hn2) hr hF hb fun T hS => spF_law hv hS

/-! ### the head's facts -/
def notL (K : PySem.W.Frag) : Bool := K.all fun q => decide (q.2.cls ≠ .type "list")
theorem notL_ok {K : PySem.W.Frag} (h : notL K = true) (b : Addr) (o : Obj) (e : K.lookup b = some o) : o.cls ≠ .type "list" := by
  have m : ∀ {l : PySem.W.Frag}, l.lookup b = some o → (b, o) ∈ l := by
    intro l
    induction l with
    | nil => intro z; cases z
    | cons q r ih =>
      intro z
      obtain ⟨b', o'⟩ := q
      rw [List.lookup_cons] at z
      split at z
      · rename_i e'
        cases z
        rw [beq_iff_eq.mp e']
        exact List.mem_cons_self
      · exact List.mem_cons_of_mem _ (ih z)
  exact of_decide_eq_true (List.all_eq_true.mp h _ (m e))
def obsM (n : Nat) (fa : List He.Fa) (fn : List He.DefD) (ex : PySem.W.Frag → Bool) (g : Addr → Option Obj) : He.AlD :=
  ((He.obsD fa fn (He.frG g (He.asD g n))).1 && ex (He.frG g (He.asD g n)), (He.obsD fa fn (He.frG g (He.asD g n))).2)
def SaysM (fa : List He.Fa) (fn : List He.DefD) (ex : PySem.W.Frag → Bool) (K : PySem.W.Frag) : Prop := He.SaysD fa fn K ∧ ex K = true
def hookM (n : Nat) (fa : List He.Fa) (fn : List He.DefD) (ex : PySem.W.Frag → Bool) : PySem.W.Hook where
  α := He.AlD
  obs := fun s => obsM n fa fn ex s.heap.get?
  val := fun _ => He.valD fn
  says := fun _ h => ∃ K : PySem.W.Frag, K.In h ∧ SaysM fa fn ex K
  of := fun _ s e => by
    refine ⟨He.frG s.heap.get? (He.asD s.heap.get? n), He.frG_in, ?_, ?_⟩
    · have e1 := congrArg (fun z : He.AlD => z.1) e
      have e2 := congrArg (fun z : He.AlD => z.2) e
      exact Prod.ext ((Bool.and_eq_true_iff.mp e1).1) e2
    · have e1 := congrArg (fun z : He.AlD => z.1) e
      exact (Bool.and_eq_true_iff.mp e1).2
  keeps := fun _ _ _ ⟨K, hK, c⟩ k => ⟨K, PySem.W.Frag.In.keeps hK k, c⟩
theorem obsM_eq {n : Nat} {fa : List He.Fa} {fn : List He.DefD} {ex : PySem.W.Frag → Bool} {g : Addr → Option Obj} {s : Shared} (h : ∀ a, g a = s.heap.get? a) : obsM n fa fn ex g = (hookM n fa fn ex).obs s := by
  have e : g = s.heap.get? := funext h
  rw [e]; rfl
end Mb
end

section
set_option Elab.async false
set_option linter.all false
set_option maxRecDepth 100000
set_option maxHeartbeats 2000000
/-! Mb30: makers of exceptions -/
namespace Mb
open PySem PySem.Spec PyProof.Rows L2
def mkLine (c : Str) : List Ent → Option Exn
  | [(_, .int i)] => if i.natAbs.log2 < 1920 then some ⟨c, [("line", .int i)]⟩ else none
  | _ => none
def mkTxt (c : Str) : List Ent → Option Exn
  | [(_, .str s)] => some ⟨c, []⟩
  | _ => none
end Mb
end

section
set_option Elab.async false
set_option linter.all false
set_option maxRecDepth 100000
set_option maxHeartbeats 3200000
/-! Mb31: sets of keys that can be walked: made of a list -/
namespace Mb
open PySem PySem.Spec PyProof.Rows L2

theorem Prd.perm {α β : Type} {R : α → β → Prop} {xs xs' : List α} (h : xs'.Perm xs) : ∀ {ys : List β}, PySem.Paired R xs ys → ∃ ys', PySem.Paired R xs' ys' ∧ ys'.Perm ys := by
  induction h with
  | nil => intro ys p; cases p; exact ⟨[], .nil, .rfl⟩
  | cons x h ih =>
    intro ys p
    cases p with
    | cons r t => obtain ⟨ys', q, pm⟩ := ih t; exact ⟨_, .cons r q, pm.cons _⟩
  | swap x y l =>
    intro ys p
    cases p with
    | cons r t =>
      cases t with
      | cons r' t => exact ⟨_, .cons r' (.cons r t), List.Perm.swap _ _ _⟩
  | trans h1 h2 ih1 ih2 =>
    intro ys p
    obtain ⟨ys1, q1, pm1⟩ := ih2 p
    obtain ⟨ys2, q2, pm2⟩ := ih1 q1
    exact ⟨ys2, q2, pm2.trans pm1⟩
theorem Prd.mem {α β : Type} {R : α → β → Prop} : ∀ {xs : List α} {ys : List β} {x : α}, PySem.Paired R xs ys → x ∈ xs → ∃ y ∈ ys, R x y
  | _, _, _, .cons r t, h => by
    rcases List.mem_cons.mp h with rfl | h
    · exact ⟨_, List.mem_cons_self, r⟩
    · obtain ⟨y, hy, q⟩ := Prd.mem t h; exact ⟨y, List.mem_cons_of_mem _ hy, q⟩
theorem Prd.mem' {α β : Type} {R : α → β → Prop} : ∀ {xs : List α} {ys : List β} {y : β}, PySem.Paired R xs ys → y ∈ ys → ∃ x ∈ xs, R x y
  | _, _, _, .cons r t, h => by
    rcases List.mem_cons.mp h with rfl | h
    · exact ⟨_, List.mem_cons_self, r⟩
    · obtain ⟨x, hx, q⟩ := Prd.mem' t h; exact ⟨x, List.mem_cons_of_mem _ hx, q⟩

section
variable {P : Program} {w : World}
abbrev isE (P : Program) (w : World) : Int × Value → Key → Prop := fun e k => (mixKind P w).is k e.2 = true
/-- the walkable set at a, its members L (in some order) -/
structure SG (P : Program) (w : World) (h : Heap) (a : Addr) (L : List Key) : Prop where
  ex : ∃ (o : Obj) (es : Array (Int × Value)) (ep : Nat) (t : SetTable), h.get? a = some o ∧ o.ExactSet ∧ o.data = .set es ep t ∧ ElemsOf (mixKind P w) es.toList ∧ (∃ M, PySem.Paired (isE P w) es.toList M ∧ M.Perm L) ∧
    es.size < scanBound ∧ t.fits es.size = true ∧ Ris t.place.toList ∧ (w.params.followText "set-order" = true ∨ t.led = true)
  nd : L.Nodup
variable {h h' : Heap} {a : Addr} {L : List Key}
theorem SG.at (R : SG P w h a L) (k : ∀ o, h.get? a = some o → h'.get? a = some o) : SG P w h' a L := by
  obtain ⟨⟨o, es, ep, t, ho, r⟩, nd⟩ := R
  exact ⟨⟨o, es, ep, t, k o ho, r⟩, nd⟩
end
section
variable {P : Program} {w : World} {A : Around} {E : Value → Shared → Prop} {s : Shared} {a : Addr} {L : List Key}
/-- the table is stored, and laid anew where it is too full -/
theorem sg_tail {gv : Bool → Sem Unit} (hgv : ∀ (b : Bool) (s1 : Shared) (Z : Unit → Shared → Prop), Z () s1 → wpAny (model P w) A (gv b) Z E s1)
    {o : Obj} {es : Array (Int × Value)} {ep : Nat} {t : SetTable} (ho : s.heap.get? a = some o) (hex : o.ExactSet) (hd : o.data = .set es ep t) {fs : Array (Int × Value)} {t2 : SetTable} {M N : List Key} (el : ElemsOf (mixKind P w) fs.toList)
    (pr : PySem.Paired (isE P w) fs.toList M) (pm : M.Perm N) (nd : N.Nodup) (hb : fs.size < scanBound) (hf : t2.fits fs.size = true) (hr : Ris t2.place.toList) (hl : w.params.followText "set-order" = true ∨ t2.led = true) {wd : Bool} {Z : Option Bool → Shared → Prop}
    (hZ : ∀ h', Heap.SameBut a s.heap h' → SG P w h' a N → Z (some true) { s with heap := h' }) :
    wpAny (model P w) A (storeSet a fs t2 >>= fun _ => if (!wd && t2.tooFull) = true then (do
            gv (relayAll t2 fs (SetTable.grown fs.size)).2.2
            storeSet a (relayAll t2 fs (SetTable.grown fs.size)).1 (relayAll t2 fs (SetTable.grown fs.size)).2.1
            pure (some true)) else pure (some true)) Z E s := by
  refine wpAny_bind (wpAny_storeSet_of ho hd ?_ (fits_of_scanBound hb))
  have at1 := store_at (es' := fs) (t' := t2) ho hd
  have but1 := Heap.SameBut.update s.heap a (Obj.putSet fs t2)
  by_cases full : (!wd && t2.tooFull) = true
  · rw [if_pos full]
    have p2 := relayAll_perm t2 fs (SetTable.grown fs.size)
    have f2 := relayAll_fits t2 fs (SetTable.grown fs.size)
    have r2 := relayAll_ris t2 fs (SetTable.grown fs.size)
    have l2 := relayAll_led t2 fs (SetTable.grown fs.size)
    revert p2 f2 r2 l2
    rcases relayAll t2 fs (SetTable.grown fs.size) with ⟨gs, t3, gave⟩
    intro p2 f2 r2 l2
    have sz : gs.size = fs.size := by have := p2.length_eq; simpa using this
    have b2 : gs.size < scanBound := by rw [sz]; exact hb
    obtain ⟨M2, pr2, pm2⟩ := Prd.perm p2 pr
    refine wpAny_bind (hgv _ _ _ (wpAny_bind (wpAny_storeSet_of at1 rfl ?_ (fits_of_scanBound b2))))
    exact wpAny_pure (hZ _ (but1.trans (Heap.SameBut.update _ a _)) ⟨⟨_, gs, _, t3, store_at (es' := gs) (t' := t3) at1 rfl, hex, rfl, el.perm p2, ⟨M2, pr2, pm2.trans pm⟩, b2, f2, r2, hl.imp id fun z => l2.trans z⟩, nd⟩)
  · rw [if_neg full]
    exact wpAny_pure (hZ _ but1 ⟨⟨_, fs, _, t2, at1, hex, rfl, el, ⟨M, pr, pm⟩, hb, hf, hr, hl⟩, nd⟩)
/-- one more key in the list -/
def insK (L : List Key) (k : Key) : List Key := if L.any (fun j => decide (j = k)) = true then L else k :: L
theorem insK_in {L : List Key} {k : Key} (h : k ∈ L) : insK L k = L := by
  unfold insK
  rw [if_pos (List.any_eq_true.mpr ⟨k, h, decide_eq_true rfl⟩)]
theorem insK_out {L : List Key} {k : Key} (h : k ∉ L) : insK L k = k :: L := by
  unfold insK
  rw [if_neg]
  intro z
  obtain ⟨j, hj, e⟩ := List.any_eq_true.mp z
  exact h (of_decide_eq_true e ▸ hj)
/-- one more key -/
theorem sg_add {k : Key} {u : Value} {Z : Bool → Shared → Prop} (ku : (mixKind P w).is k u = true) (sc : u.scannable = true) (R : SG P w s.heap a L) (room : L.length + 1 < scanBound)
    (hZ : ∀ b h', Heap.SameBut a s.heap h' → SG P w h' a (insK L k) → Z b { s with heap := h' }) :
    wpAny (model P w) A (setAddHashed a u ((mixKind P w).hash k)) Z E s := by
  obtain ⟨⟨o, es, ep, t, ho, hex, hd, el, ⟨M, pr, pm⟩, hb, hf, hr, hl⟩, nd⟩ := R
  unfold setAddHashed setAddHashedIn
  refine wpAny_holding (wpAny_bind (wpAny_setState_of ho hd hf ?_))
  dsimp only
  rw [byScan_of sc hb el]
  simp only [↓reduceIte]
  unfold setAddByScan
  refine wpAny_bind (wpAny_bind (wpAny_rule (wpAny_bind (wpAny_setScan_of ku ho hd hf el ?_))))
  have size : es.size = L.length := by have := Paired.length pr; rw [← pm.length_eq, ← this]; simp
  cases scan : List.findIdx? (fun e => (mixKind P w).is k e.2) es.toList with
  | some j =>
    dsimp only
    obtain ⟨hj, at', _⟩ := List.findIdx?_eq_some_iff_getElem.mp scan
    obtain ⟨k', hk', q'⟩ := Prd.mem pr (List.getElem_mem hj)
    have same : k' = k := (mixKind P w).inj _ _ _ q' at'
    have inL : k ∈ L := pm.mem_iff.mp (same ▸ hk')
    have z := hZ false s.heap (Heap.SameBut.refl a s.heap)
    rw [insK_in inL] at z
    exact wpAny_pure (wpAny_pure (z ⟨⟨o, es, ep, t, ho, hex, hd, el, ⟨M, pr, pm⟩, hb, hf, hr, hl⟩, nd⟩))
  | none =>
    dsimp only
    have out : k ∉ L := fun z => by
      obtain ⟨e, he, q⟩ := Prd.mem' pr (pm.mem_iff.mpr z)
      have := List.findIdx?_eq_none_iff.mp scan e he
      rw [show (mixKind P w).is k e.2 = true from q] at this
      cases this
    have gave : ∀ (b : Bool) {s1 : Shared} {Y : Unit → Shared → Prop}, Y () s1 → wpAny (model P w) A (match b with | true => rule "set.scan.the-table-gave-way" | false => pure ()) Y E s1 := by
      intro b s1 Y y
      cases b
      · exact wpAny_pure y
      · exact wpAny_rule y
    have p1 := layNew_perm t es ((mixKind P w).hash k) u
    have f1 := layNew_fits t es ((mixKind P w).hash k) u
    have r1 := layNew_ris t es ((mixKind P w).hash k) u hr
    have l1 := layNew_led t es ((mixKind P w).hash k) u
    revert p1 f1 r1 l1
    rcases layNew t es ((mixKind P w).hash k) u with ⟨fs, t1, wd, gv⟩
    intro p1 f1 r1 l1
    dsimp only at p1 f1 r1 l1 ⊢
    rw [Array.toList_push] at p1
    have el1 : ElemsOf (mixKind P w) fs.toList := (el.push ku sc).perm p1
    obtain ⟨M1, pr1, pm1⟩ := Prd.perm (p1.trans (List.perm_append_singleton _ _)) (PySem.Paired.cons (show isE P w ((mixKind P w).hash k, u) k from ku) pr)
    have pmL : M1.Perm (k :: L) := pm1.trans (pm.cons k)
    have nd1 : (k :: L).Nodup := List.nodup_cons.mpr ⟨out, nd⟩
    have sz1 : fs.size = L.length + 1 := by have := p1.length_eq; simp at this; omega
    have b1 : fs.size < scanBound := by rw [sz1]; exact room
    have led1 : w.params.followText "set-order" = true ∨ t1.led = true := hl.imp id fun z => l1.trans z
    have done : ∀ h', Heap.SameBut a s.heap h' → SG P w h' a (k :: L) → Z true { s with heap := h' } := fun h' sb r => hZ true h' sb (by rw [insK_out out]; exact r)
    refine wpAny_bind (gave _ ?_)
    split
    · refine wpAny_bind ?_
      rw [hashByValue_scannable 8 sc]
      refine wpAny_pure (sg_tail (N := k :: L) ?_ ho hex hd el1 pr1 pmL nd1 b1 ?_ ?_ ?_ ?_)
      · intro b s1 Y y; exact gave b y
      · first | (split <;> first | exact f1 | exact SetTable.fits_plain_off f1) | exact f1
      · first | (split <;> exact r1) | exact r1
      · first | (split <;> exact led1) | exact led1
      · intro h' sb r; dsimp only; exact wpAny_pure (done h' sb r)
    · refine wpAny_bind (wpAny_pure ?_)
      simp only [↓reduceIte]
      refine sg_tail (N := k :: L) ?_ ho hex hd el1 pr1 pmL nd1 b1 f1 r1 led1 ?_
      · intro b s1 Y y; exact gave b y
      · intro h' sb r; dsimp only; exact wpAny_pure (done h' sb r)
end
end Mb
end

section
set_option Elab.async false
set_option linter.all false
set_option maxRecDepth 100000
set_option maxHeartbeats 3200000
/-! Mb32: set(list of keys) -/
namespace Mb
open PySem PySem.Spec PyProof.Rows L2

/-- the keys, each once -/
def onceK (ks : List Key) : List Key := ks.foldl insK []
theorem insK_len (L : List Key) (k : Key) : (insK L k).length ≤ L.length + 1 := by
  unfold insK
  split
  · omega
  · simp
theorem fold_len : ∀ (ks L : List Key), (ks.foldl insK L).length ≤ L.length + ks.length
  | [], L => by simp
  | k :: r, L => by
    have h1 := fold_len r (insK L k)
    have h2 := insK_len L k
    simp only [List.foldl_cons, List.length_cons]
    omega
theorem once_next {ks : List Key} {i : Nat} {k : Key} (h : ks[i]? = some k) : onceK (ks.take (i + 1)) = insK (onceK (ks.take i)) k := by
  unfold onceK
  rw [List.take_add_one, h, List.foldl_append]
  rfl
theorem once_len (ks : List Key) (i : Nat) : (onceK (ks.take i)).length ≤ i := by
  have h := fold_len (ks.take i) []
  have : (ks.take i).length ≤ i := List.length_take_le _ _
  unfold onceK
  simp at h
  omega
section
variable {P : Program} {w : World} {A : Around} {E : Value → Shared → Prop} {s : Shared}
theorem sg_loop {J : Addr} {fp wr : List Addr} {Gn : Array GenState → Array GenState → Prop} {n : Nat} {Pv : Nat → Value → Prop} {St : Nat → Shared → Prop} {R : Result → Shared → Prop}
    (W : WalksS P w A.in1 J fp wr Gn n Pv St) (a : Addr) (ha : a ∉ fp) (ks : List Key) (hn : n = ks.length) (few : ks.length + 1 < scanBound) (val : ∀ i v, Pv i v → ∃ k, ks[i]? = some k ∧ RelV (kV k) v) :
    ∀ (m i : Nat) (t : Shared), n - i = m → i ≤ n → St i t → SG P w t.heap a (onceK (ks.take i)) →
      (∀ t', Moved (a :: wr) Gn t t' → SG P w t'.heap a (onceK ks) → R (.ok (.ret .none)) t') → codeAny (model P w) A (.builtin "set.update.loop" ⟨[.ref a, .ref J], []⟩) R t := by
  have aw : a ∉ wr := fun z => ha (W.sub _ z)
  have up : ∀ b ∈ wr, b ∈ a :: wr := fun b z => List.mem_cons_of_mem _ z
  intro m
  induction m with
  | zero =>
    intro i t e le st R0 fin
    obtain rfl : i = n := by omega
    refine codeAny_builtin F.entry_set_update_loop ?_
    rw [Around.under_plainId F.plain_set_update_loop _]
    show wpAny _ A.in1 (pyNext (.ref J) >>= fun v => _) _ _ t
    refine wpAny_bind (W.done t _ _ st fun t' mv => ?_)
    refine wpAny_pure (fin t' (mv.mono up) ?_)
    rw [List.take_of_length_le (by omega)] at R0
    exact R0.at fun o q => mv.heap a o aw q
  | succ m ih =>
    intro i t e le st R0 fin
    have lt : i < n := by omega
    refine codeAny_builtin F.entry_set_update_loop ?_
    rw [Around.under_plainId F.plain_set_update_loop _]
    show wpAny _ A.in1 (pyNext (.ref J) >>= fun v => _) _ _ t
    refine wpAny_bind (W.item i t _ _ lt st fun v t1 pv st1 mv => ?_)
    obtain ⟨k, hk, rv⟩ := val i v pv
    have R1 : SG P w t1.heap a (onceK (ks.take i)) := R0.at fun o q => mv.heap a o aw q
    show wpAny _ A.in1 (holding [v] (setAdd a v) >>= fun _ => _) _ _ t1
    refine wpAny_bind (wpAny_holding ?_)
    unfold setAdd
    refine wpAny_holding (wpAny_bind ((mixKind P w).pyHash (k := k) (kV_is rv) ?_))
    have sc : v.scannable = true := by
      cases k with
      | inl j => obtain ⟨q, rfl⟩ := rv; rfl
      | inr y => obtain ⟨q, rfl⟩ := rv; rfl
    refine sg_add (s := { t1 with toks := t1.toks + 1 }) (kV_is rv) sc R1 (by have := once_len ks i; omega) fun b h' sb R2 => ?_
    rw [← once_next hk] at R2
    refine wpAny_pure ⟨plainId_quiet F.plain_set_update_loop _, ih (i + 1) _ (by omega) lt (W.frame _ t1 _ _ st1 (Nat.le_succ _) fun c hc o q => ?_) R2 fun t2 mv2 R3 => fin t2 ?_ R3⟩
    · exact (sb.2 c fun z : c = a => ha (z ▸ hc)).trans q
    · exact Moved.trans W.gtrans ((mv.mono up).then_heap (Nat.le_succ _) fun c o hc q => (sb.2 c fun z : c = a => hc (z ▸ List.mem_cons_self)).trans q) mv2

abbrev freshSet (w : World) : Obj := { cls := .type "set", dict := none, data := .set #[] 0 (.fresh 0 0 (!w.params.followText "set-order")) }
theorem sg_new {h : Heap} {a : Addr} (ho : h.get? a = some (freshSet w)) : SG P w h a [] :=
  ⟨⟨_, #[], 0, _, ho, ⟨rfl, rfl, rfl⟩, rfl, (fun e he => by simp at he), ⟨[], .nil, .rfl⟩, by decide, by rfl, List.Pairwise.nil, by
    show _ ∨ (!w.params.followText "set-order") = true
    cases w.params.followText "set-order"
    · exact .inr rfl
    · exact .inl rfl⟩, List.nodup_nil⟩
theorem set_of_list {l : Addr} {items : Array Value} {ks : List Key} {Z : Value → Shared → Prop} (hh : A.handled = none) (hl : s.heap.IsList l items) (val : ∀ (i : Nat) (v : Value), items[i]? = some v → ∃ k, ks[i]? = some k ∧ RelV (kV k) v) (hn : items.size = ks.length) (few : ks.length + 1 < scanBound)
    (h : ∀ (h' : Heap) (tk : Nat), SG P w h' s.heap.objs.size (onceK ks) → (∀ b o, s.heap.get? b = some o → h'.get? b = some o) → Z (.ref s.heap.objs.size) { s with heap := h', toks := tk }) :
    wpAny (model P w) A (call (.type "set") [.ref l]) Z E s := by
  obtain ⟨c, tl, hmro⟩ := F.called_set.mro
  have made := F.called_set.made
  have sub := F.called_set.sub
  refine wpAny_call (codeAny_of_tree ?_)
  show wpAny _ _ (callAny (.type "set") ⟨[.ref l], []⟩) _ _ _
  refine wpAny_pure ⟨Code.quiet_builtin _ (by decide +kernel), codeAny_builtin F.entry_type_call ?_⟩
  rw [Around.under_plain (weight_type_call_type "set" [.ref l] []) rfl]
  have nt := F.called_set.notType
  have cc := F.called_set.canCreate
  have tc := F.typeCall_set_1 (.ref l)
  repeat (any_goals (first | assumption | wp_step))
  refine codeAny_mono (code_set_led1 (.ref l) (E := E) (Q₁ := fun ob s1 => ob = .ref s.heap.objs.size ∧ s1 = { s with heap := s.heap.push (freshSet w) }) ⟨rfl, rfl⟩) fun r s1 hr => ?_
  cases r with
  | error e => exact hr
  | ok fl =>
    cases fl with
    | ret ob =>
      obtain ⟨rfl, rfl⟩ := hr
      have atS : (s.heap.push (freshSet w)).get? s.heap.objs.size = some (freshSet w) := Heap.get?_push_size _ rfl
      have tyS : Shared.TypeIs { s with heap := s.heap.push (freshSet w) } (.ref s.heap.objs.size) "set" := ⟨_, atS, rfl⟩
      have li := F.called_set.init.lookup
      have bi := F.called_set.init.bind (.ref s.heap.objs.size)
      repeat (any_goals (first | assumption | wp_step))
      refine codeAny_mono (codeAny_call_builtin (R := wants (fun r t => r = .none ∧ ∃ h' tk, t = { s with heap := h', toks := tk } ∧ SG P w h' s.heap.objs.size (onceK ks) ∧ (∀ b o, s.heap.get? b = some o → h'.get? b = some o)) E)
        F.called_set.init.plain F.entry_set_init (check_set_init_1 tyS ?_)) fun r2 t2 hr2 => ?_
      · obtain ⟨ol, hol, hcl, nl, hdl⟩ := hl
        obtain ⟨cl, di, da, sl⟩ := ol
        simp only at hcl hdl
        subst hcl hdl
        have holp : (s.heap.push (freshSet w)).get? l = some { cls := .type "list", dict := di, data := .seq items nl, slots := sl } := Heap.get?_push_of_some _ hol
        have k1 := F.sub_list_set
        have k2 := F.sub_list_frozenset
        have k3 : (Value.type "list" == Value.type "dict") = false := by decide
        have isl : (s.heap.push (freshSet w)).IsList l items := ⟨_, holp, rfl, nl, rfl⟩
        unfold Builtin.«set.__init__» noKeywords Builtin.Frozenset.updateFrom
        generalize itq : pyIter = IT
        wp_walk
        subst itq
        refine wpAny_pyIter_list isl (wpAny_bind (wpAny_runValue ?_))
        have llt : l < s.heap.objs.size := Heap.lt_size hol
        have hh3 : A.in1.in1.in1.handled = none := by simp [hh]
        have szp : (s.heap.push (freshSet w)).objs.size = s.heap.objs.size + 1 := Heap.size_push ..
        have ne1 : l ≠ (s.heap.push (freshSet w)).objs.size := szp ▸ Nat.ne_of_lt (Nat.lt_succ_of_lt llt)
        have out : s.heap.objs.size ∉ [(s.heap.push (freshSet w)).objs.size, l] := by
          rw [szp]
          simp only [List.mem_cons, List.not_mem_nil, or_false, not_or]
          exact ⟨Nat.ne_of_lt (Nat.lt_succ_self _), fun z => Nat.ne_of_gt llt z⟩
        refine sg_loop ((Walks.list hh3 _ l ne1 items).toS) s.heap.objs.size out ks hn few val (items.size - 0) 0 _ (by omega) (Nat.zero_le _) ⟨⟨_, Heap.get?_push_size _ rfl, rfl, rfl⟩, (isl.push _)⟩ ?z0 ?zR
        case z0 => exact sg_new (Heap.get?_push_of_some _ atS)
        case zR =>
          intro t mv R
          obtain ⟨h', g2, d2, tk', os'⟩ := t
          have eg : g2 = s.gens := mv.gens
          have ed : d2 = s.drawn := mv.drawn
          have eo : os' = s.os := mv.os
          subst eg ed eo
          refine wpAny_pure (wpAny_pure ⟨rfl, h', tk', rfl, R, fun b o q => ?_⟩)
          have blt : b < s.heap.objs.size := Heap.lt_size q
          refine mv.heap b o ?_ (Heap.get?_push_of_some _ (Heap.get?_push_of_some _ q))
          simp only [List.mem_cons, List.not_mem_nil, or_false, not_or]
          exact ⟨fun z => Nat.ne_of_lt blt z, szp ▸ Nat.ne_of_lt (Nat.lt_succ_of_lt blt)⟩
      · cases r2 with
        | error e => exact hr2
        | ok fl2 =>
          cases fl2 with
          | ret r =>
            obtain ⟨rfl, h', tk, rfl, R, kp⟩ := hr2
            repeat (any_goals (first | assumption | wp_step))
            exact h _ _ R kp
          | _ => exact hr2.elim
    | _ => exact hr.elim
end
end Mb
end

section
set_option Elab.async false
set_option linter.all false
set_option maxRecDepth 100000
set_option maxHeartbeats 3200000
/-! Mb33: sorted(set(list)) -/
namespace Mb
open PySem PySem.Spec PyProof.Rows L2

/-! ### plain: the members, sorted -/
theorem mem_insK {L : List Key} {k j : Key} : j ∈ insK L k ↔ j = k ∨ j ∈ L := by
  by_cases h : k ∈ L
  · rw [insK_in h]
    exact ⟨.inr, fun z => z.elim (fun e => e ▸ h) id⟩
  · rw [insK_out h, List.mem_cons]
theorem mem_fold : ∀ (ks L : List Key) (j : Key), j ∈ ks.foldl insK L ↔ j ∈ L ∨ j ∈ ks
  | [], L, j => by simp
  | k :: r, L, j => by
    rw [List.foldl_cons, mem_fold r, mem_insK, List.mem_cons]
    constructor
    · rintro ((h | h) | h)
      · exact .inr (.inl h)
      · exact .inl h
      · exact .inr (.inr h)
    · rintro (h | h | h)
      · exact .inl (.inr h)
      · exact .inl (.inl h)
      · exact .inr h
theorem mem_once {ks : List Key} {j : Key} : j ∈ onceK ks ↔ j ∈ ks := by
  unfold onceK
  rw [mem_fold]
  simp
theorem mem_dedS : ∀ {l : List Str} {x : Str}, x ∈ dedS l ↔ x ∈ l
  | [], x => by unfold dedS; exact Iff.rfl
  | y :: r, x => by
    unfold dedS
    split
    · rename_i h
      rw [mem_dedS, List.mem_cons]
      constructor
      · exact .inr
      · rintro (rfl | h')
        · exact mem_dedS.mp (by simpa using h)
        · exact h'
    · rw [List.mem_cons, List.mem_cons, mem_dedS]
theorem nd_dedS : ∀ (l : List Str), (dedS l).Nodup
  | [] => by unfold dedS; exact List.nodup_nil
  | y :: r => by
    unfold dedS
    split
    · exact nd_dedS r
    · rename_i h
      exact List.nodup_cons.mpr ⟨fun z => h (by simpa using z), nd_dedS r⟩
theorem mem_dedI : ∀ {l : List Int} {x : Int}, x ∈ dedI l ↔ x ∈ l
  | [], x => by unfold dedI; exact Iff.rfl
  | y :: r, x => by
    unfold dedI
    split
    · rename_i h
      rw [mem_dedI, List.mem_cons]
      constructor
      · exact .inr
      · rintro (rfl | h')
        · exact mem_dedI.mp (by simpa using h)
        · exact h'
    · rw [List.mem_cons, List.mem_cons, mem_dedI]
theorem nd_dedI : ∀ (l : List Int), (dedI l).Nodup
  | [] => by unfold dedI; exact List.nodup_nil
  | y :: r => by
    unfold dedI
    split
    · exact nd_dedI r
    · rename_i h
      exact List.nodup_cons.mpr ⟨fun z => h (by simpa using z), nd_dedI r⟩
theorem str_inj {a b : Str} (h : a.cps.toList = b.cps.toList) : a = b := by
  cases a
  cases b
  congr 1
  exact Array.toList_inj.mp h
theorem leS_total (a b : Str) : (leS a b || leS b a) = true := by
  unfold leS
  rw [Bool.or_eq_true, decide_eq_true_eq, decide_eq_true_eq]
  exact List.le_total _ _
theorem leS_trans (a b c : Str) (h1 : leS a b = true) (h2 : leS b c = true) : leS a c = true := by
  unfold leS at *
  rw [decide_eq_true_eq] at *
  exact List.le_trans h1 h2
theorem leS_anti {a b : Str} (h1 : leS a b = true) (h2 : leS b a = true) : a = b := by
  unfold leS at *
  rw [decide_eq_true_eq] at *
  exact str_inj (List.le_antisymm h1 h2)
theorem rising_pw : ∀ {p : Str} {l : List Str}, risingS p l = true → (p :: l).Pairwise fun a b => leS a b = true
  | p, [], _ => by simp
  | p, x :: r, h => by
    have h : (!ltCps x.cps.toList p.cps.toList && risingS x r) = true := h
    rw [Bool.and_eq_true] at h
    have ih := rising_pw h.2
    have le : leS p x = true := by
      have h1 := h.1
      rw [ltCps_eq] at h1
      unfold leS
      rw [decide_eq_true_eq]
      simpa using h1
    refine List.pairwise_cons.mpr ⟨fun y hy => ?_, ih⟩
    rcases List.mem_cons.mp hy with rfl | hy
    · exact le
    · exact leS_trans _ _ _ le ((List.pairwise_cons.mp ih).1 y hy)
theorem sorted_pw : ∀ {l : List Str}, sortedS l = true → l.Pairwise fun a b => leS a b = true
  | [], _ => List.Pairwise.nil
  | _ :: _, h => rising_pw h
theorem srt_texts {ss ys : List Str} {ks : List Key} (hk : ks = ss.map Sum.inr) (pm : (ys.map Sum.inr : List Key).Perm (onceK ks)) (nd : (onceK ks).Nodup) (so : sortedS ys = true) : ys = (dedS ss).mergeSort leS := by
  have ndy : ys.Nodup := by
    have := pm.nodup_iff.mpr nd
    exact List.Pairwise.of_map _ (fun a b h e => h (congrArg _ e)) this
  have mem : ∀ x, x ∈ ys ↔ x ∈ dedS ss := fun x => by
    rw [mem_dedS]
    have h1 : x ∈ ys ↔ (Sum.inr x : Key) ∈ (ys.map Sum.inr : List Key) := by simp
    rw [h1, pm.mem_iff, mem_once, hk]
    simp
  have pm2 : ys.Perm (dedS ss) := (List.perm_ext_iff_of_nodup ndy (nd_dedS ss)).mpr mem
  exact List.Perm.eq_of_pairwise (fun a b _ _ h1 h2 => leS_anti h1 h2) (sorted_pw so) (List.pairwise_mergeSort leS_trans leS_total _) (pm2.trans (List.mergeSort_perm _ _).symm)
theorem srt_ints {ss ys : List Int} {ks : List Key} (hk : ks = ss.map Sum.inl) (pm : (ys.map Sum.inl : List Key).Perm (onceK ks)) (nd : (onceK ks).Nodup) (so : ys.Pairwise (· ≤ ·)) : ys = (dedI ss).mergeSort fun a b => decide (a ≤ b) := by
  have ndy : ys.Nodup := by
    have := pm.nodup_iff.mpr nd
    exact List.Pairwise.of_map _ (fun a b h e => h (congrArg _ e)) this
  have mem : ∀ x, x ∈ ys ↔ x ∈ dedI ss := fun x => by
    rw [mem_dedI]
    have h1 : x ∈ ys ↔ (Sum.inl x : Key) ∈ (ys.map Sum.inl : List Key) := by simp
    rw [h1, pm.mem_iff, mem_once, hk]
    simp
  have pm2 : ys.Perm (dedI ss) := (List.perm_ext_iff_of_nodup ndy (nd_dedI ss)).mpr mem
  refine List.Perm.eq_of_pairwise (le := fun a b => a ≤ b) (fun a b _ _ h1 h2 => by omega) so ?_ (pm2.trans (List.mergeSort_perm _ _).symm)
  have := List.pairwise_mergeSort (le := fun a b : Int => decide (a ≤ b)) (fun a b c h1 h2 => by simp at *; omega) (fun a b => by simp; omega) (dedI ss)
  exact this.imp fun h => by simpa using h
end Mb
end

section
set_option Elab.async false
set_option linter.all false
set_option maxRecDepth 100000
set_option maxHeartbeats 3200000
/-! Mb34: the rules of set(list), sorted(set) -/
namespace Mb
open PySem PySem.Spec PyProof.Rows L2

theorem strs_of_keys : ∀ {vs : List Value} {M : List Key} {ss : List Str}, PySem.Paired (fun v k => keyIs k v = true) vs M → M = ss.map Sum.inr → StrsAre vs ss
  | _, _, [], p, e => by
    subst e
    cases p
    exact .nil
  | _, _, s :: ss, p, e => by
    subst e
    cases p with
    | cons r t =>
      rcases keyIs_shape r with ⟨i, t', e1, _⟩ | ⟨x, t', e1, e2⟩
      · cases e1
      · cases e1; subst e2; exact .cons _ _ (strs_of_keys t rfl)
theorem ints_of_keys : ∀ {vs : List Value} {M : List Key} {ss : List Int}, PySem.Paired (fun v k => keyIs k v = true) vs M → M = ss.map Sum.inl → IntsAre vs ss
  | _, _, [], p, e => by
    subst e
    cases p
    exact .nil
  | _, _, s :: ss, p, e => by
    subst e
    cases p with
    | cons r t =>
      rcases keyIs_shape r with ⟨i, t', e1, e2⟩ | ⟨x, t', e1, _⟩
      · cases e1; subst e2; exact .cons _ _ (ints_of_keys t rfl)
      · cases e1
theorem keys_r {ss : List Str} : ∀ {M : List Key}, (∀ k ∈ M, k ∈ ss.map (Sum.inr : Str → Key)) → ∃ ys : List Str, M = ys.map Sum.inr
  | [], _ => ⟨[], rfl⟩
  | k :: M, h => by
    obtain ⟨ys, rfl⟩ := keys_r (ss := ss) fun k hk => h k (List.mem_cons_of_mem _ hk)
    obtain ⟨x, _, rfl⟩ := List.mem_map.mp (h _ List.mem_cons_self)
    exact ⟨x :: ys, rfl⟩
theorem keys_l {ss : List Int} : ∀ {M : List Key}, (∀ k ∈ M, k ∈ ss.map (Sum.inl : Int → Key)) → ∃ ys : List Int, M = ys.map Sum.inl
  | [], _ => ⟨[], rfl⟩
  | k :: M, h => by
    obtain ⟨ys, rfl⟩ := keys_l (ss := ss) fun k hk => h k (List.mem_cons_of_mem _ hk)
    obtain ⟨x, _, rfl⟩ := List.mem_map.mp (h _ List.mem_cons_self)
    exact ⟨x :: ys, rfl⟩
theorem prd_map2 {es : List (Int × Value)} {M : List Key} (h : PySem.Paired (fun (e : Int × Value) k => keyIs k e.2 = true) es M) : PySem.Paired (fun v k => keyIs k v = true) (es.map (·.2)) M := by
  induction h with
  | nil => exact .nil
  | cons r t ih => exact .cons r ih
section
variable {P : Program} {w : World} {A : Around} {E : Value → Shared → Prop} {s : Shared} {a : Addr}
/-- sorted of a walkable set: the list of the members is sorted in place -/
theorem sorted_sg {L : List Key} {Z : Value → Shared → Prop} (R : SG P w s.heap a L) (hh : A.handled = none)
    (srt : ∀ (t : Shared) (q : Addr) (n : Nat) (vs : List Value) (M : List Key), PySem.Paired (fun v k => keyIs k v = true) vs M → M.Perm L → vs.length ≤ sizeLine → t.heap.get? q = some (seqObj "list" vs.toArray n) →
      (∀ b o, s.heap.get? b = some o → t.heap.get? b = some o) → s.heap.objs.size ≤ q → t.gens = s.gens → t.os = s.os →
      wpAny (model P w) A.in1.in1 (Builtin.«list.sort» ⟨[.ref q], []⟩) (fun fin t' => fin = .done (.ret .none) ∧ Z (.ref q) t') E t) :
    wpAny (model P w) A (call (.builtin "sorted") [.ref a]) Z E s := by
  obtain ⟨⟨o, es, ep, t, ho, hex, hd, el, ⟨M, pr, pm⟩, hb, hf, hr, hl⟩, nd⟩ := R
  refine Calls.call_function_entry kind_sorted plain_sorted entry_sorted (args_sorted1 _) ?_
  unfold Builtin.«sorted»
  refine wpAny_bind (m := checkCount "sorted" 1 1 _) (wpAny_pure ?_)
  refine wpAny_bind (collect_set (A := A.in1) hh ⟨o, ho, hex.1, hd⟩ hf hb hr hl fun s1 vs k1 z1 g1 o1 p1 => ?_)
  obtain ⟨M', pr', pm'⟩ := Prd.perm p1 (prd_map2 pr)
  have len : vs.length ≤ sizeLine := by
    have sz : vs.length = es.size := by rw [p1.length_eq]; simp
    rw [sz]
    exact fits_of_scanBound hb
  refine wpAny_bind (wpAny_newList ?_ len)
  have at1 : (s1.heap.push (seqObj "list" vs.toArray 0)).get? s1.heap.objs.size = some (seqObj "list" vs.toArray 0) := Heap.get?_push_size _ rfl
  have S := srt { s1 with heap := s1.heap.push (seqObj "list" vs.toArray 0) } s1.heap.objs.size 0 vs M' pr' (pm'.trans pm) len at1 (fun b u q => Heap.get?_push_of_some _ (k1 b u q)) z1 g1 o1
  refine wpAny_bind (wpAny_holding (wpAny_call_entry slot_list_sort ⟨_, at1, rfl⟩ entry_list_sort ?_ (args_list_sort _)))
  refine wpAny_mono S (fun fin t' q => ?_) fun _ _ z => z
  obtain ⟨rfl, z⟩ := q
  exact ⟨_, rfl, wpAny_pure ⟨_, rfl, z⟩⟩
end

/-! ### over the abstract heap -/
/-- the set at a -/
def SGo (P : Program) (w : World) (a : Addr) (L : List Key) : HO := .ext fun h => SG P w h a L
theorem sgo_new {P : Program} {w : World} {H : Hp} {h : Heap} {a : Addr} {L : List Key} (R : SG P w h a L) : ObjOk P w H h a (SGo P w a L) :=
  let ⟨o, _, _, _, ho, _⟩ := R.ex
  ⟨R, ⟨o, ho⟩, fun _ _ q k => SG.at q k⟩
section
variable {X : Cx} {p : Pm} {Wx : WX} {m : Bool} {σ : L2.St} {H : Hp}
def rSetOf (K : PySem.W.Frag) (P : Program) (w : World) : List V → Hp → VK → Prop := fun vs H Q => ∃ (l : Addr) (ks : List Key), vs = [V.ref l] ∧ SqL K H l (ks.map kV) ∧ ks.length + 1 < scanBound ∧ ∀ a, H a = none → Q (.ref a) (upd H a (SGo P w a (onceK ks)))
theorem prd_get {α β : Type} {R : α → β → Prop} {xs : List α} {ys : List β} {i : Nat} {y : β} (h : PySem.Paired R xs ys) (e : ys[i]? = some y) : ∃ x, xs[i]? = some x ∧ R x y := pair_get h e
theorem call_setOf (hc : X.calm = true) : CallR X (.type "set") (rSetOf X.K X.prog X.w) := by
  intro pins s σ H vs us Q I r h
  obtain ⟨l, ks, rfl, hs, few, q⟩ := h
  obtain ⟨its, rv, pl, _⟩ := I.list hs
  rw [Vals.ref1 r]
  have hlen : its.length = ks.length := by have := rv.length; simpa using this.symm
  refine set_of_list (ks := ks) (I.ok.hd hc) pl.isList (fun i v hv => ?_) (by simpa using hlen) few fun h' tk R kp => ?_
  · have hv' : its[i]? = some v := by simpa using hv
    obtain ⟨x, hx, rx⟩ := pair_get (j := i) rv hv'
    rw [List.getElem?_map] at hx
    cases e : ks[i]? with
    | none => rw [e] at hx; cases hx
    | some k => rw [e] at hx; cases hx; exact ⟨k, rfl, rx⟩
  · have n : H s.heap.objs.size = none := I.hok.fresh (Nat.le_refl _)
    exact ⟨.ref _, _, I.laid (t' := tk) kp (Nat.le_refl _) (sgo_new R), rfl, q _ n⟩
def rSortSet (P : Program) (w : World) : List V → Hp → VK → Prop := fun vs H Q => ∃ (a : Addr) (ks : List Key), vs = [V.ref a] ∧ H a = some (SGo P w a (onceK ks)) ∧
  ((∃ ss : List Str, ks = ss.map Sum.inr ∧ ∀ q, H q = none → Q (.ref q) (upd H q (.lst (((dedS ss).mergeSort leS).map V.str)))) ∨
    ∃ ss : List Int, ks = ss.map Sum.inl ∧ ∀ q, H q = none → Q (.ref q) (upd H q (.lst (((dedI ss).mergeSort fun a b => decide (a ≤ b)).map V.int))))
theorem call_sortSet (hc : X.calm = true) : CallR X (.builtin "sorted") (rSortSet X.prog X.w) := by
  intro pins s σ H vs us Q I r h
  obtain ⟨a, ks, rfl, ha, q⟩ := h
  rw [Vals.ref1 r]
  have R : SG X.prog X.w s.heap a (onceK ks) := (I.hok a _ ha).1
  refine sorted_sg R (I.ok.hd hc) fun t b n vs M pr pm len hb kp z g o => ?_
  obtain ⟨hp, gs, dr, tk, os⟩ := t
  have o : os = s.os := o
  have g : gs = s.gens := g
  subst o g
  have fin : ∀ (out : Array Value) (c : Nat) (xs : List V), Vals xs out.toList → xs.length ≤ sizeLine → (sortedHeap hp b vs out).get? b = some (seqObj "list" out c) → (∀ q, H q = none → Q (.ref q) (upd H q (.lst xs))) →
      EP X pins σ Q (.ref b) { heap := sortedHeap hp b vs out, gens := s.gens, drawn := dr, toks := tk, os := s.os } := fun out c xs rv hz hg k => by
    have nb : H b = none := I.hok.fresh z
    have kp2 : ∀ d u, s.heap.get? d = some u → (sortedHeap hp b vs out).get? d = some u := fun d u e => by
      have lt : d < s.heap.objs.size := Heap.lt_size e
      rw [sortedHeap_old (Nat.ne_of_lt (Nat.lt_of_lt_of_le lt z)) (Heap.lt_size (kp d u e))]
      exact kp d u e
    have J : Inv X pins σ (upd H b (.lst xs)) { s with heap := sortedHeap hp b vs out, gens := s.gens, drawn := dr, toks := tk } :=
      I.call (ch := []) (Un.laid kp2 z nb) (I.hok.laid kp2 z ⟨hz, out.toList, c, rv, hg⟩) I.bare fun _ y => nomatch y
    exact ⟨.ref b, _, J, rfl, k b nb⟩
  rcases q with ⟨ss, hk, q⟩ | ⟨ss, hk, q⟩
  · obtain ⟨ys, rfl⟩ := keys_r (ss := ss) (M := M) fun k hk' => by rw [← hk, ← mem_once]; exact pm.mem_iff.mp hk'
    have sv := strs_of_keys pr rfl
    refine list_sort_treeKAny strKind_oneLt hb sv.keysOf (fun v1 v2 rest e => keyKind_strs (by rw [← e]; exact sv)) len fun st' h1 h2 => ⟨rfl, ?_⟩
    obtain ⟨zs, a1, a2, a3⟩ := sorted_out_str sv h1 h2
    have e := srt_texts hk ((a2.map Sum.inr).trans pm) R.nd a3
    obtain ⟨c, hg⟩ := sortedHeap_at (out := (arrOf st').map (·.2)) hb
    have lz : (zs.map V.str).length ≤ sizeLine := by
      rw [List.length_map, a2.length_eq]
      have := pr.length
      rw [List.length_map] at this
      rw [← this]
      exact len
    exact fin _ c _ (vals_of_strs a1) lz hg fun b' nb => by rw [e]; exact q b' nb
  · obtain ⟨ys, rfl⟩ := keys_l (ss := ss) (M := M) fun k hk' => by rw [← hk, ← mem_once]; exact pm.mem_iff.mp hk'
    have sv := ints_of_keys pr rfl
    refine list_sort_treeAny hb sv len fun out zs a1 a2 a3 => ⟨rfl, ?_⟩
    have e := srt_ints hk ((a2.map Sum.inl).trans pm) R.nd a3
    obtain ⟨c, hg⟩ := sortedHeap_at (out := out) hb
    have lz : (zs.map V.int).length ≤ sizeLine := by
      rw [List.length_map, a2.length_eq]
      have := pr.length
      rw [List.length_map] at this
      rw [← this]
      exact len
    exact fin _ c _ (vals_of_ints a1) lz hg fun b' nb => by rw [e]; exact q b' nb
end
end Mb
end

section
set_option Elab.async false
set_option linter.all false
set_option maxRecDepth 100000
set_option maxHeartbeats 3200000
/-! Mb35: sorted(set(x)) of texts, of ints -/
namespace Mb
open PySem PySem.Spec PyProof.Rows L2
theorem PRes.grown {K : PySem.W.Frag} {G H H' : Hp} {e : Ent} {v : V} {a : Addr} {o : HO} (h : H a = none) (q : PRes K G (upd H a o) e v H') : PRes K G H e v H' := by
  obtain ⟨G', fp, s1, s2, s3, new, nd, fr, ow⟩ := q
  have back : ∀ b, (upd H a o) b = none → H b = none := fun b z => by
    by_cases q : b = a
    · subst q; exact h
    · rw [upd_ne q] at z; exact z
  exact ⟨G', fp, (sUpd h).trans s1, s2, s3, fun b z => (new b z).imp_right (back b), nd, fun b z => ⟨back b (fr b z).1, (fr b z).2⟩, ow⟩
theorem srtR {p : Pm} : SrtR p := by
  intro X Wx m f a p1 p2 pos pos' c gd g1 g2 m1 m2 pl ha
  have st := pl.st X.env []
  have inner : PE X (.Call (.Name "set" p2) [a] [] pos') _ := pe_callTy (call_setOf c.calm) g2 m2 (by rfl) (pa_cons ha pa_nil st) (by decide) (by decide) st
  refine PE.imp (pe_callB (call_sortSet c.calm) g1 m1 (by rfl) (pa_cons inner pa_nil (by rfl))) fun σ H Q h => ?_
  have ok : OkU p.K (fun v H Q => ∃ (l : Addr) (ks : List Key), v = V.ref l ∧ SqL p.K H l (ks.map kV) ∧ ks.length + 1 < scanBound ∧ ∀ b, H b = none → rSortSet X.prog X.w [.ref b] (upd H b (SGo X.prog X.w b (onceK ks))) Q) srtF := by
    intro G H v e e' Q g b hF k
    obtain ⟨n, d⟩ := e
    unfold srtF at hF
    split at hF
    · rename_i n' ds heq
      cases heq
      split at hF
      · rename_i c1
        obtain ⟨l, vs, rfl, rd, rz⟩ := bo_list g c1.1 b
        have new : ∀ {b : Addr} {u : HO} {q : Addr}, H b = none → upd H b u q = none → Same G (upd H b u) := fun hb _ => g.trans (sUpd hb)
        have bound : ∀ n : Nat, n < 4000 → n + 1 < scanBound := fun n h => by
          have e : scanBound = 4096 := rfl
          omega
        cases hs : strsOf ds with
        | some ss =>
          rw [hs] at hF
          cases hF
          have e1 := rz_strs rz hs
          have e2 := strsOf_eq hs
          refine ⟨l, ss.map Sum.inr, rfl, .inl ?_, by have := c1.2; rw [e2] at this; simp at this ⊢; exact bound _ this, fun q hq => ⟨q, ss.map Sum.inr, rfl, upd_same, .inl ⟨ss, rfl, fun q2 hq2 => k _ _ (PRes.grown hq (PRes.lst (new hq hq2) hq2 ?_))⟩⟩⟩
          · rw [e1] at rd
            rw [List.map_map]
            exact rd
          · exact map_rz PyData.str V.str (fun x => .str x) _
        | none =>
          rw [hs] at hF
          obtain ⟨ns, hn, rfl⟩ := Option.map_eq_some_iff.mp hF
          have e1 := rz_ints rz hn
          have e2 := intsOf_eq hn
          refine ⟨l, ns.map Sum.inl, rfl, .inl ?_, by have := c1.2; rw [e2] at this; simp at this ⊢; exact bound _ this, fun q hq => ⟨q, ns.map Sum.inl, rfl, upd_same, .inr ⟨ns, rfl, fun q2 hq2 => k _ _ (PRes.grown hq (PRes.lst (new hq hq2) hq2 ?_))⟩⟩⟩
          · rw [e1] at rd
            rw [List.map_map]
            exact rd
          · exact map_rz PyData.int V.int (fun x => .int x) _
      · cases hF
    · cases hF
  have h1 := tE_un ok h
  rw [← c.hK] at h1
  exact tR.mono h1 fun x H1 ⟨l, ks, e, s, few, q⟩ => ⟨l, ks, by rw [e], s, few, q⟩
end Mb
end

section
set_option Elab.async false
set_option linter.all false
set_option maxRecDepth 100000
set_option maxHeartbeats 3200000
/-! Mb36: an own exception over ValueError whose __init__ says super().__init__(f'..') and keeps a line number -/
namespace Mb
open PySem PySem.Spec PyProof.Rows L2

/-! ### the text of __init__ -/
def iArgs (p1 p2 : Pos) : Arguments := { posonlyargs := [], args := [{ arg := "self", annotation := none, pos := p1 }, { arg := "line", annotation := none, pos := p2 }], vararg := none, kwonlyargs := [], kw_defaults := [], kwarg := none, defaults := [] }
def iMsg (z1 z2 : Str) (j1 j2 : Nat) (q1 q2 q3 q4 q5 : Pos) : Expr := .JoinedStr [.Constant (.str z1) j1 q1, .FormattedValue (.Name "line" q2) (-1) none q3, .Constant (.str z2) j2 q4] q5
def iBody (z1 z2 : Str) (j1 j2 : Nat) (q1 q2 q3 q4 q5 q6 q7 q8 q9 q10 q11 q12 q13 q14 : Pos) : List Stmt :=
  [.Expr (.Call (.Attribute (.Call (.Name "super" q6) [] [] q7) "__init__" q8) [iMsg z1 z2 j1 j2 q1 q2 q3 q4 q5] [] q9) q10, .Assign [.Attribute (.Name "self" q11) "line" q12] (.Name "line" q13) q14]
/-- how super().__init__(msg) is evaluated -/
def iEval (m : Expr) (q6 q7 q8 q9 : Pos) : Prop := ∃ pl : Env → Sem Bool, ∀ env : Env, eval (.Call (.Attribute (.Call (.Name "super" q6) [] [] q7) "__init__" q8) [m] [] q9) env = (do
      let ov ← attributeBase (.Call (.Name "super" q6) [] [] q7) "__init__" env (eval (.Call (.Name "super" q6) [] [] q7) env)
      standAt q8.atName
      let (f, first) ← holding [ov] (getMethod ov "__init__" (pl env))
      callWith q9 f first (backTo q9 (starEach [m] env)) [])
def iScope : Scope := { kind := .function, names := [("self", .local), ("line", .local), ("__class__", .free), ("super", .globalImplicit)], isGenerator := false, isCoroutine := false, more := [] }

theorem i_nocell : ∀ y ∈ iScope.names, y.2 ≠ .cell := by decide
theorem i_loc (u v : Value) : ∀ y ∈ [(("self" : Str), u), (("line" : Str), v)], iScope.names.lookup y.1 = some .local := fun y hy => by
  rcases List.mem_cons.mp hy with rfl | hy
  · rfl
  · rcases List.mem_cons.mp hy with rfl | hy
    · rfl
    · cases hy
structure BadTxt (P : Program) (K : PySem.W.Frag) (mg : Str → Option Value) (x q : Str) (C fI : Addr) : Prop where
  gC : mg x = some (.ref C)
  cls : ∃ nm q N bs bm sn sub ab col dd k0 k1 k2 k3 k5, K.lookup C = some (excClassObj nm q C N bs bm true sn sub ab col dd k0 k1 k2 k3 k5 "ValueError.__new__") ∧ PySem.HandSPX.refsVE bm = true
  sa : PySem.W.findIn K (.ref C) "__setattr__" = some (some (.builtin "object.__setattr__"))
  noL : PySem.W.findIn K (.ref C) "line" = some none
  iC : PySem.W.findIn K (.ref C) "__init__" = some (some (.ref fI))
  tI : PySem.W.typeIn K (.ref fI) = some (.type "function")
  kC : PySem.W.keepIn K (.ref C) = true
  exC : PySem.W.subIn K (.ref C) (.type "BaseException") = some true
  veC : PySem.W.subIn K (.ref C) (.type "ValueError") = some true
  tyC : PySem.W.typeIn K (.ref C) = some (.type "type")
  te : PySem.W.exmOne K (.ref C) (.ref C) = some true
  xf : XfC K C
  sup : PySem.W.ks_superIn K C C "__init__" = some (some (.builtin "ValueError.__init__"))
  own : PySem.W.mroIn K C (.ref C) = some true
  opq : PySem.W.nsIn K cStatics "thirdparty.any" = some none
  free : mg "super" = none
  top : (P.main.scope.names.lookup ("super" : Str)).isSome = false
  fn : ∃ (oc : Value) (od : Option Addr) (doc pm : Value) (an : Option Addr) (ct : Value) (osl : Array (Option Value)) (cda cc : Addr) (ccl : Value) (cdd : Option Addr) (vs : Array Value) (ccs : Array (Option Value)) (file : Str) (tf : Tok) (cl : Value) (cld : Option Addr) (csl : Array (Option Value)),
    ∃ (p1 p2 : Pos) (z1 z2 : Str) (j1 j2 : Nat) (q1 q2 q3 q4 q5 q6 q7 q8 q9 q10 q11 q12 q13 q14 : Pos), z1.length < 1000 ∧ z2.length < 1000 ∧ iEval (iMsg z1 z2 j1 j2 q1 q2 q3 q4 q5) q6 q7 q8 q9 ∧
      K.lookup fI = some ⟨oc, od, .func (PySem.W.ksFn "__init__" q (iArgs p1 p2) (iBody z1 z2 j1 j2 q1 q2 q3 q4 q5 q6 q7 q8 q9 q10 q11 q12 q13 q14) iScope .none .none doc pm an (.ref cda) ct cc), osl⟩ ∧ PySem.W.codeIn K (.ref cda) q = true ∧
      K.lookup cda = some ⟨ccl, cdd, .fields vs, ccs⟩ ∧ vs[2]? = some (.str file tf) ∧ ((P.main.file : Str) == file) = true ∧ K.lookup cc = some ⟨cl, cld, .cell (some (.ref C)), csl⟩

section
variable {P : Program} {w : World} {A : Around} {E : Value → Shared → Prop} {R : Result → Shared → Prop} {hp : Heap} {g : Array GenState} {d : Drawn} {t : Nat} {os : OsState} {K : PySem.W.Frag} {mg : Str → Option Value} {base : Heap} {x q : Str} {C fI : Addr}
/-- the built-in __init__ bound to the exception, called -/
theorem call_mw {nm qn : Str} {N : Addr} {bs bm : List Value} {sn : List Str} {sub : List Value} {ab : Bool} {col : Option Bool} {dd : Option Addr} {k0 k1 k2 k3 k5 : Option Value} {u e t0 : Addr} {rest : List Value} {Z : Value → Shared → Prop}
    (hC : hp.get? C = some (excClassObj nm qn C N bs bm true sn sub ab col dd k0 k1 k2 k3 k5 "ValueError.__new__")) (he : hp.get? e = some (PySem.HandSPX.excO C t0)) (hu : hp.get? u = some (PySem.W.kxs_mw "ValueError.__init__" e)) (hr : rest.length ≤ sizeLine)
    (fin : ∀ h' t1, (∀ b o, b ≠ e → hp.get? b = some o → h'.get? b = some o) → h'.get? e = some (PySem.HandSPX.excO C t1) → Z .none ⟨h', g, d, t, os⟩) : wpAny (model P w) A (call (.ref u) rest) Z E ⟨hp, g, d, t, os⟩ := by
  have mw : (Value.type "method-wrapper" == Value.type "method" || Value.type "method-wrapper" == Value.type "builtin_function_or_method" || Value.type "method-wrapper" == Value.type "method-wrapper") = true := by decide
  refine wpAny_call (codeAny_of_tree ?_)
  show wpAny _ A.in1 (callAny (.ref u) (⟨rest, []⟩ : Args)) _ _ _
  simp only [callAny]
  refine wpAny_bind (wpAny_load hu ?_)
  simp only [PySem.W.kxs_mw, mw, if_true]
  refine PySem.W.KFB.if_so (by decide) (wpAny_bind (PySem.W.check_bound_init F.excBase_ValueError.toExcCallFacts hC he rfl (wpAny_bind (wpAny_pure (wpAny_pure ⟨plainId_quiet F.excBase_ValueError.init.plain _, ?_⟩)))))
  refine codeAny_builtin F.excBase_ValueError.initEntry ?_
  exact PySem.W.exc_init_tree (cls := .ref C) (t0 := t0) (dv := none) (c2 := .none) (c3 := .none) (b4 := .bool false) he hr fun h' k e' _ => fin h' _ k e'
/-- what __init__ leaves -/
structure BadEnd (h h' : Heap) (x C dx t1 : Addr) (v : Value) : Prop where
  keep : ∀ b o, b ≠ x → h.get? b = some o → h'.get? b = some o
  obj : h'.get? x = some { cls := .ref C, dict := some dx, data := .fields #[.ref t1, .none, .none, .none, .bool false, .none] }
  new : h.objs.size ≤ dx
  ne : dx ≠ x
  ns : h'.Ns1 dx (fun y => if y = "line" then some v else none)
theorem bad_init (T : BadTxt P K mg x q C fI) {e t0 : Addr} {n : Int} {tk : Tok} (hn : n.natAbs.log2 < 1920) (X : K.In hp) (gl : hp.Ns mainGlobals mg) {mb : Str → Option Value} (gb : hp.Ns builtinsNs mb) (bb : ∀ y : Str, y ≠ "__name__" → mb y = bootBuiltins y) (lim : hp.NoLimit)
    (he : hp.get? e = some (PySem.HandSPX.excO C t0)) (hne : K.lookup e = none) (room : A.depth < recursionLimit) (fin : ∀ h' tk' dx t1, BadEnd hp h' e C dx t1 (.int n tk) → R (.ok (.ret .none)) ⟨h', g, d, tk', os⟩) :
    codeAny (model P w) A (.call (.ref fI) ⟨[.ref e, .int n tk], []⟩) R ⟨hp, g, d, t, os⟩ := by
  obtain ⟨oc, od, doc, pm, an, ct, osl, cda, cc, ccl, cdd, vs, ccs, file, tf, cl, cld, csl, p1, p2, z1, z2, j1, j2, q1, q2, q3, q4, q5, q6, q7, q8, q9, q10, q11, q12, q13, q14, l1, l2, ⟨pl, ev⟩, ho, hcd, hcode, hvs, hfile, hcell⟩ := T.fn
  obtain ⟨nm, qn, N, bs, bm, sn, sub, ab, col, dd, k0, k1, k2, k3, k5, hC, hbm⟩ := T.cls
  have hcl : PySem.W.clsIn K C = some { name := nm, bases := bs, mro := .ref C :: bm, ns := N, qualname := qn, hasDict := true, slotNames := sn, subclasses := sub, abstract := ab, collection := col, hasDel := false } := by unfold PySem.W.clsIn; rw [hC]
  refine ks_codeAny_call_defAt (fd := PySem.W.ksFn "__init__" q (iArgs p1 p2) (iBody z1 z2 j1 j2 q1 q2 q3 q4 q5 q6 q7 q8 q9 q10 q11 q12 q13 q14) iScope .none .none doc pm an (.ref cda) ct cc) (body := iBody z1 z2 j1 j2 q1 q2 q3 q4 q5 q6 q7 q8 q9 q10 q11 q12 q13 q14)
    (binds := [("self", .ref e), ("line", .int n tk)]) room (X _ _ ho) rfl lim (PySem.W.codeRec_of X hcd) rfl (BindsTo.of_eq (by first | rfl | with_unfolding_all rfl)) i_nocell (i_loc _ _) (fun h1 ns1 kp1 => ?_) rfl rfl rfl
  have kp : ∀ b o, hp.get? b = some o → h1.get? b = some o := kp1
  have X1 : K.In h1 := X.keeps kp
  have eL : e ≠ hp.objs.size := Nat.ne_of_lt (Heap.lt_size he)
  have ms : (fun y : Str => (List.lookup y [(("self" : Str), Value.ref e), (("line" : Str), Value.int n tk)].reverse)) "self" = some (.ref e) := by rfl
  have ml : (fun y : Str => (List.lookup y [(("self" : Str), Value.ref e), (("line" : Str), Value.int n tk)].reverse)) "line" = some (.int n tk) := by rfl
  refine ks_wpAt_execs_cons (ks_wpAt_Expr_any (ks_wpAt_MethodCall ?_ (ev _)))
  -- super()
  refine ks_wpAt_super_base (f := fI) (cc := cda) (ar := { arg := "self", annotation := none, pos := p1 }) (by rfl) (by rfl) (by decide) rfl (X1 _ _ ho) rfl rfl rfl (X1 _ _ hcode) rfl hvs hfile T.top ?_
  refine PySem.W.ks_loadName_global (by rfl) (by rfl) (Calls.loadGlobal_builtin (gl.keeps kp) T.free (gb.keeps kp) ((bb _ (by decide)).trans (by rfl)) ⟨rfl, ?_⟩)
  refine wpAny_loadName_free (c := cc) (v := .ref C) (by rfl) (by rfl) (by rfl) ⟨_, X1 _ _ hcell, rfl⟩ ?_
  refine wpAny_loadName_local (by rfl) (by rfl) ns1 ms ?_
  obtain ⟨oC, hC1, hC2⟩ : ∃ oC, h1.get? C = some oC ∧ oC.data = .cls { name := nm, bases := bs, mro := .ref C :: bm, ns := N, qualname := qn, hasDict := true, slotNames := sn, subclasses := sub, abstract := ab, collection := col, hasDel := false } := ⟨_, X1 _ _ hC, rfl⟩
  refine ks_wpAny_isType_cls hC1 hC2 ⟨rfl, ?_⟩
  refine ks_wpAny_call_super hC1 hC2 (kp _ _ he) rfl (fun c z => nomatch z) (PySem.W.looks_mroIn X1 T.own) fun h2 so2 kp2 => ?_
  -- .__init__
  have he2 : h2.get? e = some (PySem.HandSPX.excO C t0) := kp2 _ _ (kp _ _ he)
  have X2 : K.In h2 := X1.keeps kp2
  have eC : e ≠ C := fun z => by
    have := X _ _ hC
    rw [← z, he] at this
    cases this
  have I2 : PySem.W.InstAt h2 e (PySem.HandSPX.excO C t0) C none := ⟨he2, rfl, rfl, trivial⟩
  have sup := T.sup
  unfold PySem.W.ks_superIn at sup
  rw [hcl] at sup
  refine PySem.W.kxs_getMethod PySem.W.kxs_ValueError so2 (PySem.W.looks_opaque X2 T.opq) (l₀ := .ref C :: bm) (fun A Q E s k z => wpAny_bind ((PySem.W.looks_clsIn X2 hcl) A _ E s k (wpAny_pure z))) rfl X2 sup (I2.type.andThen (PySem.W.looks_subIn X2 T.veC)) eC (by decide) ?_
  -- the call
  have kp3 : ∀ b o, h2.get? b = some o → (h2.push (PySem.W.kxs_mw "ValueError.__init__" e)).get? b = some o := fun b o z => Heap.get?_push_of_some _ z
  refine PySem.W.kxs_callWith (i := "ValueError.__init__") (x := e) (by rfl) ?_
  show wpAny _ _ (evalArgs (.ref h2.objs.size) true [(false, eval (iMsg z1 _ j1 j2 q1 q2 q3 q4 q5) _)] []) _ _ _
  refine Calls.evalArgs_plain (Calls.spliced_cons ?_)
  have ns3 := ((ns1.keeps kp2).keeps kp3)
  refine wpAny_JoinedStr (Calls.Constant_str ⟨_, _, rfl, ?_, ?_⟩)
  · rw [Str.length_append, sizeLine_eq]
    have : Str.empty.length = 0 := rfl
    omega
  refine wpAny_FormattedValue_plain (wpAny_Name (wpAny_loadName_local (by rfl) (by rfl) ns3 ml (wpAny_formatField_int hn ⟨_, _, rfl, ?_, ?_⟩)) (by decide))
  · rw [Str.length_append, Str.length_append, sizeLine_eq, PySem.ofString_length]
    have : Str.empty.length = 0 := rfl
    have := int_text_length_le (k := 1920) (by decide) hn
    omega
  refine Calls.Constant_str ⟨_, _, rfl, ?_, ?_⟩
  · rw [Str.length_append, Str.length_append, Str.length_append, sizeLine_eq, PySem.ofString_length]
    have : Str.empty.length = 0 := rfl
    have := int_text_length_le (k := 1920) (by decide) hn
    omega
  refine ⟨?_, Calls.spliced_nil ⟨Heap.get?_push_size _ rfl, ?_⟩⟩
  · rw [Str.length_append, Str.length_append, Str.length_append, sizeLine_eq, PySem.ofString_length]
    have : Str.empty.length = 0 := rfl
    have := int_text_length_le (k := 1920) (by decide) hn
    omega
  refine call_mw (kp3 _ _ (X2 _ _ hC)) (kp3 _ _ he2) (Heap.get?_push_size _ rfl) (by rw [sizeLine_eq]; show 1 ≤ _; decide) fun h4 t4 kp4 he4 => ?_
  -- self.line = line
  have kp5 : ∀ b o, b ≠ e → h2.get? b = some o → h4.get? b = some o := fun b o z y => kp4 b o z (kp3 b o y)
  have oldE : ∀ b o, K.lookup b = some o → b ≠ e := fun b o z y => by
    rw [y, hne] at z
    cases z
  have X4 : K.In h4 := fun b o z => kp5 b o (oldE b o z) (X2 b o z)
  have ns4 := (ns1.keeps kp2).at fun o z => kp5 hp.objs.size o (Ne.symm eL) z
  dsimp only
  refine ks_wpAt_execs_cons (ks_wpAt_Assign_Attr ?_)
  refine wpAt_of_wpAny (wpAny_Name ?_ (by decide))
  refine wpAny_loadName_local (by rfl) (by rfl) ns4 ml ?_
  refine wpAny_Name ?_ (by decide)
  refine wpAny_loadName_local (by rfl) (by rfl) ns4 ms ?_
  refine PySem.W.set_plain X4 (ox := PySem.HandSPX.excO C t4) (od := none) ⟨he4, rfl, rfl, trivial⟩ T.sa ?_
  refine PySem.HandSPX.exc_osa X4 he4 hcl (show PySem.HandSPX.refsVE (.ref C :: bm) = true from hbm) rfl T.noL (fun h6 t6 dx kp6 new ne obj ns => ?_)
  dsimp only
  have lt2 : hp.objs.size ≤ h4.objs.size := by
    have z : hp.objs.size < h4.objs.size := ns4.lt
    exact Nat.le_of_lt z
  show _root_.PySem.wpAt _ _ _ (execs [] _) _ _ _
  refine wpAt_of_wpAny (wpAny_execs_nil (fin h6 t6 dx t4 ⟨fun b o z y => kp6 b o z (kp5 b o z (kp2 b o (kp b o y))), obj, Nat.le_trans lt2 new, ne, ns⟩))
end
end Mb
end

section
set_option Elab.async false
set_option linter.all false
set_option maxRecDepth 100000
set_option maxHeartbeats 3200000
/-! Mb37: such an exception made, raised, caught -/
namespace Mb
open PySem PySem.Spec PyProof.Rows L2

structure BadMade (h h' : Heap) (e C d : Addr) (v : Value) : Prop where
  keep : ∀ b o, h.get? b = some o → h'.get? b = some o
  new : h.objs.size ≤ e
  obj : ∃ oe vs, h'.get? e = some oe ∧ oe.cls = .ref C ∧ oe.dict = some d ∧ oe.data = .fields vs ∧ vs[1]? = some .none
  dnew : h.objs.size ≤ d
  dne : d ≠ e
  ns : h'.Ns1 d (fun y => if y = "line" then some v else none)
section
variable {P : Program} {w : World} {A : Around} {E : Value → Shared → Prop} {R : Result → Shared → Prop} {K : PySem.W.Frag} {mg mb : Str → Option Value} {x q : Str} {C fI : Addr}
theorem bad_made {s : Shared} (T : BadTxt P K mg x q C fI) {n : Int} {tk : Tok} (hn : n.natAbs.log2 < 1920) (X : K.In s.heap) (gl : s.heap.Ns mainGlobals mg) (gb : s.heap.Ns builtinsNs mb) (bb : ∀ y : Str, y ≠ "__name__" → mb y = bootBuiltins y) (lim : s.heap.NoLimit)
    (room : A.depth + 1 < recursionLimit) (fin : ∀ h' tk' e d, BadMade s.heap h' e C d (.int n tk) → R (.ok (.ret (.ref e))) { s with heap := h', toks := tk' }) : codeAny (model P w) A (.call (.ref C) ⟨[.int n tk], []⟩) R s := by
  obtain ⟨nm, qn, N, bs, bm, sn, sub, ab, col, dd, k0, k1, k2, k3, k5, hC, hbm⟩ := T.cls
  obtain ⟨hp, g, dr, tk0, os⟩ := s
  have kp : ∀ b o, hp.get? b = some o → ((hp.push (PySem.W.kdv_tup [Value.int n tk])).push (PySem.HandSPX.excO C hp.objs.size)).get? b = some o := fun b o e => Heap.get?_push_of_some _ (Heap.get?_push_of_some _ e)
  have at1 : ((hp.push (PySem.W.kdv_tup [Value.int n tk])).push (PySem.HandSPX.excO C hp.objs.size)).get? (hp.objs.size + 1) = some (PySem.HandSPX.excO C hp.objs.size) := by heap_get
  have out : K.lookup (hp.objs.size + 1) = none := by
    cases e : K.lookup (hp.objs.size + 1) with
    | none => rfl
    | some o => exact absurd (Nat.lt_of_succ_lt (Heap.lt_size (X _ _ e))) (Nat.lt_irrefl _)
  refine PySem.HandSPX.call_own F.excBase_ValueError (fun Y => PySem.HandSPX.refsVE_contains Y bm hbm) (X _ _ hC) (PySem.W.looks_findIn X T.iC) (fun self => PySem.W.bind_fn X self T.tI) (by rw [sizeLine_eq]; exact (by decide : 1 ≤ 16777216)) ?_
  refine bad_init T hn (X.keeps kp) (gl.keeps kp) (gb.keeps kp) bb (lim.keeps kp) at1 out room fun h' tk' dx t1 B => ⟨rfl, ?_⟩
  have old : ∀ b o, hp.get? b = some o → h'.get? b = some o := fun b o e => B.keep b o (Nat.ne_of_lt (Nat.lt_succ_of_lt (Heap.lt_size e))) (kp b o e)
  have z : hp.objs.size + 1 + 1 ≤ dx := by
    first
      | (simpa only [Heap.size_push] using B.new)
      | (have q := B.new; rw [Heap.size_push, Heap.size_push] at q; exact q)
  exact fin h' tk' (hp.objs.size + 1) dx ⟨old, Nat.le_succ _, ⟨_, _, B.obj, rfl, rfl, rfl, rfl⟩, Nat.le_trans (Nat.le_trans (Nat.le_succ _) (Nat.le_succ _)) z, B.ne, B.ns⟩
end
theorem relO_line {v : V} {u : Value} (r : RelV v u) (f : Str) : RelO (List.lookup f [(("line" : Str), v)]) (if f = "line" then some u else none) := by
  by_cases h : f = "line"
  · subst h
    rw [if_pos rfl]
    have e : List.lookup ("line" : Str) [(("line" : Str), v)] = some v := by simp [List.lookup]
    rw [e]
    exact r
  · rw [if_neg h]
    have e : (f == ("line" : Str)) = false := by simpa using h
    have e2 : List.lookup f [(("line" : Str), v)] = none := by simp [List.lookup, e]
    rw [e2]
    trivial
section
variable {X : Cx} {p : Pm} {x q : Str} {C fI : Addr}
theorem mk_line {k : Nat} (T : BadTxt X.prog X.K X.mg x q C fI) (hK : X.K = p.K) (hmg : X.mg = p.mg) (hr : Room k X.A) : MkR X p x (mkLine x) := by
  intro Wx m f e es p' pos hg hdb he hpl ha pins s σ H Q I h
  refine wpAny_Call_Name_kw (ld_glob I hg T.gC ?_ hdb)
  refine PySem.W.callWith_K (h₀ := X.base) I.ok.mod.kin T.kC (thn (ha.run pos pins s σ H _ I h) fun us s1 hh => ⟨?_, ?_⟩) he hpl
  · obtain ⟨vs, H1, I1, _⟩ := hh
    exact I1.kIn
  obtain ⟨vs, H1, I1, r1, as, G, x', sg, b, hF, k1⟩ := hh
  unfold mkLine at hF
  split at hF
  · rename_i n0 i
    split at hF
    · rename_i hz
      cases hF
      obtain ⟨v, rfl, b1⟩ := boOne b
      have ev := bo_int sg b1
      subst ev
      cases r1 with
      | cons rv rn =>
        cases rn
        obtain ⟨tk, rfl⟩ := rv
        show wpAny _ _ (call (.ref C) [Value.int i tk]) _ _ _
        obtain ⟨mb, gb, bb⟩ := I1.mod.blt
        have lim := I1.nolimit
        have KX := I1.kIn
        have gl := I1.mod.glob.keeps I1.bk
        have gb' := gb.keeps I1.bk
        obtain ⟨hp, g, dr, t1, os⟩ := s1
        refine wpAny_call (bad_made T hz KX gl gb' bb lim (by have := hr.dp; omega) fun h' tk' a d M => ?_)
        show MkP X pins σ Q (.ref a) ⟨h', g, dr, tk', os⟩
        obtain ⟨oe, fv, hoe, hc, hd, hdat, h1⟩ := M.obj
        obtain ⟨G', g1, g2⟩ := restrict h' fun b => decide (b ≠ a)
        have gk : ∀ b, b ≠ a → G'.get? b = h'.get? b := fun b hb => g1 b (decide_eq_true hb)
        have ge : G'.get? a = none := g2 a (by simp)
        have old : ∀ b o, hp.get? b = some o → G'.get? b = some o := fun b o y => (gk b (Nat.ne_of_lt (Nat.lt_of_lt_of_le (Heap.lt_size y) M.new))).trans (M.keep b o y)
        have ob : ObjOk X.prog X.w (upd H1 d (.xd [(("line" : Str), V.int i)])) G' d (.xd [(("line" : Str), V.int i)]) := ⟨_, M.ns.at (fun o y => (gk d M.dne).trans y), fun f => relO_line (v := V.int i) (u := Value.int i tk) ⟨tk, rfl⟩ f⟩
        have J : Inv X pins σ (upd H1 d (.xd [(("line" : Str), V.int i)])) ⟨G', g, dr, tk', os⟩ := I1.laid (t' := tk') old M.dnew ob
        have nd : H1 d = none := I1.hok.fresh M.dnew
        refine ⟨a, oe, fv, ⟨G', g, dr, tk', os⟩, _, .ref C, some d, rfl, J, fun b o y => ?_, ge, hoe, ⟨hc, hd⟩, hdat, h1, ?_, rfl, I1.bare, raises_own T.exC T.tyC, k1 (.ref C) (some d) _ (.inr ⟨d, _, nd, rfl⟩) ⟨C, ?_, rfl, .inr ⟨d, _, rfl, upd_same, .cons ⟨rfl, .int i⟩ .nil⟩⟩⟩
        · by_cases hb : b = a
          · have y' : G'.get? b = some o := y
            rw [hb, ge] at y'
            cases y'
          · exact (gk b hb).symm.trans y
        · rw [upd_ne (Ne.symm M.dne)]
          exact I1.hok.fresh M.new
        · rw [← hmg]
          exact T.gC
    · cases hF
  · cases hF
theorem ex_line {k : Nat} (T : BadTxt X.prog X.K X.mg x q C fI) (hK : X.K = p.K) (hmg : X.mg = p.mg) (hr : Room k X.A) : ExOk X p (x, mkLine x) :=
  ⟨⟨C, by rw [← hmg]; exact T.gC, by rw [← hK]; exact T.te, T.xf, T.noL⟩, fun pn xe => mk_line (X := X.tr pn xe) T hK hmg hr⟩
/-- an own exception without __init__, made with a text -/
structure TxtC (K : PySem.W.Frag) (mg : Str → Option Value) (x : Str) (C : Addr) : Prop where
  gC : mg x = some (.ref C)
  exc : PySem.W.excIn K C He.veBase "ValueError.__new__" = true
  kC : PySem.W.keepIn K (.ref C) = true
  exC : PySem.W.subIn K (.ref C) (.type "BaseException") = some true
  tyC : PySem.W.typeIn K (.ref C) = some (.type "type")
  te : PySem.W.exmOne K (.ref C) (.ref C) = some true
  xf : XfC K C
  noL : PySem.W.findIn K (.ref C) "line" = some none
theorem mk_txt {x : Str} {C : Addr} (T : TxtC X.K X.mg x C) (hmg : X.mg = p.mg) : MkR X p x (mkTxt x) := by
  intro Wx m f e es p' pos hg hdb he hpl ha pins s σ H Q I h
  refine wpAny_Call_Name_kw (ld_glob I hg T.gC ?_ hdb)
  refine PySem.W.callWith_K (h₀ := X.base) I.ok.mod.kin T.kC (thn (ha.run pos pins s σ H _ I h) fun us s1 hh => ⟨?_, ?_⟩) he hpl
  · obtain ⟨vs, H1, I1, _⟩ := hh
    exact I1.kIn
  obtain ⟨vs, H1, I1, r1, as, G, x', sg, b, hF, k1⟩ := hh
  unfold mkTxt at hF
  split at hF
  · cases hF
    obtain ⟨v, rfl, b1⟩ := boOne b
    cases r1 with
    | cons rv rn =>
      cases rn
      rename_i u
      show wpAny _ _ (call (.ref C) [u]) _ _ _
      obtain ⟨bm, N, nm, qn, bs, hdct, sn, sub, ab, col, dd, k0, k1', k2, k3, k5, mN, hC, hN, hni, T2⟩ := exc_obj I1.kIn T.exc
      refine wpAny_call_exc_subT F.excBase_ValueError T2 hC hN hni (fun h' a hm => ?_) (by rw [sizeLine_eq]; exact (by decide : 1 ≤ 16777216))
      exact mk_of I1 hm (raises_own T.exC T.tyC) (k1 (.ref C) none H1 (.inl rfl) ⟨C, by rw [← hmg]; exact T.gC, rfl, .inl ⟨rfl, rfl⟩⟩) (I1.hok.gone hm.new)
  · cases hF
theorem ex_txt {x : Str} {C : Addr} (T : TxtC X.K X.mg x C) (hK : X.K = p.K) (hmg : X.mg = p.mg) : ExOk X p (x, mkTxt x) :=
  ⟨⟨C, by rw [← hmg]; exact T.gC, by rw [← hK]; exact T.te, T.xf, T.noL⟩, fun pn xe => mk_txt (X := X.tr pn xe) T hmg⟩
end
end Mb
end

section
set_option Elab.async false
set_option linter.all false
set_option maxRecDepth 100000
set_option maxHeartbeats 2000000
/-! Mb38: the head's facts -/
namespace Mb
open PySem PySem.Spec PyProof.Rows L2

/-! ### constants -/
mutual
def datB (K : PySem.W.Frag) : PyData → Value → Bool
  | .none, u => match u with
    | .none => true
    | _ => false
  | .bool b, u => match u with
    | .bool c => b == c
    | _ => false
  | .int i, u => match u with
    | .int j _ => decide (i = j)
    | _ => false
  | .str x, u => match u with
    | .str y _ => decide (x = y)
    | _ => false
  | .tuple ds, u => match u with
    | .ref a => match K.lookup a with
      | some ⟨.type c, _, .seq its _, _⟩ => decide (c = "tuple") && (decide (its.size ≤ sizeLine) && datAll K ds its.toList)
      | _ => false
    | _ => false
  | _, _ => false
def datAll (K : PySem.W.Frag) : List PyData → List Value → Bool
  | [], us => match us with
    | [] => true
    | _ => false
  | d :: ds, us => match us with
    | u :: us => datB K d u && datAll K ds us
    | _ => false
end
mutual
theorem datB_ok {K : PySem.W.Frag} : ∀ {d : PyData} {u : Value}, datB K d u = true → ∃ v, RelV v u ∧ ∀ G, Rz K G v d
  | .none, u, h => by unfold datB at h; split at h <;> first | exact ⟨.non, rfl, fun _ => .non⟩ | cases h
  | .bool b, u, h => by
    unfold datB at h
    split at h
    · rw [beq_iff_eq.mp h]; exact ⟨.bl _, rfl, fun _ => .bl _⟩
    · cases h
  | .int i, u, h => by
    unfold datB at h
    split at h
    · rw [of_decide_eq_true h]; exact ⟨.int _, ⟨_, rfl⟩, fun _ => .int _⟩
    · cases h
  | .str x, u, h => by
    unfold datB at h
    split at h
    · rw [of_decide_eq_true h]; exact ⟨.str _, ⟨_, rfl⟩, fun _ => .str _⟩
    · cases h
  | .tuple ds, u, h => by
    unfold datB at h
    split at h
    · split at h
      · rename_i a x1 c od its n sl hk
        simp only [Bool.and_eq_true, decide_eq_true_eq] at h
        obtain ⟨h1, h2, h3⟩ := h
        obtain ⟨vs, r, z⟩ := datAll_ok h3
        subst h1
        exact ⟨.ref a, rfl, fun G => .tup (.inr ⟨_, its, n, hk, rfl, rfl, h2, r⟩) (z G)⟩
      · cases h
    · cases h
  | .list _, u, h => by unfold datB at h; cases h
  | .dict _, u, h => by unfold datB at h; cases h
theorem datAll_ok {K : PySem.W.Frag} : ∀ {ds : List PyData} {us : List Value}, datAll K ds us = true → ∃ vs, Vals vs us ∧ ∀ G, RzAll K G vs ds
  | [], us, h => by unfold datAll at h; split at h <;> first | exact ⟨[], .nil, fun _ => .nil⟩ | cases h
  | d :: ds, us, h => by
    unfold datAll at h
    split at h
    · rw [Bool.and_eq_true] at h
      obtain ⟨v, r, z⟩ := datB_ok h.1
      obtain ⟨vs, rs, zs⟩ := datAll_ok h.2
      exact ⟨v :: vs, .cons r rs, fun G => .cons (z G) (zs G)⟩
    · cases h
end
def glbB (K : PySem.W.Frag) (q : Str × PyData) : Bool := match PySem.W.nsIn K mainGlobals q.1 with
  | some (some u) => datB K q.2 u
  | _ => false
theorem glbB_ok {K : PySem.W.Frag} {h : Heap} {mg : Str → Option Value} {q : Str × PyData} (X : K.In h) (G : h.Ns mainGlobals mg) (c : glbB K q = true) : ∃ u v, mg q.1 = some u ∧ RelV v u ∧ ∀ G, Rz K G v q.2 := by
  unfold glbB at c
  split at c
  · rename_i u e
    obtain ⟨v, r, z⟩ := datB_ok c
    exact ⟨u, v, PySem.W.mg_of X G e, r, z⟩
  · cases c
def freeB (K : PySem.W.Frag) (x : Str) : Bool := decide (PySem.W.nsIn K mainGlobals x = some none)
theorem freeB_ok {K : PySem.W.Frag} {h : Heap} {mg : Str → Option Value} {x : Str} (X : K.In h) (G : h.Ns mainGlobals mg) (c : freeB K x = true) : mg x = none := PySem.W.mg_none_of X G (of_decide_eq_true c)

/-! ### exceptions -/
def clsVE (K : PySem.W.Frag) (C : Addr) : Bool := match K.lookup C with
  | some ⟨.type "type", _, .cls cd, sl⟩ => match cd.mro, sl.toList with
    | .ref D :: bm, [_, _, _, _, some (.builtin n), _] => decide (D = C) && (decide (n = "ValueError.__new__") && (cd.hasDict && (!cd.hasDel && PySem.HandSPX.refsVE bm)))
    | _, _ => false
  | _ => false
theorem clsVE_ok {K : PySem.W.Frag} {C : Addr} (h : clsVE K C = true) : ∃ nm q N bs bm sn sub ab col dd k0 k1 k2 k3 k5, K.lookup C = some (excClassObj nm q C N bs bm true sn sub ab col dd k0 k1 k2 k3 k5 "ValueError.__new__") ∧ PySem.HandSPX.refsVE bm = true := by
  unfold clsVE at h
  split at h
  · rename_i od cd sl hk
    split at h
    · rename_i D bm k0 k1 k2 k3 n k5 e1 e2
      simp only [Bool.and_eq_true, decide_eq_true_eq, Bool.not_eq_true'] at h
      obtain ⟨h1, h2, h3, h4, h5⟩ := h
      obtain ⟨nm, bs, mro, ns, qn, hd, sn, sub, ab, col, del⟩ := cd
      dsimp only at e1 h3 h4
      have e3 : sl = #[k0, k1, k2, k3, some (.builtin n), k5] := by
        cases sl
        simp only at e2
        rw [e2]
      subst e1 h1 h2 h3 h4 e3
      exact ⟨nm, qn, ns, bs, bm, sn, sub, ab, col, od, k0, k1, k2, k3, k5, hk, h5⟩
    · cases h
  · cases h
def exB0 (K : PySem.W.Frag) (x : Str) : Bool := decide (PySem.W.nsIn K mainGlobals x = some (some (.ref (He.ga K x)))) && (PySem.W.keepIn K (.ref (He.ga K x)) && (decide (PySem.W.subIn K (.ref (He.ga K x)) (.type "BaseException") = some true) &&
  (decide (PySem.W.typeIn K (.ref (He.ga K x)) = some (.type "type")) && (decide (PySem.W.exmOne K (.ref (He.ga K x)) (.ref (He.ga K x)) = some true) && (xfB K (He.ga K x) && decide (PySem.W.findIn K (.ref (He.ga K x)) "line" = some none))))))
def txtB (K : PySem.W.Frag) (x : Str) : Bool := exB0 K x && PySem.W.excIn K (He.ga K x) He.veBase "ValueError.__new__"
theorem txtB_ok {K : PySem.W.Frag} {h : Heap} {mg : Str → Option Value} {x : Str} (X : K.In h) (G : h.Ns mainGlobals mg) (c : txtB K x = true) : TxtC K mg x (He.ga K x) := by
  unfold txtB exB0 at c
  simp only [Bool.and_eq_true, decide_eq_true_eq] at c
  obtain ⟨⟨h1, h2, h3, h4, h5, h6, h7⟩, h8⟩ := c
  exact ⟨PySem.W.mg_of X G h1, h8, h2, h3, h4, h5, xfB_ok h6, h7⟩
abbrev FnX : Type := Option (Str × Str × Arguments × FuncBody × Scope × Addr × List Str × Addr)
def fnXo (K : PySem.W.Frag) (x : Str) : FnX := match K.lookup (He.ma K (He.ga K x) "__init__") with
  | some ⟨_, _, .func fd, _⟩ => some (fd.name, fd.qualname, fd.params, fd.body, fd.scope, fd.globals, fd.closure.map (·.1), fd.builtins)
  | _ => none
def fnXv (q : Str) (params : Arguments) (body : List Stmt) (scope : Scope) : FnX := some ("__init__", q, params, .stmts body, scope, mainGlobals, ["__class__"], builtinsNs)
def badB (P : Program) (K : PySem.W.Frag) (x : Str) : Bool := exB0 K x && (clsVE K (He.ga K x) && (decide (PySem.W.findIn K (.ref (He.ga K x)) "__setattr__" = some (some (.builtin "object.__setattr__"))) &&
  (decide (PySem.W.findIn K (.ref (He.ga K x)) "__init__" = some (some (.ref (He.ma K (He.ga K x) "__init__")))) && (decide (PySem.W.typeIn K (.ref (He.ma K (He.ga K x) "__init__")) = some (.type "function")) &&
  (decide (PySem.W.subIn K (.ref (He.ga K x)) (.type "ValueError") = some true) && (decide (PySem.W.ks_superIn K (He.ga K x) (He.ga K x) "__init__" = some (some (.builtin "ValueError.__init__"))) &&
  (decide (PySem.W.mroIn K (He.ga K x) (.ref (He.ga K x)) = some true) && (decide (PySem.W.nsIn K cStatics "thirdparty.any" = some none) && (freeB K "super" && (!(P.main.scope.names.lookup ("super" : Str)).isSome &&
  match K.lookup (He.ma K (He.ga K x) "__init__") with
  | some ⟨_, _, .func fd, _⟩ => match fd.closure, fd.code, fd.defaults, fd.kwdefaults with
    | [(_, cc)], .ref cda, .none, .none => PySem.W.codeIn K (.ref cda) fd.qualname && ((match K.lookup cda with
      | some ⟨_, _, .fields vs, _⟩ => match (vs[2]? : Option Value) with
        | some (.str file _) => (P.main.file : Str) == file
        | _ => false
      | _ => false) && match K.lookup cc with
      | some ⟨_, _, .cell (some (.ref D)), _⟩ => decide (D = He.ga K x)
      | _ => false)
    | _, _, _, _ => false
  | _ => false))))))))))
theorem badB_ok {P : Program} {K : PySem.W.Frag} {h : Heap} {mg : Str → Option Value} {x q : Str} {p1 p2 : Pos} {z1 z2 : Str} {j1 j2 : Nat} {q1 q2 q3 q4 q5 q6 q7 q8 q9 q10 q11 q12 q13 q14 : Pos} (X : K.In h) (G : h.Ns mainGlobals mg) (c : badB P K x = true)
    (e : fnXo K x = fnXv q (iArgs p1 p2) (iBody z1 z2 j1 j2 q1 q2 q3 q4 q5 q6 q7 q8 q9 q10 q11 q12 q13 q14) iScope) (l1 : z1.length < 1000) (l2 : z2.length < 1000) (ev : iEval (iMsg z1 z2 j1 j2 q1 q2 q3 q4 q5) q6 q7 q8 q9) :
    BadTxt P K mg x q (He.ga K x) (He.ma K (He.ga K x) "__init__") := by
  unfold badB exB0 at c
  simp only [Bool.and_eq_true, decide_eq_true_eq, Bool.not_eq_true'] at c
  obtain ⟨⟨a1, a2, a3, a4, a5, a6, a7⟩, b1, b2, b3, b4, b5, b6, b7, b8, b9, b10, b11⟩ := c
  refine ⟨PySem.W.mg_of X G a1, clsVE_ok b1, b2, a7, b3, b4, a2, a3, b5, a4, a5, xfB_ok a6, b6, b7, b8, freeB_ok X G b9, b10, ?_⟩
  unfold fnXo at e
  split at b11
  · rename_i oc od fd osl hk
    rw [hk] at e
    split at b11
    · rename_i cn cc cda h1 h2 h3 h4
      rw [Bool.and_eq_true, Bool.and_eq_true] at b11
      obtain ⟨c1, c2, c3⟩ := b11
      split at c2
      · rename_i ccl cdd vs ccs hk2
        split at c2
        · rename_i file tf hv
          split at c3
          · rename_i cl cld D csl hk3
            have c3 := of_decide_eq_true c3
            subst c3
            obtain ⟨n1, n2, n3, n4, n5, n6, n7, n8, n9, n10, n11, n12, n13, n14, n15⟩ := fd
            dsimp only at h1 h2 h3 h4 e c1
            unfold fnXv at e
            simp only [Option.some.injEq, Prod.mk.injEq] at e
            obtain ⟨e1, e2, e3, e4, e5, e6, e7, e8⟩ := e
            subst h1 h2 h3 h4
            have e7 : cn = "__class__" := by simpa using e7
            subst e1 e2 e3 e4 e5 e6 e7 e8
            exact ⟨oc, od, n10, n11, n12, n14, osl, cda, cc, ccl, cdd, vs, ccs, file, tf, cl, cld, csl, p1, p2, z1, z2, j1, j2, q1, q2, q3, q4, q5, q6, q7, q8, q9, q10, q11, q12, q13, q14, l1, l2, ev, hk, c1, hk2, hv, c2, hk3⟩
          · cases c3
        · cases c2
      · cases c2
    · cases b11
  · cases b11

/-! ### the hook -/
abbrev AlX : Type := He.AlD × List FnX
def frX (g : Addr → Option Obj) (n : Nat) : PySem.W.Frag := He.frG g (cStatics :: He.asD g n)
def obsX (n : Nat) (fn : List He.DefD) (fi : List Str) (ex : PySem.W.Frag → Bool) (g : Addr → Option Obj) : AlX := (((fn.all fun d => d.ok (frX g n)) && ex (frX g n), fn.map fun d => He.fnW (frX g n) d.at_), fi.map fun x => fnXo (frX g n) x)
def valX (fn : List He.DefD) (fv : List FnX) : AlX := (He.valD fn, fv)
structure SaysX (fn : List He.DefD) (fi : List Str) (fv : List FnX) (ex : PySem.W.Frag → Bool) (K : PySem.W.Frag) : Prop where
  fns : He.SaysD [] fn K
  ex : ex K = true
  fx : fi.map (fun x => fnXo K x) = fv
def hookX (n : Nat) (fn : List He.DefD) (fi : List Str) (fv : List FnX) (ex : PySem.W.Frag → Bool) : PySem.W.Hook where
  α := AlX
  obs := fun s => obsX n fn fi ex s.heap.get?
  val := fun _ => valX fn fv
  says := fun _ h => ∃ K : PySem.W.Frag, K.In h ∧ SaysX fn fi fv ex K
  of := fun _ s e => by
    have e1 := congrArg (fun z : AlX => z.1.1) e
    have e2 := congrArg (fun z : AlX => z.1.2) e
    have e3 := congrArg (fun z : AlX => z.2) e
    have e1 := Bool.and_eq_true_iff.mp e1
    refine ⟨frX s.heap.get? n, He.frG_in, ⟨Prod.ext ?_ e2, e1.2, e3⟩⟩
    show (([] : List He.Fa).all (fun f => f.ok (frX s.heap.get? n)) && fn.all fun d => d.ok (frX s.heap.get? n)) = true
    rw [List.all_nil, Bool.true_and]
    exact e1.1
  keeps := fun _ _ _ ⟨K, hK, c⟩ k => ⟨K, PySem.W.Frag.In.keeps hK k, c⟩
theorem obsX_eq {n : Nat} {fn : List He.DefD} {fi : List Str} {fv : List FnX} {ex : PySem.W.Frag → Bool} {g : Addr → Option Obj} {s : Shared} (h : ∀ a, g a = s.heap.get? a) : obsX n fn fi ex g = (hookX n fn fi fv ex).obs s := by
  have e : g = s.heap.get? := funext h
  rw [e]; rfl
end Mb
end

section
set_option Elab.async false
set_option linter.all false
set_option maxRecDepth 100000
set_option maxHeartbeats 2000000
/-! Mb39: the defs of a module, one behind another -/
namespace Mb
open PySem PySem.Spec PyProof.Rows L2
section
variable {P : Program} {w : World} {K : PySem.W.Frag} {mg : Str → Option Value} {base : Heap} {k : Nat} {blt : List Str} {glb : List (Str × PyData)} {exs : List (Str × (List Ent → Option Exn))} {l : List (Str × FD)}
theorem gm_nil (h1 : ∀ x, blt.contains x = true → mg x = none) (h2 : ∀ q ∈ glb, ∃ u v, mg q.1 = some u ∧ RelV v u ∧ ∀ G, Rz K G v q.2)
    (h3 : ∀ q ∈ exs, ∀ (X : Cx), X.prog = P → X.w = w → X.K = K → X.mg = mg → Room k X.A → ExOk X ⟨K, mg⟩ q) : GmOk P w K mg base k ⟨blt, glb, [], exs⟩ :=
  ⟨fun j q e => (by simp at e), h1, fun j q e => h2 q (List.mem_of_getElem? e), fun X j q a1 a2 a3 a4 a5 a6 a7 a8 a9 e => h3 q (List.mem_of_getElem? e) X a1 a2 a3 a4 a8⟩
theorem GmOk.up (g : GmOk P w K mg base k ⟨blt, glb, l, exs⟩) : GmOk P w K mg base (k + 1) ⟨blt, glb, l, exs⟩ :=
  ⟨fun j q e => by
    obtain ⟨f, fd, ps, F, r⟩ := g.fns j q e
    exact ⟨f, fd, ps, F.mono (Nat.le_succ k), r⟩, g.blt, g.glb, fun X j q a1 a2 a3 a4 a5 a6 a7 a8 a9 e => g.exs X j q a1 a2 a3 a4 a5 a6 a7 (a8.mono (Nat.le_succ k)) a9 e⟩
theorem gm_snoc {f : Addr} {x : Str} {params : Arguments} {body : List Stmt} {scope : Scope} {fd : FuncData} {N ps : List Str} {fx : List Nat} {sms : Sms} {F : FD} (g : GmOk P w K mg base k ⟨blt, glb, l, exs⟩) (D : FunD K x x params body scope [] [] f fd) (S : FnScope N ps scope)
    (hc : chkSs ⟨blt, glb, l, exs⟩ N scope sms body = true) (hm : mg x = some (.ref f)) (hb : Binds K fd ps []) (hF : F = runF N.length ps.length fx (dSs ⟨blt, glb, l, exs⟩ fx sms)) :
    GmOk P w K mg base (k + 1) ⟨blt, glb, l ++ [(x, F)], exs⟩ := by
  have nw := fnG_d (fx := fx) D S srtR g hc
  rw [← hF] at nw
  refine ⟨fun j q e => ?_, g.up.blt, g.up.glb, g.up.exs⟩
  by_cases h : j < l.length
  · exact g.up.fns j q (by rw [List.getElem?_append_left h] at e; exact e)
  · rw [List.getElem?_append_right (by omega)] at e
    have e0 : j - l.length = 0 := by
      cases z : j - l.length with
      | zero => rfl
      | succ n => rw [z] at e; cases e
    rw [e0] at e
    cases e
    exact ⟨f, fd, ps, nw, hm, D.kp, hb⟩
def gloB (K : PySem.W.Frag) (x : Str) : Bool := decide (PySem.W.nsIn K mainGlobals x = some (some (.ref (He.ga K x))))
theorem gloB_ok {h : Heap} {x : Str} (X : K.In h) (G : h.Ns mainGlobals mg) (c : gloB K x = true) : mg x = some (.ref (He.ga K x)) := PySem.W.mg_of X G (of_decide_eq_true c)
/-- all that is asked of the head but the texts -/
def exAll (blt : List Str) (glb : List (Str × PyData)) (fns : List Str) (rest : PySem.W.Frag → Bool) (K : PySem.W.Frag) : Bool := notL K && (blt.all (freeB K) && (glb.all (glbB K) && (fns.all (gloB K) && rest K)))
structure ExAll (blt : List Str) (glb : List (Str × PyData)) (fns : List Str) (rest : PySem.W.Frag → Bool) (K : PySem.W.Frag) : Prop where
  notL : notL K = true
  blt : ∀ x ∈ blt, freeB K x = true
  glb : ∀ q ∈ glb, glbB K q = true
  fns : ∀ x ∈ fns, gloB K x = true
  rest : rest K = true
theorem exAll_ok {fns : List Str} {rest : PySem.W.Frag → Bool} (h : exAll blt glb fns rest K = true) : ExAll blt glb fns rest K := by
  unfold exAll at h
  simp only [Bool.and_eq_true, List.all_eq_true] at h
  exact ⟨h.1, h.2.1, h.2.2.1, h.2.2.2.1, h.2.2.2.2⟩
theorem SaysX.def_ {fn : List He.DefD} {fi : List Str} {fv : List FnX} {ex : PySem.W.Frag → Bool} (c : SaysX fn fi fv ex K) (i : Nat) {d : He.DefD} (h : fn[i]? = some d) : ∃ fd, FunD K d.name d.qual d.params d.body d.scope (d.dvs K) (d.kws K) (He.fAd K d.at_) fd := c.fns.def_ i h
end
end Mb
end

section
set_option Elab.async false
set_option linter.all false
set_option maxRecDepth 100000
set_option maxHeartbeats 1000000
/-! Mb40: the meaning, step by step: rows for simp (where the environment stands as a list) -/
namespace Mb
open PySem PySem.Spec PyProof.Rows L2

theorem bind_ok {α β : Type} (a : α) (f : α → Res β) : (Res.ok a).bind f = f a := rfl
theorem bind_exc {α β : Type} (x : Exn) (e : Ev) (f : α → Res β) : (Res.exc x e).bind f = .exc x e := rfl
theorem bind_bad {α β : Type} (f : α → Res β) : (Res.bad).bind f = .bad := rfl
def opR : Option Ent → Ev → Res (Ent × Ev)
  | some e, ε => .ok (e, ε)
  | none, _ => .bad
theorem opR_some (e : Ent) (ε : Ev) : opR (some e) ε = .ok (e, ε) := rfl
theorem opR_none (ε : Ev) : opR none ε = .bad := rfl
def getR : Option (Option Ent) → Ev → Res (Ent × Ev)
  | some (some e), ε => .ok (e, ε)
  | _, _ => .bad
theorem getR_some (e : Ent) (ε : Ev) : getR (some (some e)) ε = .ok (e, ε) := rfl
def varR (i : Nat) : Option (Option Ent) → Ev → Res (Ent × Ev)
  | some (some (_, d)), ε => .ok ((0, d), ε.set i (some (0, d)))
  | _, _ => .bad
theorem varR_some (i n : Nat) (d : PyData) (ε : Ev) : varR i (some (some (n, d))) ε = .ok ((0, d), ε.set i (some (0, d))) := rfl
def truR : Option Bool → Ev → Res (Bool × Ev)
  | some b, ε => .ok (b, ε)
  | none, _ => .bad
theorem truR_some (b : Bool) (ε : Ev) : truR (some b) ε = .ok (b, ε) := rfl
def boolR : PyData → Ev → Res (Bool × Ev)
  | .bool b, ε => .ok (b, ε)
  | _, _ => .bad
theorem boolR_bool (b : Bool) (ε : Ev) : boolR (.bool b) ε = .ok (b, ε) := rfl

section
variable (o : Option Ent) (ε : Ev) (f g h : Ev → Res (Ent × Ev)) (F F' : List Ent → Option Ent) (U : Ent → Option Ent) (hs : Ev → Res (List Ent × Ev)) (m m2 m3 : Bool) (i : Nat) (c c' : Ev → Res (Bool × Ev)) (b b' : Ev → Res (Fl × Ev)) (fx is : List Nat)
theorem e_var : fVar i (o :: ε) = varR i ((o :: ε)[i]?) (o :: ε) := by
  unfold fVar varR
  generalize (o :: ε)[i]? = z
  cases z with
  | none => rfl
  | some y => cases y <;> rfl
theorem e_varB : fVarB i (o :: ε) = getR ((o :: ε)[i]?) (o :: ε) := by
  unfold fVarB getR
  generalize (o :: ε)[i]? = z
  cases z with
  | none => rfl
  | some y => cases y <;> rfl
theorem e_lit (d : PyData) : fLit d (o :: ε) = .ok ((0, d), o :: ε) := rfl
theorem e_op : fOp F hs (o :: ε) = (hs (o :: ε)).bind fun q => opR (F q.1) q.2 := by
  unfold fOp
  cases hs (o :: ε) with
  | ok q => show _ = opR (F q.1) q.2; dsimp only [Res.bind]; cases F q.1 <;> rfl
  | exc x e => rfl
  | bad => rfl
theorem e_op2 : fOp2 F m2 f g (o :: ε) = (f (o :: ε)).bind fun q => if q.1.1 = 0 ∨ m2 = false then (g q.2).bind fun r => opR (F [q.1, r.1]) r.2 else .bad := by
  unfold fOp2 fOp fCons fNil
  cases f (o :: ε) with
  | exc x e => rfl
  | bad => rfl
  | ok q =>
    dsimp only [Res.bind]
    by_cases c : q.1.1 = 0 ∨ m2 = false
    · rw [if_pos c, if_pos c]
      cases g q.2 with
      | ok r => dsimp only; rw [if_pos (.inr rfl)]; dsimp only; cases F [q.1, r.1] <;> rfl
      | exc x e => rfl
      | bad => rfl
    · rw [if_neg c, if_neg c]
theorem e_cons : fCons m2 f hs (o :: ε) = (f (o :: ε)).bind fun q => if q.1.1 = 0 ∨ m2 = false then (hs q.2).bind fun r => .ok (q.1 :: r.1, r.2) else .bad := rfl
theorem e_nil : fNil (o :: ε) = .ok ([], o :: ε) := rfl
theorem e_frz : frzR f (o :: ε) = (f (o :: ε)).bind fun q => .ok ((0, q.1.2), q.2) := rfl
theorem e_tru : fTru f (o :: ε) = (f (o :: ε)).bind fun q => truR (tru q.1.2) q.2 := by
  unfold fTru
  cases f (o :: ε) with
  | ok q => dsimp only [Res.bind]; cases tru q.1.2 <;> rfl
  | exc x e => rfl
  | bad => rfl
theorem e_bool : fBool f (o :: ε) = (f (o :: ε)).bind fun q => boolR q.1.2 q.2 := by
  unfold fBool
  cases f (o :: ε) with
  | ok q => dsimp only [Res.bind]; cases q.1.2 <;> rfl
  | exc x e => rfl
  | bad => rfl
theorem e_andT : fAndT c c' (o :: ε) = (c (o :: ε)).bind fun q => if q.1 = true then c' q.2 else .ok (false, q.2) := rfl
theorem e_orT : fOrT c c' (o :: ε) = (c (o :: ε)).bind fun q => if q.1 = true then .ok (true, q.2) else c' q.2 := rfl
theorem e_notT : fNotT c (o :: ε) = (c (o :: ε)).bind fun q => .ok (!q.1, q.2) := rfl
def andR (q : Ent) (k : Ev → Res (Ent × Ev)) : Option Bool → Ev → Res (Ent × Ev)
  | some true, ε => k ε
  | some false, ε => .ok (q, ε)
  | none, _ => .bad
def orR (q : Ent) (k : Ev → Res (Ent × Ev)) : Option Bool → Ev → Res (Ent × Ev)
  | some true, ε => .ok (q, ε)
  | some false, ε => k ε
  | none, _ => .bad
theorem andR_some (q : Ent) (k : Ev → Res (Ent × Ev)) (b : Bool) (ε : Ev) : andR q k (some b) ε = if b = true then k ε else .ok (q, ε) := by cases b <;> rfl
theorem orR_some (q : Ent) (k : Ev → Res (Ent × Ev)) (b : Bool) (ε : Ev) : orR q k (some b) ε = if b = true then .ok (q, ε) else k ε := by cases b <;> rfl
theorem e_and : fAnd f g (o :: ε) = (frzR f (o :: ε)).bind fun q => andR q.1 g (tru q.1.2) q.2 := by
  unfold fAnd
  cases frzR f (o :: ε) with
  | ok q => dsimp only [Res.bind]; cases h : tru q.1.2 with | none => rfl | some b => cases b <;> rfl
  | exc x e => rfl
  | bad => rfl
theorem e_or : fOr f g (o :: ε) = (frzR f (o :: ε)).bind fun q => orR q.1 g (tru q.1.2) q.2 := by
  unfold fOr
  cases frzR f (o :: ε) with
  | ok q => dsimp only [Res.bind]; cases h : tru q.1.2 with | none => rfl | some b => cases b <;> rfl
  | exc x e => rfl
  | bad => rfl
theorem e_not : fNot f (o :: ε) = (f (o :: ε)).bind fun q => (truR (tru q.1.2) q.2).bind fun r => .ok ((0, .bool (!r.1)), r.2) := by
  unfold fNot
  cases f (o :: ε) with
  | ok q => dsimp only [Res.bind]; cases h : tru q.1.2 <;> rfl
  | exc x e => rfl
  | bad => rfl
theorem e_if {β : Type} (f g : Ev → Res (β × Ev)) : fIf c f g (o :: ε) = (c (o :: ε)).bind fun q => if q.1 = true then f q.2 else g q.2 := rfl
theorem e_un : fUn U f (o :: ε) = (f (o :: ε)).bind fun q => opR (U q.1) q.2 := by
  unfold fUn
  cases f (o :: ε) with
  | ok q => dsimp only [Res.bind]; cases U q.1 <;> rfl
  | exc x e => rfl
  | bad => rfl
theorem e_m1 : fM1 F m2 f g (o :: ε) = (f (o :: ε)).bind fun q => if isS q.1.2 = true ∧ (q.1.1 = 0 ∨ m2 = false) then (g q.2).bind fun r => opR (F [q.1, r.1]) r.2 else .bad := by
  unfold fM1
  cases f (o :: ε) with
  | ok q =>
    dsimp only [Res.bind]
    by_cases c : isS q.1.2 = true ∧ (q.1.1 = 0 ∨ m2 = false)
    · rw [if_pos c, if_pos c]
      cases g q.2 with
      | ok r => dsimp only; cases F [q.1, r.1] <;> rfl
      | exc x e => rfl
      | bad => rfl
    · rw [if_neg c, if_neg c]
  | exc x e => rfl
  | bad => rfl
def partR : PyData → Ev → Res (Option Int × Ev)
  | .int i, ε => .ok (some i, ε)
  | _, _ => .bad
theorem partR_int (j : Int) (ε : Ev) : partR (.int j) ε = .ok (some j, ε) := rfl
theorem e_noPart : fNoPart (o :: ε) = .ok (none, o :: ε) := rfl
theorem e_part : fPart f (o :: ε) = (f (o :: ε)).bind fun q => partR q.1.2 q.2 := by
  unfold fPart
  cases f (o :: ε) with
  | ok q => dsimp only [Res.bind]; cases q.1.2 <;> rfl
  | exc x e => rfl
  | bad => rfl
theorem e_sl (S : Ent → Option Int → Option Int → Option Ent) (lo hi : Ev → Res (Option Int × Ev)) : fSl S m2 m3 f lo hi (o :: ε) = (f (o :: ε)).bind fun q => if q.1.1 = 0 ∨ (m2 || m3) = false then (lo q.2).bind fun l => (hi l.2).bind fun u => opR (S q.1 l.1 u.1) u.2 else .bad := by
  unfold fSl
  cases f (o :: ε) with
  | ok q =>
    dsimp only [Res.bind]
    by_cases c : q.1.1 = 0 ∨ (m2 || m3) = false
    · rw [if_pos c, if_pos c]
      cases lo q.2 with
      | ok l =>
        dsimp only
        cases hi l.2 with
        | ok u => dsimp only; cases S q.1 l.1 u.1 <;> rfl
        | exc x e => rfl
        | bad => rfl
      | exc x e => rfl
      | bad => rfl
    · rw [if_neg c, if_neg c]
  | exc x e => rfl
  | bad => rfl
theorem e_only0 : only0 f (o :: ε) = (f (o :: ε)).bind fun q => if q.1.1 = 0 then .ok q else .bad := rfl
theorem e_ixV : fIxV i F g (o :: ε) = (getR ((o :: ε)[i]?) (o :: ε)).bind fun _ => (g (o :: ε)).bind fun q => ixVR F q.1 q.2[i]? q.2 := by
  unfold fIxV getR
  generalize (o :: ε)[i]? = z
  cases z with
  | none => rfl
  | some y => cases y <;> rfl
theorem ixVR_some (q e : Ent) (ε : Ev) : ixVR F q (some (some e)) ε = opR (F [e, q]) ε := by
  unfold ixVR
  dsimp only
  cases F [e, q] <;> rfl
def chR (y : Ent) (F' : List Ent → Option Ent) (h : Ev → Res (Ent × Ev)) : Option Ent → Ev → Res (Ent × Ev)
  | some (0, .bool k), ε => if k = true then (h ε).bind fun w => opR (F' [y, w.1]) w.2 else .ok ((0, .bool false), ε)
  | _, _ => .bad
theorem chR_bool (y : Ent) (k : Bool) : chR y F' h (some (0, .bool k)) ε = if k = true then (h ε).bind fun w => opR (F' [y, w.1]) w.2 else .ok ((0, .bool false), ε) := rfl
theorem e_chain : fChain F F' f g h (o :: ε) = (f (o :: ε)).bind fun x => (g x.2).bind fun y => chR y.1 F' h (F [x.1, y.1]) y.2 := by
  unfold fChain chR
  cases f (o :: ε) with
  | ok x =>
    dsimp only [Res.bind]
    cases g x.2 with
    | ok y =>
      dsimp only
      generalize F [x.1, y.1] = z
      cases z with
      | none => rfl
      | some w =>
        obtain ⟨n, d⟩ := w
        cases n with
        | succ n => rfl
        | zero =>
          cases d with
          | bool k =>
            cases k with
            | false => rfl
            | true =>
              show ((h y.2).bind fun w => match F' [y.1, w.1] with | some e => .ok (e, w.2) | none => .bad) = (h y.2).bind fun w => opR (F' [y.1, w.1]) w.2
              congr 1
              funext w
              cases F' [y.1, w.1] <;> rfl
          | _ => rfl
    | exc x e => rfl
    | bad => rfl
  | exc x e => rfl
  | bad => rfl
def strR (k : Str → Ev → Res (Str × Ev)) (acc : Str) : PyData → Ev → Res (Str × Ev)
  | .str y, ε => if (acc ++ y).length ≤ LIM then k (acc ++ y) ε else .bad
  | _, _ => .bad
theorem strR_str (k : Str → Ev → Res (Str × Ev)) (acc y : Str) (ε : Ev) : strR k acc (.str y) ε = if (acc ++ y).length ≤ LIM then k (acc ++ y) ε else .bad := rfl
theorem e_jnil (acc : Str) : fJ [] acc (o :: ε) = .ok (acc, o :: ε) := rfl
theorem e_jcons (q : Bool × (Ev → Res (Ent × Ev))) (fs : List (Bool × (Ev → Res (Ent × Ev)))) (acc : Str) : fJ (q :: fs) acc (o :: ε) = (q.2 (o :: ε)).bind fun r => strR (fJ fs) acc r.1.2 r.2 := by
  show ((q.2 (o :: ε)).bind fun q => match q.1.2 with | .str y => if (acc ++ y).length ≤ LIM then fJ fs (acc ++ y) q.2 else .bad | _ => .bad) = _
  cases q.2 (o :: ε) with
  | ok r => dsimp only [Res.bind]; cases r.1.2 <;> rfl
  | exc x e => rfl
  | bad => rfl
theorem e_str (fs : List (Bool × (Ev → Res (Ent × Ev)))) : fStr fs (o :: ε) = (fJ fs Str.empty (o :: ε)).bind fun q => .ok ((0, .str q.1), q.2) := rfl
/-! calls -/
theorem e_cnil : cNil (o :: ε) = .ok ([], o :: ε) := rfl
theorem e_cval (gs : Ev → Res (List Ag × Ev)) : cVal f gs (o :: ε) = (frzR f (o :: ε)).bind fun q => (gs q.2).bind fun r => .ok (.val q.1.2 :: r.1, r.2) := rfl
theorem e_cown (gs : Ev → Res (List Ag × Ev)) : cOwn i gs (o :: ε) = (getR ((o :: ε)[i]?) (o :: ε)).bind fun _ => (gs (o :: ε)).bind fun r => .ok (.own i :: r.1, r.2) := by
  unfold cOwn getR
  generalize (o :: ε)[i]? = z
  cases z with
  | none => rfl
  | some y => cases y <;> rfl
def callR (G : FD) : Option (List Ent) → Ev → Res (Ent × Ev)
  | some as, ε => match G as with
    | .ok e _ => .ok (e, ε)
    | .exc x => .exc x ε
    | .bad => .bad
  | none, _ => .bad
theorem e_callV (G : FD) (gs : Ev → Res (List Ag × Ev)) : fCallV G gs (o :: ε) = (gs (o :: ε)).bind fun q => if q.1.all isV = true then callR G (getA q.2 q.1) q.2 else .bad := by
  unfold fCallV
  cases gs (o :: ε) with
  | ok q =>
    dsimp only [Res.bind]
    by_cases c : q.1.all isV = true
    · rw [if_pos c, if_pos c]; cases getA q.2 q.1 <;> rfl
    · rw [if_neg c, if_neg c]
  | exc x e => rfl
  | bad => rfl
def fresR (ε : Ev) : FRes → Res (Ent × Ev)
  | .ok e _ => .ok (e, ε)
  | .exc x => .exc x ε
  | .bad => .bad
theorem callR_some (G : FD) (as : List Ent) (ε : Ev) : callR G (some as) ε = fresR ε (G as) := by
  unfold callR fresR
  dsimp only
theorem fresR_ok (ε : Ev) (e : Ent) (ps : List (Option Ent)) : fresR ε (.ok e ps) = .ok (e, ε) := rfl
theorem fresR_exc (ε : Ev) (x : Exn) : fresR ε (.exc x) = .exc x ε := rfl
def ownR (G : FD) (ags : List Ag) (ε : Ev) : List (Nat × Nat) → Res (Ent × Ev)
  | [(k, i)] => match getA ε ags with
    | some as => match G as with
      | .ok e ps => .ok (e, ε.set i (ps[k]?).join)
      | _ => .bad
    | none => .bad
  | _ => .bad
theorem e_callO (G : FD) (gs : Ev → Res (List Ag × Ev)) : fCallO G gs (o :: ε) = (gs (o :: ε)).bind fun q => ownR G q.1 q.2 (owns 0 q.1) := by
  unfold fCallO ownR
  rfl
theorem ownR_one (G : FD) (ags : List Ag) (ε : Ev) (k i : Nat) (as : List Ent) (e : Ent) (ps : List (Option Ent)) (h1 : getA ε ags = some as) (h2 : G as = .ok e ps) : ownR G ags ε [(k, i)] = .ok (e, ε.set i (ps[k]?).join) := by
  unfold ownR
  dsimp only
  rw [h1]
  dsimp only
  rw [h2]
/-! loops' sources -/
def itR : Option (List PyData) → Ev → Res (List PyData × Ev)
  | some ds, ε => .ok (ds, ε)
  | none, _ => .bad
theorem itR_some (ds : List PyData) (ε : Ev) : itR (some ds) ε = .ok (ds, ε) := rfl
theorem e_in : fIn f (o :: ε) = (frzR f (o :: ε)).bind fun q => itR (itemsOf q.1.2) q.2 := by
  unfold fIn
  cases frzR f (o :: ε) with
  | ok q => dsimp only [Res.bind]; cases itemsOf q.1.2 <;> rfl
  | exc x e => rfl
  | bad => rfl
def rngR : PyData → Ev → Res (List PyData × Ev)
  | .int j, ε => if -B62 ≤ j ∧ j < B62 then .ok ((List.range j.toNat).map fun (k : Nat) => .int (0 + (k : Int)), ε) else .bad
  | _, _ => .bad
theorem e_rng1 : fRng1 f (o :: ε) = (frzR f (o :: ε)).bind fun q => rngR q.1.2 q.2 := by
  unfold fRng1
  cases frzR f (o :: ε) with
  | ok q => dsimp only [Res.bind]; cases q.1.2 <;> rfl
  | exc x e => rfl
  | bad => rfl
theorem rngR_int (j : Int) (ε : Ev) (h : -B62 ≤ j ∧ j < B62) : rngR (.int j) ε = .ok ((List.range j.toNat).map fun (k : Nat) => .int (k : Int), ε) := by
  show (if -B62 ≤ j ∧ j < B62 then _ else _) = _
  rw [if_pos h]
  simp only [Int.zero_add]
def enR : PyData → Ev → Res (List PyData × Ev)
  | .list ds, ε => .ok (ds.zipIdx.map fun q => .tuple [.int (q.2 : Nat), q.1], ε)
  | _, _ => .bad
theorem enR_list (ds : List PyData) (ε : Ev) : enR (.list ds) ε = .ok (ds.zipIdx.map fun q => .tuple [.int (q.2 : Nat), q.1], ε) := rfl
theorem e_enum : fEnum f (o :: ε) = (frzR f (o :: ε)).bind fun q => enR q.1.2 q.2 := by
  unfold fEnum
  cases frzR f (o :: ε) with
  | ok q => dsimp only [Res.bind]; cases q.1.2 <;> rfl
  | exc x e => rfl
  | bad => rfl
/-! statements -/
def seqR (k : Ev → Res (Fl × Ev)) : Res (Fl × Ev) → Res (Fl × Ev)
  | .ok (.next, ε) => k ε
  | r => r
theorem seqR_next (k : Ev → Res (Fl × Ev)) (ε : Ev) : seqR k (.ok (.next, ε)) = k ε := rfl
theorem seqR_brk (k : Ev → Res (Fl × Ev)) (ε : Ev) : seqR k (.ok (.brk, ε)) = .ok (.brk, ε) := rfl
theorem seqR_cont (k : Ev → Res (Fl × Ev)) (ε : Ev) : seqR k (.ok (.cont, ε)) = .ok (.cont, ε) := rfl
theorem seqR_ret (k : Ev → Res (Fl × Ev)) (e : Ent) (ε : Ev) : seqR k (.ok (.ret e, ε)) = .ok (.ret e, ε) := rfl
theorem seqR_exc (k : Ev → Res (Fl × Ev)) (x : Exn) (ε : Ev) : seqR k (.exc x ε) = .exc x ε := rfl
theorem seqR_bad (k : Ev → Res (Fl × Ev)) : seqR k .bad = .bad := rfl
theorem e_seq : fSeq b b' (o :: ε) = seqR b' (b (o :: ε)) := by
  unfold fSeq seqR
  cases b (o :: ε) with
  | ok q => obtain ⟨fl, e⟩ := q; cases fl <;> rfl
  | exc x e => rfl
  | bad => rfl
theorem e_asg : fAsg fx i f (o :: ε) = (f (o :: ε)).bind fun q => if fx.contains i then .bad else .ok (.next, q.2.set i (some q.1)) := rfl
theorem e_expr : fExpr f (o :: ε) = (f (o :: ε)).bind fun q => .ok (.next, q.2) := rfl
theorem e_ret : fRet f (o :: ε) = (f (o :: ε)).bind fun q => .ok (.ret q.1, q.2) := rfl
theorem e_retN : fRetN (o :: ε) = .ok (.ret (0, .none), o :: ε) := rfl
theorem e_next : fNext (o :: ε) = .ok (.next, o :: ε) := rfl
theorem e_brk : fBrk (o :: ε) = .ok (.brk, o :: ε) := rfl
theorem e_cont : fCont (o :: ε) = .ok (.cont, o :: ε) := rfl
theorem e_ifS : fIfS c b b' (o :: ε) = (c (o :: ε)).bind fun q => if q.1 = true then b q.2 else b' q.2 := rfl
theorem e_for (tg : Tgt) (src : Ev → Res (List PyData × Ev)) : fFor tg src b (o :: ε) = (src (o :: ε)).bind fun q => fLoop tg b q.1 q.2 := rfl
theorem e_par : fPar fx is hs (o :: ε) = (hs (o :: ε)).bind fun q => if q.1.length = is.length ∧ is.all (fun i => !fx.contains i) = true then .ok (.next, setEnts is q.1 q.2) else .bad := rfl
theorem e_ocons : oCons f hs (o :: ε) = (f (o :: ε)).bind fun q => (hs q.2).bind fun r => .ok (q.1 :: r.1, r.2) := rfl
def asgTR (fx is : List Nat) (q : Ent) (ε : Ev) : Res (Fl × Ev) := match q with
  | (0, .tuple ds) => if ds.length = is.length ∧ is.all (fun i => !fx.contains i) = true then .ok (.next, setAll is ds ε) else .bad
  | _ => .bad
theorem asgTR_tup (ds : List PyData) : asgTR fx is (0, .tuple ds) ε = if ds.length = is.length ∧ is.all (fun i => !fx.contains i) = true then .ok (.next, setAll is ds ε) else .bad := rfl
theorem e_asgT : fAsgT fx is f (o :: ε) = (f (o :: ε)).bind fun q => asgTR fx is q.1 q.2 := by
  unfold fAsgT asgTR
  cases f (o :: ε) with
  | ok q => rfl
  | exc x e => rfl
  | bad => rfl
def appR (i : Nat) (d : PyData) (z : Option (Option Ent)) (ε : Ev) : Res (Fl × Ev) := match z with
  | some (some (1, .list ds)) => if ds.length < LIM then .ok (.next, ε.set i (some (1, .list (ds ++ [d])))) else .bad
  | _ => .bad
theorem appR_list (d : PyData) (ds : List PyData) : appR i d (some (some (1, .list ds))) ε = if ds.length < LIM then .ok (.next, ε.set i (some (1, .list (ds ++ [d])))) else .bad := rfl
theorem e_app : fApp i f (o :: ε) = if isLst (o :: ε)[i]? = true then (frzR f (o :: ε)).bind fun q => appR i q.1.2 q.2[i]? q.2 else .bad := by
  unfold fApp
  by_cases c : isLst (o :: ε)[i]? = true
  · rw [if_pos c, if_pos c]
    cases frzR f (o :: ε) with
    | ok q => dsimp only [Res.bind]; unfold appR; rfl
    | exc x e => rfl
    | bad => rfl
  · rw [if_neg c, if_neg c]
theorem e_setL : fSetL i f g (o :: ε) = (frzR f (o :: ε)).bind fun q => (getR q.2[i]? q.2).bind fun _ => (g q.2).bind fun r => setLF q.1.2 i r := by
  unfold fSetL
  cases frzR f (o :: ε) with
  | ok q =>
    dsimp only [Res.bind]
    unfold getR
    generalize q.2[i]? = z
    cases z with
    | none => rfl
    | some y => cases y <;> rfl
  | exc x e => rfl
  | bad => rfl
theorem setLF_list (d : PyData) (m : Nat) (k : Int) (ds : List PyData) (j : Nat) (h1 : ε[i]? = some (some (1, .list ds))) (h2 : ixN ds.length k = some j) : setLF d i ((m, .int k), ε) = .ok (.next, ε.set i (some (1, .list (ds.set j d)))) := by
  unfold setLF
  simp only [h1, h2]
def raisR (F : List Ent → Option Exn) (as : List Ent) (ε : Ev) : Res (Fl × Ev) := match F as with
  | some x => .exc x ε
  | none => .bad
theorem e_rais (F : List Ent → Option Exn) : fRais F hs (o :: ε) = (hs (o :: ε)).bind fun q => raisR F q.1 q.2 := rfl
end
def finF (n : Nat) (fx : List Nat) : Res (Fl × Ev) → FRes
  | .ok (.ret e, ε) => .ok e (maskP fx n ε)
  | .ok (.next, ε) => .ok (0, .none) (maskP fx n ε)
  | .exc x _ => .exc x
  | _ => .bad
theorem e_run (N n : Nat) (fx : List Nat) (g : Ev → Res (Fl × Ev)) (as : List Ent) : runF N n fx g as = if as.length = n then finF n fx (g (as.map some ++ List.replicate (N - n) none)) else .bad := by
  unfold runF finF
  by_cases h : as.length = n
  · first
    | (rw [if_pos h, if_pos h]
       cases g (as.map some ++ List.replicate (N - n) none) with
       | ok q => obtain ⟨fl, ε⟩ := q; cases fl <;> rfl
       | exc x e => rfl
       | bad => rfl)
    | rw [if_pos h]
  · (first | rw [if_neg h, if_neg h] | rw [if_neg h])
theorem fin_ret (n : Nat) (fx : List Nat) (e : Ent) (ε : Ev) : finF n fx (.ok (.ret e, ε)) = .ok e (maskP fx n ε) := rfl
theorem fin_next (n : Nat) (fx : List Nat) (ε : Ev) : finF n fx (.ok (.next, ε)) = .ok (0, .none) (maskP fx n ε) := rfl
theorem fin_exc (n : Nat) (fx : List Nat) (x : Exn) (ε : Ev) : finF n fx (.exc x ε) = .exc x := rfl
end Mb
end

section
set_option Elab.async false
set_option linter.all false
set_option maxRecDepth 100000
set_option maxHeartbeats 1000000
/-! Mb41: what the operations give at data -/
namespace Mb
open PySem PySem.Spec PyProof.Rows L2
section
variable (n m : Nat) (a b : Int) (x y : Str) (ds es : List PyData) (d e : PyData)
theorem at_nat {α : Type} (l : List α) (k : Nat) : atI l (k : Int) = l[k]? := by
  unfold atI ixN
  rw [if_pos (Int.natCast_nonneg k)]
  by_cases h : (k : Int) < (l.length : Int)
  · rw [if_pos h]; simp
  · rw [if_neg h]
    simp only [Option.bind_none]
    rw [List.getElem?_eq_none (by omega)]
theorem at_0 {α : Type} (a : α) (l : List α) : atI (a :: l) 0 = some a := at_nat (a :: l) 0
theorem at_1 {α : Type} (a b : α) (l : List α) : atI (a :: b :: l) 1 = some b := at_nat (a :: b :: l) 1
theorem at_2 {α : Type} (a b c : α) (l : List α) : atI (a :: b :: c :: l) 2 = some c := at_nat (a :: b :: c :: l) 2
theorem at_3 {α : Type} (a b c d : α) (l : List α) : atI (a :: b :: c :: d :: l) 3 = some d := at_nat (a :: b :: c :: d :: l) 3
theorem at_last {α : Type} (l : List α) : atI l (-1) = l.getLast? := by
  unfold atI ixN
  rw [if_neg (by decide)]
  cases l with
  | nil => rfl
  | cons a r =>
    rw [if_pos (by simp; omega)]
    simp only [Option.bind_some]
    rw [List.getLast?_eq_getElem?]
    congr 1
    simp
    omega
theorem ix_l : ixF [(n, .list ds), (m, .int a)] = (atI ds a).map fun d => (n - 1, d) := rfl
theorem ix_t : ixF [(n, .tuple ds), (m, .int a)] = (atI ds a).map fun d => (0, d) := rfl
theorem ix_s : ixF [(n, .str x), (m, .int a)] = if x.length ≤ LIM then (atI x.cps.toList a).map fun c => (0, .str ⟨#[c]⟩) else none := rfl
theorem c_eq : COp.F .eq = cmpF okEq PyData.eqv := rfl
theorem eq_ii : cmpF okEq PyData.eqv [(n, .int a), (m, .int b)] = some (0, .bool (decide (a = b))) := by
  simp [cmpF, okEq, PyData.plain, PyData.depth, PyData.eqv]
  by_cases h : a = b <;> simp [h]
theorem ne_ii : cmpF okEq (fun a b => !PyData.eqv a b) [(n, .int a), (m, .int b)] = some (0, .bool (!decide (a = b))) := by
  simp [cmpF, okEq, PyData.plain, PyData.depth, PyData.eqv]
  by_cases h : a = b <;> simp [h]
theorem eq_ss : cmpF okEq PyData.eqv [(n, .str x), (m, .str y)] = some (0, .bool (decide (x = y))) := by
  simp [cmpF, okEq, PyData.plain, PyData.depth, PyData.eqv]
  by_cases h : x = y <;> simp [h]
theorem ne_ss : cmpF okEq (fun a b => !PyData.eqv a b) [(n, .str x), (m, .str y)] = some (0, .bool (!decide (x = y))) := by
  simp [cmpF, okEq, PyData.plain, PyData.depth, PyData.eqv]
  by_cases h : x = y <;> simp [h]
theorem eqvAll_nil (ds : List PyData) : PyData.eqvAll ds [] = ds.isEmpty := by cases ds <;> rfl
theorem eq_lnil (h : PyData.plainAll ds = true) : cmpF okEq PyData.eqv [(n, .list ds), (m, .list [])] = some (0, .bool ds.isEmpty) := by
  simp [cmpF, okEq, PyData.plain, PyData.plainAll, h, PyData.eqv, eqvAll_nil, PyData.depth, PyData.depthAll]
theorem ne_lnil (h : PyData.plainAll ds = true) : cmpF okEq (fun a b => !PyData.eqv a b) [(n, .list ds), (m, .list [])] = some (0, .bool (!ds.isEmpty)) := by
  simp [cmpF, okEq, PyData.plain, PyData.plainAll, h, PyData.eqv, eqvAll_nil, PyData.depth, PyData.depthAll]
theorem lt_ii : cmpF okLt PySem.W.dataLt [(n, .int a), (m, .int b)] = some (0, .bool (decide (a < b))) := by
  simp [cmpF, okLt, PyData.plain, PyData.depth, PySem.W.alike, PySem.W.dataLt_int]
theorem gt_ii : cmpF okLt (fun a b => PySem.W.dataLt b a) [(n, .int a), (m, .int b)] = some (0, .bool (decide (b < a))) := by
  simp [cmpF, okLt, PyData.plain, PyData.depth, PySem.W.alike, PySem.W.dataLt_int]
theorem le_ii : cmpF okLt (fun a b => !PySem.W.dataLt b a) [(n, .int a), (m, .int b)] = some (0, .bool (decide (a ≤ b))) := by
  simp [cmpF, okLt, PyData.plain, PyData.depth, PySem.W.alike, PySem.W.dataLt_int]
  by_cases h : a ≤ b <;> simp [h] <;> omega
theorem ge_ii : cmpF okLt (fun a b => !PySem.W.dataLt a b) [(n, .int a), (m, .int b)] = some (0, .bool (decide (b ≤ a))) := by
  simp [cmpF, okLt, PyData.plain, PyData.depth, PySem.W.alike, PySem.W.dataLt_int]
  by_cases h : b ≤ a <;> simp [h] <;> omega
theorem le_ss : cmpF okLt (fun a b => !PySem.W.dataLt b a) [(n, .str x), (m, .str y)] = some (0, .bool (leS x y)) := by
  have e : (!PySem.W.dataLt (.str y) (.str x)) = leS x y := by
    rw [PySem.W.dataLt_str]
    unfold leS
    rw [← decide_not]
    exact decide_eq_decide.mpr List.not_lt
  show (if okLt (.str x) (.str y) = true then some (0, PyData.bool (!PySem.W.dataLt (.str y) (.str x))) else none) = _
  rw [e, if_pos (by simp [okLt, PyData.plain, PyData.depth, PySem.W.alike])]
theorem sub_ii (C : Int → Int → Bool) (g : Int → Int → Int) : intF C g [(n, .int a), (m, .int b)] = if C a b = true then some (0, .int (g a b)) else none := rfl
theorem add_ii : addF [(n, .int a), (m, .int b)] = some (0, .int (a + b)) := rfl
theorem add_ss : addF [(n, .str x), (m, .str y)] = if x.length + y.length ≤ LIM then some (0, .str (x ++ y)) else none := rfl
theorem add_ll : addF [(n, .list ds), (m, .list es)] = if n ≤ 1 ∧ m ≤ 1 ∧ ds.length + es.length ≤ LIM then some (1, .list (ds ++ es)) else none := rfl
theorem add_tt : addF [(n, .tuple ds), (m, .tuple es)] = if ds.length + es.length ≤ LIM then some (0, .tuple (ds ++ es)) else none := rfl
theorem len_s : lenF [(n, .str x)] = if x.length ≤ LIM then some (0, .int x.length) else none := rfl
theorem len_l : lenF [(n, .list ds)] = some (0, .int ds.length) := rfl
theorem len_t : lenF [(n, .tuple ds)] = some (0, .int ds.length) := rfl
theorem int_i : intFn [(n, .int a)] = some (0, .int a) := rfl
theorem abs_i : absF [(n, .int a)] = some (0, .int (if a < 0 then -a else a)) := rfl
theorem str_i : strFn [(n, .int a)] = if a.natAbs.log2 < 1920 then some (0, .str (toString a)) else none := rfl
theorem tup_l : tupFn [(n, .list ds)] = if n ≤ 1 then some (0, .tuple ds) else none := rfl
theorem tup_t : tupFn [(n, .tuple ds)] = some (0, .tuple ds) := rfl
theorem lst_neg : negF (n, .int a) = some (0, .int (-a)) := rfl
theorem all_l (any : Bool) : allFn any [(n, .list ds)] = if n ≤ 1 then (boolsOf ds).map fun bs => (0, .bool (if any then bs.any id else bs.all id)) else none := rfl
theorem split_s : splitF [(n, .str x), (m, .str y)] = if y.length ≠ 0 ∧ x.length + 2 ≤ LIM then some (1, .list ((Txt.split x y).map PyData.str)) else none := rfl
theorem part_s : partF [(n, .str x), (m, .str y)] = if y.length ≠ 0 ∧ x.length ≤ LIM then some (0, .tuple [.str (Txt.partition x y).1, .str (Txt.partition x y).2.1, .str (Txt.partition x y).2.2]) else none := rfl
theorem join_s : joinF [(n, .str x), (m, d)] = (seqOf (m, d)).bind fun ds => (strsOf ds).bind fun ys => if (ys.map (·.length)).sum + ys.length * x.length ≤ LIM then some (0, .str (Txt.join x ys)) else none := rfl
theorem seq_l : seqOf (n, .list ds) = if n ≤ 1 then some ds else none := rfl
theorem seq_t : seqOf (n, .tuple ds) = some ds := rfl
theorem sl_s (lo hi : Option Int) : slF (n, .str x) lo hi = if x.length ≤ LIM then some (0, .str (cutS x lo hi)) else none := rfl
theorem sl_l (lo hi : Option Int) : slF (n, .list ds) lo hi = if n ≤ 1 then some (1, .list (cutD ds lo hi)) else none := rfl
theorem sl_t (lo hi : Option Int) : slF (n, .tuple ds) lo hi = some (0, .tuple (cutD ds lo hi)) := rfl
theorem fmt_s : fmtF (n, .str x) = if x.length ≤ LIM then some (0, .str x) else none := rfl
theorem fmt_i : fmtF (n, .int a) = if a.natAbs.log2 < 1920 then some (0, .str (toString a)) else none := rfl
theorem repr_d : reprFn [(n, d)] = if d.plain && d.showable && decide (d.depth ≤ 60) && decide (d.shown.length ≤ LIM) then some (0, .str d.shown) else none := rfl
theorem in_t (neg : Bool) (q : Ent) : inF neg [q, (m, .tuple ds)] = if q.2.plain && PyData.plainAll ds && decide (min (PyData.depthAll ds) q.2.depth ≤ 60) then some (0, .bool (xor neg (ds.any fun y => PyData.eqv y q.2))) else none := rfl
theorem in_l (neg : Bool) (q : Ent) : inF neg [q, (m, .list ds)] = if q.2.plain && PyData.plainAll ds && decide (min (PyData.depthAll ds) q.2.depth ≤ 60) then some (0, .bool (xor neg (ds.any fun y => PyData.eqv y q.2))) else none := rfl
theorem zer_nil : zeros [] = some [] := rfl
theorem zer_cons (d : PyData) (r : List Ent) : zeros ((0, d) :: r) = (zeros r).map (d :: ·) := rfl
theorem tupD_of {as : List Ent} {ds : List PyData} (h : zeros as = some ds) (hl : ds.length ≤ LIM) : tupD as = some (0, .tuple ds) := by
  unfold tupD
  rw [h]
  exact if_pos hl
theorem lstD_of {as : List Ent} {ds : List PyData} (h : zeros as = some ds) (hl : ds.length ≤ LIM) : lstD as = some (1, .list ds) := by
  unfold lstD
  rw [h]
  exact if_pos hl
theorem isi_str : isiF "str" (n, d) = if d.plain = true then some (0, .bool d.isStr) else none := rfl
theorem isi_tup : isiF "tuple" (n, d) = if d.plain = true then some (0, .bool d.isTuple) else none := rfl
theorem isi_int : isiF "int" (n, d) = if d.plain = true then some (0, .bool d.isInt) else none := rfl
theorem tru_bool (b : Bool) : tru (.bool b) = some b := rfl
theorem tru_int : tru (.int a) = some (a != 0) := rfl
theorem tru_list : tru (.list ds) = some (!ds.isEmpty) := rfl
theorem tru_tup : tru (.tuple ds) = some (!ds.isEmpty) := rfl
theorem get_nil (ε : Ev) : getA ε [] = some [] := rfl
theorem get_val (ε : Ev) (r : List Ag) : getA ε (.val d :: r) = (getA ε r).map ((0, d) :: ·) := rfl
theorem get_own (ε : Ev) (i : Nat) (r : List Ag) : getA ε (.own i :: r) = match ε[i]? with | some (some e) => (getA ε r).map (e :: ·) | _ => none := rfl
theorem owns_n (k : Nat) : owns k [] = [] := rfl
theorem owns_v (k : Nat) (r : List Ag) : owns k (.val d :: r) = owns (k + 1) r := rfl
theorem owns_o (k i : Nat) (r : List Ag) : owns k (.own i :: r) = (k, i) :: owns (k + 1) r := rfl
/-! the store of a draw -/
theorem setLF_1 (a b c e d : PyData) (m : Nat) (ε : Ev) : setLF d 0 ((m, .int 1), some (1, .list [a, b, c, e]) :: ε) = .ok (.next, some (1, .list [a, d, c, e]) :: ε) := rfl
theorem setLF_2 (a b c e d : PyData) (m : Nat) (ε : Ev) : setLF d 0 ((m, .int 2), some (1, .list [a, b, c, e]) :: ε) = .ok (.next, some (1, .list [a, b, d, e]) :: ε) := rfl
theorem setLF_3 (a b c e d : PyData) (m : Nat) (ε : Ev) : setLF d 0 ((m, .int 3), some (1, .list [a, b, c, e]) :: ε) = .ok (.next, some (1, .list [a, b, c, d]) :: ε) := rfl
end
end Mb
end

section
set_option Elab.async false
set_option linter.all false
set_option maxRecDepth 100000
set_option maxHeartbeats 4000000
/-! Mb42: the defs that every law has: the draw, numbers taken from it, sameness -/
namespace Mb
open PySem PySem.Spec PyProof.Rows L2

def bDraw : Sms :=
  (.cons (.asg 1 (.int 7))
  (.cons (.forr (.nm 2) (.inn (.var 0))
    (.cons (.asg 1 (.bin .mod (.bi .int (.bin .add (.bin .add (.bin .mul (.var 1) (.int 48271)) (.bin .mod (.bi .abs (.bi .int (.var 2))) (.int 65521))) (.int 1))) (.int 2147483647)))
    .nil))
  (.cons (.ret (.lst (.cons (.comp [("cell", 2)] (.nm 2) (.inn (.var 0)) .no (.bi .abs (.bi .int (.var 2)))) (.cons (.neg (.int 1)) (.cons (.int 0) (.cons (.var 1) .nil))))))
  .nil)))
def bTake : Sms :=
  (.cons (.ite (.cmp .eq (.idx (.var 0) (.int 2)) (.int 0))
    (.cons (.setL 0 (.int 1) (.bin .add (.idx (.var 0) (.int 1)) (.int 1)))
    (.cons (.ite (.cmp .lt (.idx (.var 0) (.int 1)) (.bi .len (.idx (.var 0) (.int 0))))
      (.cons (.setL 0 (.int 2) (.idx (.idx (.var 0) (.int 0)) (.idx (.var 0) (.int 1))))
      .nil)
      .nil)
    (.cons (.ite (.cmp .eq (.idx (.var 0) (.int 2)) (.int 0))
      (.cons (.setL 0 (.int 3) (.bin .mod (.bi .int (.bin .add (.bin .mul (.idx (.var 0) (.int 3)) (.int 48271)) (.int 11))) (.int 2147483647)))
      (.cons (.setL 0 (.int 2) (.idx (.var 0) (.int 3)))
      .nil))
      .nil)
    .nil)))
    .nil)
  (.cons (.asg 2 (.bin .mod (.bi .int (.idx (.var 0) (.int 2))) (.var 1)))
  (.cons (.setL 0 (.int 2) (.bin .div (.idx (.var 0) (.int 2)) (.var 1)))
  (.cons (.ret (.var 2))
  .nil))))
def bSame : Sms :=
  (.cons (.ret (.and (.cmp .eq (.var 0) (.var 1)) (.cmp .eq (.bi .repr (.var 0)) (.bi .repr (.var 1)))))
  .nil)

/-- a draw as it may stand -/
structure DrawOk (d : PyData) : Prop where
  ex : ∃ (cs : List Int) (i a s : Int), d = .list [.list (cs.map PyData.int), .int i, .int a, .int s] ∧ -1 ≤ i ∧ 0 ≤ a ∧ 0 ≤ s ∧ s < 2147483647 ∧ ∀ c ∈ cs, 0 ≤ c
theorem mulOk {s : Int} (h1 : 0 ≤ s) (h2 : s < 2147483647) : mulC s 48271 = true := by
  unfold mulC
  rw [decide_eq_true_eq]
  have : s.natAbs < 2 ^ 31 := by omega
  have l : s.natAbs.log2 < 31 := by
    by_cases z : s.natAbs = 0
    · rw [z]; decide
    · exact (Nat.log2_lt z).mpr this
  have : (48271 : Int).natAbs.log2 = 15 := by decide
  omega
/-- the rest of a turn, once the digits stand -/
theorem take_end (Γ : Gm) (cs : List PyData) (i a s m : Int) (hm : 0 < m) (hl : m.natAbs.log2 < 9000) :
    seqR (dSs Γ [0] (.cons (.setL 0 (.int 2) (.bin .div (.idx (.var 0) (.int 2)) (.var 1))) (.cons (.ret (.var 2)) .nil))) (dS Γ [0] (.asg 2 (.bin .mod (.bi .int (.idx (.var 0) (.int 2))) (.var 1))) [some (1, .list [.list cs, .int i, .int a, .int s]), some (0, .int m), none]) =
      .ok (.ret (0, .int (a % m)), [some (1, .list [.list cs, .int i, .int (a / m), .int s]), some (0, .int m), some (0, .int (a % m))]) := by
  have d1 : divC a m = true := by unfold divC; rw [decide_eq_true_eq]; exact ⟨hm, hl⟩
  have d2 : (decide (0 < m)) = true := decide_eq_true hm
  simp only [dSs, dS, den, denV, Den.val, BOp.F, Bi.F, bind_ok, opR_some, getR_some, varR_some, e_var, e_varB, e_lit, e_op, e_op2, e_cons, e_nil, e_frz, e_seq, e_asg, e_ret, e_setL, e_next, seqR_next, seqR_ret,
    List.getElem?_cons_zero, List.getElem?_cons_succ, List.set_cons_zero, List.set_cons_succ, Bool.or_false, Bool.false_or, or_true, true_or, if_true, ix_l, at_2, Option.map_some, int_i, sub_ii, d1, d2, setLF_2, List.contains_cons, List.contains_nil, Nat.reduceBEq, Bool.or_self, Bool.false_eq_true, if_false]
theorem take_ok (Γ : Gm) {d : PyData} {m : Int} (hd : DrawOk d) (hm : 0 < m) (hl : m.natAbs.log2 < 9000) :
    ∃ (r : Int) (d' : PyData), runF 3 2 [0] (dSs Γ [0] bTake) [(1, d), (0, .int m)] = .ok (0, .int r) [some (1, d'), none] ∧ DrawOk d' ∧ 0 ≤ r ∧ r < m := by
  obtain ⟨cs, i, a, s, rfl, hi, ha, hs0, hs1, hc⟩ := hd
  have fin : ∀ (i a s : Int), -1 ≤ i → 0 ≤ a → 0 ≤ s → s < 2147483647 → ∀ z, z = seqR (dSs Γ [0] (.cons (.setL 0 (.int 2) (.bin .div (.idx (.var 0) (.int 2)) (.var 1))) (.cons (.ret (.var 2)) .nil))) (dS Γ [0] (.asg 2 (.bin .mod (.bi .int (.idx (.var 0) (.int 2))) (.var 1))) [some (1, .list [.list (cs.map PyData.int), .int i, .int a, .int s]), some (0, .int m), none]) →
      ∃ (r : Int) (d' : PyData), finF 2 [0] z = .ok (0, .int r) [some (1, d'), none] ∧ DrawOk d' ∧ 0 ≤ r ∧ r < m := by
    intro i a s h1 h2 h3 h4 z hz
    rw [take_end Γ _ i a s m hm hl] at hz
    subst hz
    exact ⟨a % m, _, rfl, ⟨cs, i, a / m, s, rfl, h1, Int.ediv_nonneg h2 (Int.le_of_lt hm), h3, h4, hc⟩, Int.emod_nonneg _ (by omega), Int.emod_lt_of_pos _ hm⟩
  have mo := mulOk hs0 hs1
  unfold bTake
  simp only [e_run, List.length_cons, List.length_nil, if_true, List.map_cons, List.map_nil, List.cons_append, List.nil_append, List.replicate_succ, List.replicate_zero, Nat.reduceSub, Nat.reduceAdd]
  by_cases h0 : a = 0
  · subst h0
    have sn : ∀ s : Int, 0 ≤ (s * 48271 + 11) % 2147483647 ∧ (s * 48271 + 11) % 2147483647 < 2147483647 := fun s => ⟨Int.emod_nonneg _ (by decide), Int.emod_lt_of_pos _ (by decide)⟩
    by_cases h1 : i + 1 < (cs.length : Int)
    · obtain ⟨k, hk⟩ : ∃ k : Nat, i + 1 = (k : Int) := ⟨(i + 1).toNat, by omega⟩
      have hk2 : k < cs.length := by omega
      have at1 : atI (cs.map PyData.int) (i + 1) = some (.int cs[k]) := by
        rw [hk, at_nat, List.getElem?_map, List.getElem?_eq_getElem hk2]
        rfl
      have c0 : 0 ≤ cs[k] := hc _ (List.getElem_mem hk2)
      by_cases h2 : cs[k] = 0
      · refine fin (i + 1) ((s * 48271 + 11) % 2147483647) ((s * 48271 + 11) % 2147483647) (by omega) (sn s).1 (sn s).1 (sn s).2 _ ?_
        simp only [dSs, dS, den, denV, Den.val, BOp.F, COp.F, Bi.F, bind_ok, opR_some, getR_some, varR_some, boolR_bool, e_var, e_varB, e_lit, e_op, e_op2, e_cons, e_nil, e_frz, e_seq, e_ifS, e_bool, e_next, e_setL, e_only0, seqR_next,
          List.getElem?_cons_zero, List.getElem?_cons_succ, Bool.or_false, Bool.false_or, or_true, true_or, if_true, ix_l, at_0, at_1, at_2, at_3, Option.map_some, eq_ii, lt_ii, add_ii, len_l, int_i, sub_ii, mo, decide_true, List.length_map, h1, h2, at1, setLF_1, setLF_2, setLF_3, Nat.sub_self]
        rfl
      · refine fin (i + 1) cs[k] s (by omega) c0 hs0 hs1 _ ?_
        simp only [dSs, dS, den, denV, Den.val, BOp.F, COp.F, Bi.F, bind_ok, opR_some, getR_some, varR_some, boolR_bool, e_var, e_varB, e_lit, e_op, e_op2, e_cons, e_nil, e_frz, e_seq, e_ifS, e_bool, e_next, e_setL, e_only0, seqR_next,
          List.getElem?_cons_zero, List.getElem?_cons_succ, Bool.or_false, Bool.false_or, or_true, true_or, if_true, ix_l, at_0, at_1, at_2, at_3, Option.map_some, eq_ii, lt_ii, add_ii, len_l, int_i, sub_ii, mo, decide_true, List.length_map, h1, h2, at1, setLF_1, setLF_2, setLF_3, Nat.sub_self, decide_false, Bool.false_eq_true, if_false]
    · refine fin (i + 1) ((s * 48271 + 11) % 2147483647) ((s * 48271 + 11) % 2147483647) (by omega) (sn s).1 (sn s).1 (sn s).2 _ ?_
      simp only [dSs, dS, den, denV, Den.val, BOp.F, COp.F, Bi.F, bind_ok, opR_some, getR_some, varR_some, boolR_bool, e_var, e_varB, e_lit, e_op, e_op2, e_cons, e_nil, e_frz, e_seq, e_ifS, e_bool, e_next, e_setL, e_only0, seqR_next,
        List.getElem?_cons_zero, List.getElem?_cons_succ, Bool.or_false, Bool.false_or, or_true, true_or, if_true, ix_l, at_0, at_1, at_2, at_3, Option.map_some, eq_ii, lt_ii, add_ii, len_l, int_i, sub_ii, mo, decide_true, List.length_map, h1, setLF_1, setLF_2, setLF_3, Nat.sub_self, decide_false, Bool.false_eq_true, if_false]
      rfl
  · refine fin i a s hi ha hs0 hs1 _ ?_
    simp only [dSs, dS, den, denV, Den.val, BOp.F, COp.F, Bi.F, bind_ok, opR_some, getR_some, varR_some, boolR_bool, e_var, e_varB, e_lit, e_op, e_op2, e_cons, e_nil, e_frz, e_seq, e_ifS, e_bool, e_next, seqR_next,
      List.getElem?_cons_zero, List.getElem?_cons_succ, Bool.or_false, Bool.false_or, or_true, true_or, if_true, ix_l, at_2, Option.map_some, eq_ii, h0, decide_false, Bool.false_eq_true, if_false]
end Mb
end

section
set_option Elab.async false
set_option linter.all false
set_option maxRecDepth 100000
set_option maxHeartbeats 4000000
/-! Mb43: loops and comprehensions, plainly; the draw -/
namespace Mb
open PySem PySem.Spec PyProof.Rows L2

/-- a loop that keeps I -/
theorem loop_inv {tg : Tgt} {b : Ev → Res (Fl × Ev)} {I : Ev → Prop} : ∀ (its : List PyData) (ε : Ev), (∀ d ∈ its, ∀ ε, I ε → ∃ ε1 ε2, tg.put d ε = some ε1 ∧ b ε1 = .ok (.next, ε2) ∧ I ε2) → I ε → ∃ ε', fLoop tg b its ε = .ok (.next, ε') ∧ I ε'
  | [], ε, _, i => ⟨ε, rfl, i⟩
  | d :: its, ε, h, i => by
    obtain ⟨ε1, ε2, h1, h2, i2⟩ := h d List.mem_cons_self ε i
    obtain ⟨ε', e, i'⟩ := loop_inv its ε2 (fun d hd => h d (List.mem_cons_of_mem _ hd)) i2
    refine ⟨ε', ?_, i'⟩
    show (match tg.put d ε with | some ε1 => (match b ε1 with | .ok (.next, ε2) => fLoop tg b its ε2 | .ok (.cont, ε2) => fLoop tg b its ε2 | .ok (.brk, ε2) => .ok (.next, ε2) | r => r) | none => .bad) = _
    rw [h1]
    dsimp only
    rw [h2]
    exact e
/-- a comprehension whose test and value change nothing -/
theorem comp_fm {vs : List Nat} {tg : Tgt} {ts : Ev → Res (Bool × Ev)} {f : Ev → Res (Ent × Ev)} {c : PyData → Bool} {k : PyData → PyData} {ε : Ev} : ∀ (its acc : List PyData), acc.length + its.length ≤ LIM →
    (∀ d ∈ its, ∃ ε1 ε2, tg.put d ε = some ε1 ∧ ts ε1 = .ok (c d, ε2) ∧ (c d = false → wipeE ε2 vs = ε) ∧ (c d = true → ∃ n ε3, f ε2 = .ok ((n, k d), ε3) ∧ wipeE ε3 vs = ε)) → cLoop vs tg ts f its ε acc = .ok (acc ++ (its.filter c).map k, ε)
  | [], acc, _, _ => by
    show Res.ok (acc, ε) = _
    simp
  | d :: its, acc, hl, h => by
    obtain ⟨ε1, ε2, h1, h2, h3, h4⟩ := h d List.mem_cons_self
    have hl' : acc.length + its.length + 1 ≤ LIM := by simpa [Nat.add_assoc] using hl
    have rest : ∀ x ∈ its, _ := fun x hx => h x (List.mem_cons_of_mem _ hx)
    unfold cLoop
    rw [h1]
    dsimp only
    rw [h2]
    cases e : c d with
    | false =>
      dsimp only
      rw [h3 e, comp_fm its acc (by omega) rest]
      simp [e]
    | true =>
      obtain ⟨n, ε3, h5, h6⟩ := h4 e
      dsimp only
      rw [h5]
      dsimp only
      rw [if_pos (by omega), h6, comp_fm its (acc ++ [k d]) (by simp; omega) rest]
      simp [e]
/-- a comprehension whose value changes what I tells of -/
theorem comp_inv {vs : List Nat} {tg : Tgt} {ts : Ev → Res (Bool × Ev)} {f : Ev → Res (Ent × Ev)} {I : Ev → Prop} {V : PyData → PyData → Prop} : ∀ (its acc : List PyData) (ε : Ev), acc.length + its.length ≤ LIM →
    (∀ d ∈ its, ∀ ε, I ε → ∃ ε1 ε2 n x ε3, tg.put d ε = some ε1 ∧ ts ε1 = .ok (true, ε2) ∧ f ε2 = .ok ((n, x), ε3) ∧ V d x ∧ I (wipeE ε3 vs)) → I ε →
    ∃ xs ε', cLoop vs tg ts f its ε acc = .ok (acc ++ xs, ε') ∧ PySem.Paired V its xs ∧ I ε'
  | [], acc, ε, _, _, i => ⟨[], ε, by show Res.ok (acc, ε) = _; simp, .nil, i⟩
  | d :: its, acc, ε, hl, h, i => by
    obtain ⟨ε1, ε2, n, x, ε3, h1, h2, h3, v, i3⟩ := h d List.mem_cons_self ε i
    have hl' : acc.length + its.length + 1 ≤ LIM := by simpa [Nat.add_assoc] using hl
    obtain ⟨xs, ε', e, p, i'⟩ := comp_inv its (acc ++ [x]) (wipeE ε3 vs) (by simp; omega) (fun x hx => h x (List.mem_cons_of_mem _ hx)) i3
    refine ⟨x :: xs, ε', ?_, .cons v p, i'⟩
    unfold cLoop
    rw [h1]
    dsimp only
    rw [h2]
    dsimp only
    rw [h3]
    dsimp only
    rw [if_pos (by omega), e]
    simp
theorem e_comp (vs : List Nat) (tg : Tgt) (src : Ev → Res (List PyData × Ev)) (ts : Ev → Res (Bool × Ev)) (f : Ev → Res (Ent × Ev)) (o : Option Ent) (ε : Ev) :
    fComp vs tg src ts f (o :: ε) = (src (o :: ε)).bind fun q => (cLoop vs tg ts f q.1 (wipeE q.2 vs) []).bind fun r => .ok ((1, .list r.1), backE q.2 r.2 vs) := rfl

/-- the absolute value as the program has it -/
def absV : PyData → PyData
  | .int n => .int (if n < 0 then -n else n)
  | d => d
theorem draw_ok (Γ : Gm) (ns : List Int) (hl : ns.length ≤ 63) : ∃ (d : PyData) (ps : List (Option Ent)), runF 3 1 [] (dSs Γ [] bDraw) [(0, .list (ns.map PyData.int))] = .ok (1, d) ps ∧ DrawOk d := by
  have nn : ∀ a : Int, 0 ≤ a % 2147483647 ∧ a % 2147483647 < 2147483647 := fun a => ⟨Int.emod_nonneg _ (by decide), Int.emod_lt_of_pos _ (by decide)⟩
  have lim : ns.length ≤ LIM := Nat.le_trans hl (by decide)
  obtain ⟨ε, e1, s, z, rfl, h1, h2⟩ := loop_inv (tg := tgName [] 2) (b := dSs Γ [] (.cons (.asg 1 (.bin .mod (.bi .int (.bin .add (.bin .add (.bin .mul (.var 1) (.int 48271)) (.bin .mod (.bi .abs (.bi .int (.var 2))) (.int 65521))) (.int 1))) (.int 2147483647))) .nil))
    (I := fun ε => ∃ (s : Int) (z : Option Ent), ε = [some (0, .list (ns.map PyData.int)), some (0, .int s), z] ∧ 0 ≤ s ∧ s < 2147483647) (ns.map PyData.int) [some (0, .list (ns.map PyData.int)), some (0, .int 7), none]
    (fun d hd ε ⟨s, z, e, h1, h2⟩ => by
      obtain ⟨n, _, rfl⟩ := List.mem_map.mp hd
      subst e
      have mo := mulOk h1 h2
      have g1 : decide ((0 : Int) < 65521) = true := rfl
      have g2 : decide ((0 : Int) < 2147483647) = true := rfl
      refine ⟨[some (0, .list (ns.map PyData.int)), some (0, .int s), some (0, .int n)], [some (0, .list (ns.map PyData.int)), some (0, .int ((s * 48271 + (if n < 0 then -n else n) % 65521 + 1) % 2147483647)), some (0, .int n)], rfl, ?_, ⟨_, _, rfl, (nn _).1, (nn _).2⟩⟩
      · simp only [dSs, dS, den, denV, Den.val, BOp.F, Bi.F, bind_ok, opR_some, getR_some, varR_some, e_var, e_varB, e_lit, e_op, e_op2, e_cons, e_nil, e_frz, e_seq, e_asg, e_next, seqR_next,
          List.getElem?_cons_zero, List.getElem?_cons_succ, List.set_cons_zero, List.set_cons_succ, Bool.or_false, Bool.false_or, or_true, true_or, if_true, int_i, abs_i, add_ii, sub_ii, mo, g1, g2, decide_true, List.contains_nil, Bool.false_eq_true, if_false])
    ⟨7, none, rfl, by decide, by decide⟩
  have e2 := comp_fm (vs := [2]) (tg := tgName [] 2) (ts := fTrue) (f := (den Γ (.bi .abs (.bi .int (.var 2)))).v) (c := fun _ => true) (k := absV) (ε := [some (0, .list (ns.map PyData.int)), some (0, .int s), none]) (ns.map PyData.int) [] (by simpa using lim) (fun d hd => by
    obtain ⟨n, _, rfl⟩ := List.mem_map.mp hd
    refine ⟨[some (0, .list (ns.map PyData.int)), some (0, .int s), some (0, .int n)], _, rfl, rfl, (fun z => nomatch z), fun _ => ⟨0, [some (0, .list (ns.map PyData.int)), some (0, .int s), some (0, .int n)], ?_, rfl⟩⟩
    simp only [den, denV, Den.val, Bi.F, bind_ok, opR_some, getR_some, e_varB, e_op, e_cons, e_nil, e_frz, List.getElem?_cons_zero, List.getElem?_cons_succ, or_true, if_true, int_i, abs_i, absV])
  have ea : List.map absV (ns.map PyData.int) = (ns.map fun n => if n < 0 then -n else n).map PyData.int := by
    rw [List.map_map, List.map_map]; rfl
  refine ⟨.list [.list ((ns.map fun n => if n < 0 then -n else n).map PyData.int), .int (-1), .int 0, .int s], [none], ?_, ⟨_, -1, 0, s, rfl, by decide, by decide, h1, h2, ?_⟩⟩
  · unfold bDraw
    simp only [e_run, List.length_cons, List.length_nil, if_true, List.map_cons, List.map_nil, List.cons_append, List.nil_append, List.replicate_succ, List.replicate_zero, Nat.reduceSub, Nat.reduceAdd]
    unfold dSs dS
    simp only [e_seq]
    have a1 : fAsg [] 1 (den Γ (.int 7)).v [some (0, .list (ns.map PyData.int)), none, none] = .ok (.next, [some (0, .list (ns.map PyData.int)), some (0, .int 7), none]) := rfl
    rw [a1, seqR_next]
    unfold dSs dS
    have a2 : (denR Γ (.inn (.var 0))).1 [some (0, .list (ns.map PyData.int)), some (0, .int 7), none] = .ok (ns.map PyData.int, [some (0, .list (ns.map PyData.int)), some (0, .int 7), none]) := rfl
    simp only [e_seq, e_for, a2, bind_ok]
    rw [show TgA.tgt [] (.nm 2) = tgName [] 2 from rfl, e1, seqR_next]
    unfold dSs dS
    have a3 : wipeE [some (0, .list (ns.map PyData.int)), some (0, .int s), z] [2] = [some (0, .list (ns.map PyData.int)), some (0, .int s), none] := rfl
    have hft : ∀ l : List PyData, l.filter (fun _ => true) = l := fun l => List.filter_eq_self.mpr fun _ _ => rfl
    have a4 : ∀ ε : Ev, backE [some (0, .list (ns.map PyData.int)), some (0, .int s), z] [some (0, .list (ns.map PyData.int)), some (0, .int s), none] [2] = [some (0, .list (ns.map PyData.int)), some (0, .int s), keep0 z] := fun _ => rfl
    simp only [den, denV, Den.val, Bi.F, TgA.tgt] at e2
    simp only [e_seq, e_ret, den, denV, denR, denC, denO, Den.val, Bi.F, TgA.tgt, e_op, e_cons, e_nil, e_frz, e_comp, e_in, e_var, e_varB, e_lit, e_un, varR_some, getR_some, itemsOf, itR_some, bind_ok, opR_some, lst_neg,
      List.getElem?_cons_zero, List.getElem?_cons_succ, List.set_cons_zero, List.set_cons_succ, List.map_cons, List.map_nil, Bool.or_false, Bool.false_or, or_true, true_or, if_true, a3, e2, a4 [], hft, List.nil_append, ea]
    rw [lstD_of (ds := [.list ((ns.map fun n => if n < 0 then -n else n).map PyData.int), .int (-1), .int 0, .int s]) rfl (show 4 ≤ 16777216 by decide)]
    rfl
  · intro c hc
    obtain ⟨n, _, rfl⟩ := List.mem_map.mp hc
    split <;> omega

/-! ### the same -/
mutual
theorem eqv_self : ∀ {d : PyData}, d.plain = true → PyData.eqv d d = true
  | .none, _ => rfl
  | .bool b, _ => by simp [PyData.eqv]
  | .int i, _ => by simp [PyData.eqv]
  | .str x, _ => by simp [PyData.eqv]
  | .list xs, h => by
    unfold PyData.eqv
    exact eqvAll_self (by simpa [PyData.plain] using h)
  | .tuple xs, h => by
    unfold PyData.eqv
    exact eqvAll_self (by simpa [PyData.plain] using h)
  | .dict _, h => by simp [PyData.plain] at h
theorem eqvAll_self : ∀ {xs : List PyData}, PyData.plainAll xs = true → PyData.eqvAll xs xs = true
  | [], _ => rfl
  | x :: xs, h => by
    simp only [PyData.plainAll, Bool.and_eq_true] at h
    unfold PyData.eqvAll
    rw [eqv_self h.1, eqvAll_self h.2]
    rfl
end
/-- a value that may be shown -/
structure Shows (d : PyData) : Prop where
  plain : d.plain = true
  show' : d.showable = true
  deep : d.depth ≤ 60
  short : d.shown.length ≤ LIM
theorem same_ok (Γ : Gm) {d : PyData} (h : Shows d) : runF 2 2 [] (dSs Γ [] bSame) [(0, d), (0, d)] = .ok (0, .bool true) [none, none] := by
  have e1 : cmpF okEq PyData.eqv [(0, d), (0, d)] = some (0, .bool true) := by
    unfold cmpF okEq
    dsimp only
    rw [h.plain, eqv_self h.plain]
    simp [h.deep]
  have e2 : reprFn [(0, d)] = some (0, .str d.shown) := by
    rw [repr_d, h.plain, h.show']
    simp [h.deep, h.short]
  unfold bSame
  simp only [e_run, List.length_cons, List.length_nil, if_true, List.map_cons, List.map_nil, List.cons_append, List.nil_append, List.replicate_zero, Nat.reduceSub, Nat.reduceAdd]
  simp only [dSs, dS, den, denV, Den.val, COp.F, Bi.F, bind_ok, opR_some, getR_some, varR_some, truR_some, andR_some, e_var, e_varB, e_lit, e_op, e_op2, e_cons, e_nil, e_frz, e_seq, e_ret, e_and, e_next, seqR_ret,
    List.getElem?_cons_zero, List.getElem?_cons_succ, List.set_cons_zero, List.set_cons_succ, Bool.or_false, Bool.false_or, or_true, true_or, if_true, e1, e2, tru_bool, eq_ss, decide_true, fin_ret]
  rfl
end Mb
end

section
set_option Elab.async false
set_option linter.all false
set_option maxRecDepth 100000
set_option maxHeartbeats 4000000
namespace K57
open PySem PySem.Spec PyProof.Rows L2 Mb
def top (i : Nat) : Stmt := PySem.Challenge.pw_meetsagain_k57_documents_in_writing.main.body.getD i (.Pass ⟨0, 0, 0, 0⟩)
def blts : List Str := ["abs", "all", "enumerate", "int", "isinstance", "len", "range", "repr", "set", "sorted", "str", "tuple"]
def glbs : List (Str × PyData) := [("KINDS", .tuple [.str "counter", .str "last", .str "choices", .str "keeps", .str "drops", .str "flag", .str "map", .str "list", .str "tree"]), ("MAX_LABEL", .int 8)]
def x_BadForm : List Ent → Option Exn := mkLine "BadForm"
def exss : List (Str × (List Ent → Option Exn)) := [("BadForm", x_BadForm)]
noncomputable def G (l : List (Str × FD)) : Gm := ⟨blts, glbs, l, exss⟩
noncomputable def fl0 : List (Str × FD) := []
/-! are_letters: 0 value, 1 most, 2 sign -/
def N_are_letters : List Str := ["value", "most", "sign"]
def b_are_letters : Sms :=
  (.cons (.ret (.and (.isi "str" (.var 0)) (.and (.cmp .le (.bi .len (.var 0)) (.var 1)) (.bi .all (.comp [("sign", 2)] (.nm 2) (.inn (.var 0)) .no (.chain .le .le (.str "a") (.var 2) (.str "z")))))))
  .nil)
noncomputable def F_are_letters : FD := runF 3 2 [] (dSs (G fl0) [] b_are_letters)
noncomputable def fl1 : List (Str × FD) := fl0 ++ [(("are_letters" : Str), F_are_letters)]
theorem c_are_letters : chkSs (G fl0) N_are_letters (defScope (top 6)) b_are_letters (defBody (top 6)) = true := by decide +kernel
theorem s_are_letters : FnScope N_are_letters ["value", "most"] (defScope (top 6)) := ⟨rfl, rfl, rfl, by decide +kernel, rfl, by decide +kernel, by decide +kernel⟩
def d_are_letters : He.DefD := ⟨("are_letters", none), "are_letters", "are_letters", defArgs (top 6), defBody (top 6), defScope (top 6), [], []⟩
/-! is_label: 0 value -/
def N_is_label : List Str := ["value"]
def b_is_label : Sms :=
  (.cons (.ret (.and (.call 0 (.val (.var 0) (.val (.glob 1) .nil))) (.cmp .ne (.var 0) (.str ""))))
  .nil)
noncomputable def F_is_label : FD := runF 1 1 [] (dSs (G fl1) [] b_is_label)
noncomputable def fl2 : List (Str × FD) := fl1 ++ [(("is_label" : Str), F_is_label)]
theorem c_is_label : chkSs (G fl1) N_is_label (defScope (top 7)) b_is_label (defBody (top 7)) = true := by decide +kernel
theorem s_is_label : FnScope N_is_label ["value"] (defScope (top 7)) := ⟨rfl, rfl, rfl, by decide +kernel, rfl, by decide +kernel, by decide +kernel⟩
def d_is_label : He.DefD := ⟨("is_label", none), "is_label", "is_label", defArgs (top 7), defBody (top 7), defScope (top 7), [], []⟩
/-! is_document: 0 value, 1 labels, 2 one -/
def N_is_document : List Str := ["value", "labels", "one"]
def b_is_document : Sms :=
  (.cons (.ite (.or (.not (.isi "tuple" (.var 0))) (.cmp .eq (.bi .len (.var 0)) (.int 0)))
    (.cons (.ret (.bl false))
    .nil)
    .nil)
  (.cons (.ite (.not (.bi .all (.comp [("one", 2)] (.nm 2) (.inn (.var 0)) .no (.and (.isi "tuple" (.var 2)) (.and (.cmp .eq (.bi .len (.var 2)) (.int 2)) (.call 1 (.val (.idx (.var 2) (.int 0)) .nil)))))))
    (.cons (.ret (.bl false))
    .nil)
    .nil)
  (.cons (.asg 1 (.comp [("one", 2)] (.nm 2) (.inn (.var 0)) .no (.idx (.var 2) (.int 0))))
  (.cons (.ite (.cmp .ne (.var 1) (.srt (.var 1)))
    (.cons (.ret (.bl false))
    .nil)
    .nil)
  (.cons (.ret (.bi .all (.comp [("one", 2)] (.nm 2) (.inn (.var 0)) .no (.and (.isi "str" (.idx (.var 2) (.int 1))) (.cmp .in' (.idx (.var 2) (.int 1)) (.glob 0))))))
  .nil)))))
noncomputable def F_is_document : FD := runF 3 1 [] (dSs (G fl2) [] b_is_document)
noncomputable def fl3 : List (Str × FD) := fl2 ++ [(("is_document" : Str), F_is_document)]
theorem c_is_document : chkSs (G fl2) N_is_document (defScope (top 8)) b_is_document (defBody (top 8)) = true := by decide +kernel
theorem s_is_document : FnScope N_is_document ["value"] (defScope (top 8)) := ⟨rfl, rfl, rfl, by decide +kernel, rfl, by decide +kernel, by decide +kernel⟩
def d_is_document : He.DefD := ⟨("is_document", none), "is_document", "is_document", defArgs (top 8), defBody (top 8), defScope (top 8), [], []⟩
/-! document_text: 0 document, 1 label, 2 kind -/
def N_document_text : List Str := ["document", "label", "kind"]
def b_document_text : Sms :=
  (.cons (.ret (.me .join (.str "") (.comp [("label", 1), ("kind", 2)] (.tp [1, 2]) (.inn (.var 0)) .no (.fstr (.cons (.fmt (.var 1)) (.cons (.str " ") (.cons (.fmt (.var 2)) (.cons (.str "\n") .nil))))))))
  .nil)
noncomputable def F_document_text : FD := runF 3 1 [] (dSs (G fl3) [] b_document_text)
noncomputable def fl4 : List (Str × FD) := fl3 ++ [(("document_text" : Str), F_document_text)]
theorem c_document_text : chkSs (G fl3) N_document_text (defScope (top 10)) b_document_text (defBody (top 10)) = true := by decide +kernel
theorem s_document_text : FnScope N_document_text ["document"] (defScope (top 10)) := ⟨rfl, rfl, rfl, by decide +kernel, rfl, by decide +kernel, by decide +kernel⟩
def d_document_text : He.DefD := ⟨("document_text", none), "document_text", "document_text", defArgs (top 10), defBody (top 10), defScope (top 10), [], []⟩
/-! read_document: 0 text, 1 lines, 2 found, 3 number, 4 line, 5 label, 6 _, 7 kind -/
def N_read_document : List Str := ["text", "lines", "found", "number", "line", "label", "_", "kind"]
def b_read_document : Sms :=
  (.cons (.par [1, 2] (.cons (.me .split (.var 0) (.str "\n")) (.cons (.lst .nil) .nil)))
  (.cons (.forr (.tp [3, 4]) (.enum (.sl (.var 1) .no (.so (.neg (.int 1)))))
    (.cons (.asgT [5, 6, 7] (.me .partition (.var 4) (.str " ")))
    (.cons (.ite (.or (.not (.call 1 (.val (.var 5) .nil))) (.or (.cmp .nin (.var 7) (.glob 0)) (.and (.var 2) (.cmp .le (.var 5) (.idx (.idx (.var 2) (.neg (.int 1))) (.int 0))))))
      (.cons (.rais 0 (.cons (.bin .add (.var 3) (.int 1)) .nil))
      .nil)
      .nil)
    (.cons (.app 2 (.tup (.cons (.var 5) (.cons (.var 7) .nil))))
    .nil))))
  (.cons (.ite (.or (.cmp .ne (.idx (.var 1) (.neg (.int 1))) (.str "")) (.not (.call 2 (.val (.bi .tuple (.var 2)) .nil))))
    (.cons (.rais 0 (.cons (.bi .len (.var 1)) .nil))
    .nil)
    .nil)
  (.cons (.ret (.bi .tuple (.var 2)))
  .nil))))
noncomputable def F_read_document : FD := runF 8 1 [] (dSs (G fl4) [] b_read_document)
noncomputable def fl5 : List (Str × FD) := fl4 ++ [(("read_document" : Str), F_read_document)]
theorem c_read_document : chkSs (G fl4) N_read_document (defScope (top 11)) b_read_document (defBody (top 11)) = true := by decide +kernel
theorem s_read_document : FnScope N_read_document ["text"] (defScope (top 11)) := ⟨rfl, rfl, rfl, by decide +kernel, rfl, by decide +kernel, by decide +kernel⟩
def d_read_document : He.DefD := ⟨("read_document", none), "read_document", "read_document", defArgs (top 11), defBody (top 11), defScope (top 11), [], []⟩
/-! _law_draw: 0 script, 1 seed, 2 cell -/
def N__law_draw : List Str := ["script", "seed", "cell"]
def b__law_draw : Sms :=
  (.cons (.asg 1 (.int 7))
  (.cons (.forr (.nm 2) (.inn (.var 0))
    (.cons (.asg 1 (.bin .mod (.bi .int (.bin .add (.bin .add (.bin .mul (.var 1) (.int 48271)) (.bin .mod (.bi .abs (.bi .int (.var 2))) (.int 65521))) (.int 1))) (.int 2147483647)))
    .nil))
  (.cons (.ret (.lst (.cons (.comp [("cell", 2)] (.nm 2) (.inn (.var 0)) .no (.bi .abs (.bi .int (.var 2)))) (.cons (.neg (.int 1)) (.cons (.int 0) (.cons (.var 1) .nil))))))
  .nil)))
noncomputable def F__law_draw : FD := runF 3 1 [] (dSs (G fl5) [] b__law_draw)
noncomputable def fl6 : List (Str × FD) := fl5 ++ [(("_law_draw" : Str), F__law_draw)]
theorem c__law_draw : chkSs (G fl5) N__law_draw (defScope (top 13)) b__law_draw (defBody (top 13)) = true := by decide +kernel
theorem s__law_draw : FnScope N__law_draw ["script"] (defScope (top 13)) := ⟨rfl, rfl, rfl, by decide +kernel, rfl, by decide +kernel, by decide +kernel⟩
def d__law_draw : He.DefD := ⟨("_law_draw", none), "_law_draw", "_law_draw", defArgs (top 13), defBody (top 13), defScope (top 13), [], []⟩
/-! _law_take: 0 draw, 1 many, 2 found -/
def N__law_take : List Str := ["draw", "many", "found"]
def b__law_take : Sms :=
  (.cons (.ite (.cmp .eq (.idx (.var 0) (.int 2)) (.int 0))
    (.cons (.setL 0 (.int 1) (.bin .add (.idx (.var 0) (.int 1)) (.int 1)))
    (.cons (.ite (.cmp .lt (.idx (.var 0) (.int 1)) (.bi .len (.idx (.var 0) (.int 0))))
      (.cons (.setL 0 (.int 2) (.idx (.idx (.var 0) (.int 0)) (.idx (.var 0) (.int 1))))
      .nil)
      .nil)
    (.cons (.ite (.cmp .eq (.idx (.var 0) (.int 2)) (.int 0))
      (.cons (.setL 0 (.int 3) (.bin .mod (.bi .int (.bin .add (.bin .mul (.idx (.var 0) (.int 3)) (.int 48271)) (.int 11))) (.int 2147483647)))
      (.cons (.setL 0 (.int 2) (.idx (.var 0) (.int 3)))
      .nil))
      .nil)
    .nil)))
    .nil)
  (.cons (.asg 2 (.bin .mod (.bi .int (.idx (.var 0) (.int 2))) (.var 1)))
  (.cons (.setL 0 (.int 2) (.bin .div (.idx (.var 0) (.int 2)) (.var 1)))
  (.cons (.ret (.var 2))
  .nil))))
noncomputable def F__law_take : FD := runF 3 2 [0] (dSs (G fl6) [0] b__law_take)
noncomputable def fl7 : List (Str × FD) := fl6 ++ [(("_law_take" : Str), F__law_take)]
theorem c__law_take : chkSs (G fl6) N__law_take (defScope (top 14)) b__law_take (defBody (top 14)) = true := by decide +kernel
theorem s__law_take : FnScope N__law_take ["draw", "many"] (defScope (top 14)) := ⟨rfl, rfl, rfl, by decide +kernel, rfl, by decide +kernel, by decide +kernel⟩
def d__law_take : He.DefD := ⟨("_law_take", none), "_law_take", "_law_take", defArgs (top 14), defBody (top 14), defScope (top 14), [], []⟩
/-! _law_same: 0 actual, 1 due -/
def N__law_same : List Str := ["actual", "due"]
def b__law_same : Sms :=
  (.cons (.ret (.and (.cmp .eq (.var 0) (.var 1)) (.cmp .eq (.bi .repr (.var 0)) (.bi .repr (.var 1)))))
  .nil)
noncomputable def F__law_same : FD := runF 2 2 [] (dSs (G fl7) [] b__law_same)
noncomputable def fl8 : List (Str × FD) := fl7 ++ [(("_law_same" : Str), F__law_same)]
theorem c__law_same : chkSs (G fl7) N__law_same (defScope (top 15)) b__law_same (defBody (top 15)) = true := by decide +kernel
theorem s__law_same : FnScope N__law_same ["actual", "due"] (defScope (top 15)) := ⟨rfl, rfl, rfl, by decide +kernel, rfl, by decide +kernel, by decide +kernel⟩
def d__law_same : He.DefD := ⟨("_law_same", none), "_law_same", "_law_same", defArgs (top 15), defBody (top 15), defScope (top 15), [], []⟩
/-! _law_read: 0 text, 1 k, 2 lines, 3 found, 4 words, 5 fine, 6 sign -/
def N__law_read : List Str := ["text", "k", "lines", "found", "words", "fine", "sign"]
def b__law_read : Sms :=
  (.cons (.par [2, 3] (.cons (.me .split (.var 0) (.str "\n")) (.cons (.lst .nil) .nil)))
  (.cons (.forr (.nm 1) (.rng1 (.bin .sub (.bi .len (.var 2)) (.int 1)))
    (.cons (.asg 4 (.me .split (.idx (.var 2) (.var 1)) (.str " ")))
    (.cons (.asg 5 (.and (.cmp .eq (.bi .len (.var 4)) (.int 2)) (.and (.chain .le .le (.int 1) (.bi .len (.idx (.var 4) (.int 0))) (.int 8)) (.and (.cmp .eq (.comp [("sign", 6)] (.nm 6) (.inn (.idx (.var 4) (.int 0))) (.so (.not (.chain .le .le (.str "a") (.var 6) (.str "z")))) (.var 6)) (.lst .nil)) (.cmp .in' (.idx (.var 4) (.int 1)) (.glob 0))))))
    (.cons (.ite (.or (.not (.var 5)) (.and (.cmp .ne (.var 3) (.lst .nil)) (.cmp .le (.idx (.var 4) (.int 0)) (.idx (.idx (.var 3) (.neg (.int 1))) (.int 0)))))
      (.cons (.ret (.bin .add (.var 1) (.int 1)))
      .nil)
      .nil)
    (.cons (.app 3 (.tup (.cons (.idx (.var 4) (.int 0)) (.cons (.idx (.var 4) (.int 1)) .nil))))
    .nil)))))
  (.cons (.ret (.ite (.or (.cmp .ne (.idx (.var 2) (.neg (.int 1))) (.str "")) (.cmp .eq (.var 3) (.lst .nil))) (.bi .len (.var 2)) (.bi .tuple (.var 3))))
  .nil)))
noncomputable def F__law_read : FD := runF 7 1 [] (dSs (G fl8) [] b__law_read)
noncomputable def fl9 : List (Str × FD) := fl8 ++ [(("_law_read" : Str), F__law_read)]
theorem c__law_read : chkSs (G fl8) N__law_read (defScope (top 16)) b__law_read (defBody (top 16)) = true := by decide +kernel
theorem s__law_read : FnScope N__law_read ["text"] (defScope (top 16)) := ⟨rfl, rfl, rfl, by decide +kernel, rfl, by decide +kernel, by decide +kernel⟩
def d__law_read : He.DefD := ⟨("_law_read", none), "_law_read", "_law_read", defArgs (top 16), defBody (top 16), defScope (top 16), [], []⟩
/-! _law_told: 0 text, 1 wrong -/
def N__law_told : List Str := ["text", "wrong"]
def b__law_told : Sms :=
  (.cons (.tryK (.cons (.ret (.call 4 (.val (.var 0) .nil)))
    .nil) 0 (.fld 1 "line"))
  .nil)
noncomputable def F__law_told : FD := runF 2 1 [] (dSs (G fl9) [] b__law_told)
noncomputable def fl10 : List (Str × FD) := fl9 ++ [(("_law_told" : Str), F__law_told)]
theorem c__law_told : chkSs (G fl9) N__law_told (defScope (top 17)) b__law_told (defBody (top 17)) = true := by decide +kernel
theorem s__law_told : FnScope N__law_told ["text"] (defScope (top 17)) := ⟨rfl, rfl, rfl, by decide +kernel, rfl, by decide +kernel, by decide +kernel⟩
def d__law_told : He.DefD := ⟨("_law_told", none), "_law_told", "_law_told", defArgs (top 17), defBody (top 17), defScope (top 17), [], []⟩
/-! law: 0 script, 1 draw, 2 turn, 3 labels, 4 document, 5 text, 6 k, 7 n, 8 more, 9 bent, 10 own, 11 at, 12 lines, 13 label, 14 kind -/
def N_law : List Str := ["script", "draw", "turn", "labels", "document", "text", "k", "n", "more", "bent", "own", "at", "lines", "label", "kind"]
def b_law : Sms :=
  (.cons (.asg 1 (.call 5 (.val (.var 0) .nil)))
  (.cons (.forr (.nm 2) (.rng1 (.int 5))
    (.cons (.asg 3 (.srt (.comp [("k", 6)] (.nm 6) (.rng1 (.bin .add (.int 1) (.call 6 (.own 1 (.val (.int 6) .nil))))) .no (.ite (.cmp .eq (.call 6 (.own 1 (.val (.int 3) .nil))) (.int 0)) (.sl (.str "abcdefgh") .no (.so (.bin .add (.int 1) (.call 6 (.own 1 (.val (.int 8) .nil)))))) (.idx (.str "abcxyz") (.call 6 (.own 1 (.val (.int 6) .nil))))))))
    (.cons (.asg 4 (.bi .tuple (.comp [("label", 13)] (.nm 13) (.inn (.var 3)) .no (.tup (.cons (.var 13) (.cons (.idx (.glob 0) (.call 6 (.own 1 (.val (.int 9) .nil)))) .nil))))))
    (.cons (.asg 5 (.me .join (.str "") (.comp [("label", 13), ("kind", 14)] (.tp [13, 14]) (.inn (.var 4)) .no (.bin .add (.bin .add (.bin .add (.var 13) (.str " ")) (.var 14)) (.str "\n")))))
    (.cons (.ite (.not (.call 7 (.val (.tup (.cons (.call 3 (.val (.var 4) .nil)) (.cons (.call 4 (.val (.var 5) .nil)) .nil))) (.val (.tup (.cons (.var 5) (.cons (.var 4) .nil))) .nil))))
      (.cons (.ret (.bl false))
      .nil)
      .nil)
    (.cons (.forr (.nm 6) (.rng1 (.int 8))
      (.cons (.par [11, 12] (.cons (.call 6 (.own 1 (.val (.bin .add (.bi .len (.var 5)) (.int 1)) .nil))) (.cons (.me .split (.var 5) (.str "\n")) .nil)))
      (.cons (.asg 7 (.call 6 (.own 1 (.val (.bi .len (.var 12)) .nil))))
      (.cons (.asg 8 (.idx (.lst (.cons (.str "\n") (.cons (.str " ") (.cons (.str "a") (.cons (.str "z") (.cons (.str "map") (.cons (.str "0") (.cons (.str "tree\n") .nil)))))))) (.call 6 (.own 1 (.val (.int 7) .nil)))))
      (.cons (.asg 9 (.lst (.cons (.bin .add (.bin .add (.sl (.var 5) .no (.so (.var 11))) (.var 8)) (.sl (.var 5) (.so (.var 11)) .no)) (.cons (.bin .add (.sl (.var 5) .no (.so (.var 11))) (.sl (.var 5) (.so (.bin .add (.var 11) (.int 1))) .no)) (.cons (.sl (.var 5) .no (.so (.var 11))) (.cons (.bin .add (.var 5) (.var 8)) (.cons (.me .join (.str "\n") (.bin .add (.sl (.var 12) .no (.so (.var 7))) (.sl (.var 12) (.so (.bin .add (.var 7) (.int 1))) .no))) (.cons (.me .join (.str "\n") (.bin .add (.bin .add (.sl (.var 12) .no (.so (.var 7))) (.sl (.var 12) (.so (.var 7)) (.so (.bin .add (.var 7) (.int 1))))) (.sl (.var 12) (.so (.var 7)) .no))) (.cons (.str "") .nil)))))))))
      (.cons (.asg 10 (.ixv 9 (.call 6 (.own 1 (.val (.int 7) .nil)))))
      (.cons (.ite (.not (.call 7 (.val (.call 9 (.val (.var 10) .nil)) (.val (.call 8 (.val (.var 10) .nil)) .nil))))
        (.cons (.ret (.bl false))
        .nil)
        .nil)
      .nil)))))))
    .nil))))))
  (.cons (.ret (.and (.cmp .eq (.call 9 (.val (.str "") .nil)) (.int 1)) (.and (.cmp .eq (.call 9 (.val (.str "a map") .nil)) (.int 1)) (.and (.cmp .eq (.call 9 (.val (.str "b map\na map\n") .nil)) (.int 2)) (.cmp .eq (.call 9 (.val (.str "a map\n\n") .nil)) (.int 2))))))
  .nil)))
noncomputable def F_law : FD := runF 15 1 [] (dSs (G fl10) [] b_law)
noncomputable def fl11 : List (Str × FD) := fl10 ++ [(("law" : Str), F_law)]
theorem c_law : chkSs (G fl10) N_law (defScope (top 18)) b_law (defBody (top 18)) = true := by decide +kernel
theorem s_law : FnScope N_law ["script"] (defScope (top 18)) := ⟨rfl, rfl, rfl, by decide +kernel, rfl, by decide +kernel, by decide +kernel⟩
def d_law : He.DefD := ⟨("law", none), "law", "law", defArgs (top 18), defBody (top 18), defScope (top 18), [], []⟩
end K57
end

section
set_option Elab.async false
set_option linter.all false
set_option maxRecDepth 100000
set_option maxHeartbeats 4000000
namespace K57
open PySem PySem.Spec PyProof.Rows L2 Mb

theorem take_F {d : PyData} {m : Int} (hd : DrawOk d) (hm : 0 < m) (hl : m.natAbs.log2 < 9000) : ∃ (r : Int) (d' : PyData), F__law_take [(1, d), (0, .int m)] = .ok (0, .int r) [some (1, d'), none] ∧ DrawOk d' ∧ 0 ≤ r ∧ r < m := take_ok (G fl6) hd hm hl
theorem draw_F (ns : List Int) (hl : ns.length ≤ 63) : ∃ (d : PyData) (ps : List (Option Ent)), F__law_draw [(0, .list (ns.map PyData.int))] = .ok (1, d) ps ∧ DrawOk d := draw_ok (G fl5) ns hl
theorem same_F {d : PyData} (h : Shows d) : F__law_same [(0, d), (0, d)] = .ok (0, .bool true) [none, none] := same_ok (G fl7) h

def letter (c : Nat) : Bool := leS "a" ⟨#[c]⟩ && leS ⟨#[c]⟩ "z"
def letters (s : Str) : Bool := s.cps.toList.all letter
theorem bools_map (l : List Bool) : boolsOf (l.map PyData.bool) = some l := boolsOf_map l
theorem letters_F {s : Str} {m : Int} (hs : s.length ≤ LIM) : F_are_letters [(0, .str s), (0, .int m)] = .ok (0, .bool (decide ((s.length : Int) ≤ m) && letters s)) [none, none] := by
  have cs := comp_fm (vs := [2]) (tg := tgName [] 2) (ts := fTrue) (f := (den (G fl0) (.chain .le .le (.str "a") (.var 2) (.str "z"))).v) (c := fun _ => true) (k := fun d => match d with | .str x => .bool (leS "a" x && leS x "z") | _ => .none) (ε := [some (0, .str s), some (0, .int m), none])
    (s.cps.toList.map fun c => .str ⟨#[c]⟩) [] (by rw [List.length_map, List.length_nil, Nat.zero_add, Array.length_toList]; exact hs) (fun d hd => by
      obtain ⟨c, _, rfl⟩ := List.mem_map.mp hd
      refine ⟨[some (0, .str s), some (0, .int m), some (0, .str ⟨#[c]⟩)], _, rfl, rfl, (fun z => nomatch z), fun _ => ⟨0, [some (0, .str s), some (0, .int m), some (0, .str ⟨#[c]⟩)], ?_, rfl⟩⟩
      simp only [den, Den.val, COp.F, Bool.or_self, Bool.false_eq_true, if_false, e_chain, e_frz, e_lit, e_varB, bind_ok, getR_some, List.getElem?_cons_zero, List.getElem?_cons_succ, le_ss, chR_bool, opR_some]
      cases leS "a" ⟨#[c]⟩ <;> rfl)
  have bs : boolsOf (((s.cps.toList.map fun c => PyData.str ⟨#[c]⟩).filter fun _ => true).map fun d => match d with | .str x => PyData.bool (leS "a" x && leS x "z") | _ => .none) = some (s.cps.toList.map letter) := by
    rw [List.filter_eq_self.mpr fun _ _ => rfl, List.map_map, ← bools_map, List.map_map]
    rfl
  have a3 : wipeE [some (0, .str s), some (0, .int m), none] [2] = [some (0, .str s), some (0, .int m), none] := rfl
  have a4 : backE [some (0, .str s), some (0, .int m), none] [some (0, .str s), some (0, .int m), none] [2] = [some (0, .str s), some (0, .int m), none] := rfl
  simp only [den, Den.val, COp.F, Bool.or_self, Bool.false_eq_true, if_false] at cs
  unfold F_are_letters b_are_letters
  simp only [e_run, List.length_cons, List.length_nil, if_true, List.map_cons, List.map_nil, List.cons_append, List.nil_append, List.replicate_succ, List.replicate_zero, Nat.reduceSub, Nat.reduceAdd]
  simp only [dSs, dS, den, denV, denR, denC, denO, denG, denJ, denOw, Den.val, BOp.F, COp.F, Bi.F, Me.F, TgA.tgt, bind_ok, bind_exc, bind_bad, opR_some, getR_some, varR_some, truR_some, boolR_bool, andR_some, orR_some, itR_some, itemsOf, partR_int, e_var, e_varB, e_lit, e_op, e_op2, e_cons, e_nil, e_frz, e_tru, e_bool, e_seq, e_asg, e_expr, e_ret, e_retN, e_and, e_or, e_not, e_andT, e_orT, e_notT, e_if, e_un, e_m1, e_noPart, e_part, e_sl, e_only0, e_comp, e_in, e_rng1, e_enum, enR_list, e_next, e_brk, e_cont, e_ifS, e_for, e_par, e_ocons, e_asgT, e_app, e_setL, e_rais, e_cnil, e_cval, e_cown, e_callV, e_callO, callR_some, fresR_ok, fresR_exc, seqR_next, seqR_ret, seqR_exc, seqR_brk, seqR_cont, fin_ret, fin_next, fin_exc, List.getElem?_cons_zero, List.getElem?_cons_succ, List.set_cons_zero, List.set_cons_succ, List.map_cons, List.map_nil, List.nil_append, List.cons_append, List.all_cons, List.all_nil, List.contains_nil, Bool.or_self, Bool.and_self, Bool.or_false, Bool.false_or, Bool.or_true, Bool.true_or, Bool.and_true, Bool.true_and, Bool.and_false, Bool.false_and, Bool.not_true, Bool.not_false, or_true, true_or, and_true, true_and, if_true, if_false, ite_true, ite_false, Bool.false_eq_true, reduceCtorEq, isV, isS, get_nil, get_val, owns_n, owns_v, owns_o, Option.map_some, decide_true, decide_false, tru_bool, tru_list, tru_tup, ix_l, ix_t, int_i, abs_i, add_ii, len_l, len_t, lst_neg, tup_t, isi_str, isi_tup, isi_int, PyData.isStr, PyData.isTuple, PyData.isInt, PyData.plain, eq_ii, ne_ii, lt_ii, le_ii, gt_ii, ge_ii, eq_ss, ne_ss, le_ss, len_s, hs]
  cases hb : decide ((s.length : Int) ≤ m) with
  | false => rfl
  | true =>
    simp only [dSs, dS, den, denV, denR, denC, denO, denG, denJ, denOw, Den.val, BOp.F, COp.F, Bi.F, Me.F, TgA.tgt, bind_ok, bind_exc, bind_bad, opR_some, getR_some, varR_some, truR_some, boolR_bool, andR_some, orR_some, itR_some, itemsOf, partR_int, e_var, e_varB, e_lit, e_op, e_op2, e_cons, e_nil, e_frz, e_tru, e_bool, e_seq, e_asg, e_expr, e_ret, e_retN, e_and, e_or, e_not, e_andT, e_orT, e_notT, e_if, e_un, e_m1, e_noPart, e_part, e_sl, e_only0, e_comp, e_in, e_rng1, e_enum, enR_list, e_next, e_brk, e_cont, e_ifS, e_for, e_par, e_ocons, e_asgT, e_app, e_setL, e_rais, e_cnil, e_cval, e_cown, e_callV, e_callO, callR_some, fresR_ok, fresR_exc, seqR_next, seqR_ret, seqR_exc, seqR_brk, seqR_cont, fin_ret, fin_next, fin_exc, List.getElem?_cons_zero, List.getElem?_cons_succ, List.set_cons_zero, List.set_cons_succ, List.map_cons, List.map_nil, List.nil_append, List.cons_append, List.all_cons, List.all_nil, List.contains_nil, Bool.or_self, Bool.and_self, Bool.or_false, Bool.false_or, Bool.or_true, Bool.true_or, Bool.and_true, Bool.true_and, Bool.and_false, Bool.false_and, Bool.not_true, Bool.not_false, or_true, true_or, and_true, true_and, if_true, if_false, ite_true, ite_false, Bool.false_eq_true, reduceCtorEq, isV, isS, get_nil, get_val, owns_n, owns_v, owns_o, Option.map_some, decide_true, decide_false, tru_bool, tru_list, tru_tup, ix_l, ix_t, int_i, abs_i, add_ii, len_l, len_t, lst_neg, tup_t, isi_str, isi_tup, isi_int, PyData.isStr, PyData.isTuple, PyData.isInt, PyData.plain, eq_ii, ne_ii, lt_ii, le_ii, gt_ii, ge_ii, eq_ss, ne_ss, le_ss, a3, cs, a4, all_l, bs, Nat.le_refl]
    show FRes.ok (0, PyData.bool ((s.cps.toList.map letter).all id)) _ = _
    unfold letters
    rw [List.all_map]
    rfl
def isLab (s : Str) : Bool := decide ((s.length : Int) ≤ 8) && letters s && !decide (s = "")
theorem g1_0 : (G fl1).fns[0]? = some (("are_letters" : Str), F_are_letters) := rfl
theorem gl_0 (l : List (Str × FD)) : (G l).glb[0]? = some (("KINDS" : Str), .tuple [.str "counter", .str "last", .str "choices", .str "keeps", .str "drops", .str "flag", .str "map", .str "list", .str "tree"]) := rfl
theorem gl_1 (l : List (Str × FD)) : (G l).glb[1]? = some (("MAX_LABEL" : Str), .int 8) := rfl
theorem label_F {s : Str} (hs : s.length ≤ LIM) : F_is_label [(0, .str s)] = .ok (0, .bool (isLab s)) [none] := by
  have f := letters_F (m := 8) hs
  unfold F_is_label b_is_label
  simp only [e_run, List.length_cons, List.length_nil, if_true, List.map_cons, List.map_nil, List.cons_append, List.nil_append, List.replicate_succ, List.replicate_zero, Nat.reduceSub, Nat.reduceAdd]
  simp only [dSs, dS, den, denV, denR, denC, denO, denG, denJ, denOw, Den.val, BOp.F, COp.F, Bi.F, Me.F, TgA.tgt, bind_ok, bind_exc, bind_bad, opR_some, getR_some, varR_some, truR_some, boolR_bool, andR_some, orR_some, itR_some, itemsOf, partR_int, e_var, e_varB, e_lit, e_op, e_op2, e_cons, e_nil, e_frz, e_tru, e_bool, e_seq, e_asg, e_expr, e_ret, e_retN, e_and, e_or, e_not, e_andT, e_orT, e_notT, e_if, e_un, e_m1, e_noPart, e_part, e_sl, e_only0, e_comp, e_in, e_rng1, e_enum, enR_list, e_next, e_brk, e_cont, e_ifS, e_for, e_par, e_ocons, e_asgT, e_app, e_setL, e_rais, e_cnil, e_cval, e_cown, e_callV, e_callO, callR_some, fresR_ok, fresR_exc, seqR_next, seqR_ret, seqR_exc, seqR_brk, seqR_cont, fin_ret, fin_next, fin_exc, List.getElem?_cons_zero, List.getElem?_cons_succ, List.set_cons_zero, List.set_cons_succ, List.map_cons, List.map_nil, List.nil_append, List.cons_append, List.all_cons, List.all_nil, List.contains_nil, Bool.or_self, Bool.and_self, Bool.or_false, Bool.false_or, Bool.or_true, Bool.true_or, Bool.and_true, Bool.true_and, Bool.and_false, Bool.false_and, Bool.not_true, Bool.not_false, or_true, true_or, and_true, true_and, if_true, if_false, ite_true, ite_false, Bool.false_eq_true, reduceCtorEq, isV, isS, get_nil, get_val, owns_n, owns_v, owns_o, Option.map_some, decide_true, decide_false, tru_bool, tru_list, tru_tup, ix_l, ix_t, int_i, abs_i, add_ii, len_l, len_t, lst_neg, tup_t, isi_str, isi_tup, isi_int, PyData.isStr, PyData.isTuple, PyData.isInt, PyData.plain, eq_ii, ne_ii, lt_ii, le_ii, gt_ii, ge_ii, eq_ss, ne_ss, le_ss, g1_0, gl_1, f]
  unfold isLab
  cases decide ((s.length : Int) ≤ 8) && letters s with
  | false => rfl
  | true =>
    simp only [dSs, dS, den, denV, denR, denC, denO, denG, denJ, denOw, Den.val, BOp.F, COp.F, Bi.F, Me.F, TgA.tgt, bind_ok, bind_exc, bind_bad, opR_some, getR_some, varR_some, truR_some, boolR_bool, andR_some, orR_some, itR_some, itemsOf, partR_int, e_var, e_varB, e_lit, e_op, e_op2, e_cons, e_nil, e_frz, e_tru, e_bool, e_seq, e_asg, e_expr, e_ret, e_retN, e_and, e_or, e_not, e_andT, e_orT, e_notT, e_if, e_un, e_m1, e_noPart, e_part, e_sl, e_only0, e_comp, e_in, e_rng1, e_enum, enR_list, e_next, e_brk, e_cont, e_ifS, e_for, e_par, e_ocons, e_asgT, e_app, e_setL, e_rais, e_cnil, e_cval, e_cown, e_callV, e_callO, callR_some, fresR_ok, fresR_exc, seqR_next, seqR_ret, seqR_exc, seqR_brk, seqR_cont, fin_ret, fin_next, fin_exc, List.getElem?_cons_zero, List.getElem?_cons_succ, List.set_cons_zero, List.set_cons_succ, List.map_cons, List.map_nil, List.nil_append, List.cons_append, List.all_cons, List.all_nil, List.contains_nil, Bool.or_self, Bool.and_self, Bool.or_false, Bool.false_or, Bool.or_true, Bool.true_or, Bool.and_true, Bool.true_and, Bool.and_false, Bool.false_and, Bool.not_true, Bool.not_false, or_true, true_or, and_true, true_and, if_true, if_false, ite_true, ite_false, Bool.false_eq_true, reduceCtorEq, isV, isS, get_nil, get_val, owns_n, owns_v, owns_o, Option.map_some, decide_true, decide_false, tru_bool, tru_list, tru_tup, ix_l, ix_t, int_i, abs_i, add_ii, len_l, len_t, lst_neg, tup_t, isi_str, isi_tup, isi_int, PyData.isStr, PyData.isTuple, PyData.isInt, PyData.plain, eq_ii, ne_ii, lt_ii, le_ii, gt_ii, ge_ii, eq_ss, ne_ss, le_ss]
    rfl
end K57
end

section
set_option Elab.async false
set_option linter.all false
set_option maxRecDepth 100000
set_option maxHeartbeats 4000000
namespace K57
open PySem PySem.Spec PyProof.Rows L2 Mb TL
theorem tlen (s : Str) : (tl s).length = s.length := by unfold tl Str.length; exact Array.length_toList
theorem cut_at (c : Nat) (y : Str) (ey : tl y = [c]) (l : Str) : c ∉ tl l ∨ ∃ a b, l = a ++ y ++ b ∧ c ∉ tl a := by
  by_cases h : c ∈ tl l
  · obtain ⟨as, bs, e, n⟩ := List.eq_append_cons_of_mem h
    refine .inr ⟨⟨as.toArray⟩, ⟨bs.toArray⟩, ?_, n⟩
    refine ext_tl ?_
    rw [tl_append, tl_append, e, ey]
    show _ = as ++ [c] ++ bs
    simp
  · exact .inl h
theorem spl_ne (S : List Nat) : ∀ (t : List Nat) (k : Nat) (acc : List Nat), spl S k acc t ≠ []
  | [], k, acc => by rw [spl_nil]; exact List.cons_ne_nil _ _
  | c :: r, 0, acc => by
    cases h : pre S (c :: r) with
    | true => rw [spl_hit h]; exact List.cons_ne_nil _ _
    | false => rw [spl_miss h]; exact spl_ne S r 0 _
  | c :: r, k + 1, acc => spl_ne S r k acc
theorem esp : tl (" " : Str) = [32] := rfl
theorem part_len (l : Str) : (Txt.partition l " ").1.length ≤ l.length ∧ (Txt.partition l " ").2.2.length ≤ l.length := by
  rcases cut_at 32 " " esp l with h | ⟨a, b, e, h⟩
  · rw [partition_none esp h]; exact ⟨Nat.le_refl _, Nat.zero_le _⟩
  · subst e
    rw [partition_app esp h]
    simp only [← tlen, tl_append, List.length_append]
    omega
/-- the words of a line, told by its partition -/
theorem words (l : Str) : (32 ∉ tl l ∧ Txt.split l " " = [l] ∧ Txt.partition l " " = (l, ("" : Str), ("" : Str))) ∨
    (∃ a b, Txt.partition l " " = (a, (" " : Str), b) ∧ 32 ∉ tl b ∧ Txt.split l " " = [a, b]) ∨
    (∃ a b, Txt.partition l " " = (a, (" " : Str), b) ∧ 32 ∈ tl b ∧ 2 < (Txt.split l " ").length) := by
  have sp := split_spl l " " (by rw [esp]; simp) (kind_ok (by decide +kernel))
  rw [esp] at sp
  rcases cut_at 32 " " esp l with h | ⟨a, b, e, h⟩
  · refine .inl ⟨h, ?_, partition_none esp h⟩
    refine map_tl_inj ?_
    rw [sp, spl_last1 h]
    rfl
  · refine .inr ?_
    have pa := partition_app (b := b) esp h
    rw [← e] at pa
    rw [e, tl_append, tl_append, esp, List.append_assoc, spl_part1 h, List.nil_append] at sp
    rcases cut_at 32 " " esp b with h2 | ⟨a2, b2, e2, h2⟩
    · refine .inl ⟨a, b, pa, h2, ?_⟩
      rw [spl_last1 h2] at sp
      rw [e]
      refine map_tl_inj ?_
      rw [sp]
      rfl
    · refine .inr ⟨a, b, pa, ?_, ?_⟩
      · rw [e2, tl_append, tl_append, esp]; simp
      · rw [e2, tl_append, tl_append, esp, List.append_assoc, spl_part1 h2] at sp
        rw [e, e2, ← List.length_map (f := tl), sp]
        have z2 := List.length_pos_iff.mpr (spl_ne [32] (tl b2) 0 [])
        simp only [List.length_cons]
        omega
end K57
end

section
set_option Elab.async false
set_option linter.all false
set_option maxRecDepth 100000
set_option maxHeartbeats 4000000
namespace K57
open PySem PySem.Spec PyProof.Rows L2 Mb

def KS : List Str := ["counter", "last", "choices", "keeps", "drops", "flag", "map", "list", "tree"]
def kd : PyData := .tuple [.str "counter", .str "last", .str "choices", .str "keeps", .str "drops", .str "flag", .str "map", .str "list", .str "tree"]
def pd (p : Str × Str) : PyData := .tuple [.str p.1, .str p.2]
theorem gl0 (l : List (Str × FD)) : (G l).glb[0]? = some (("KINDS" : Str), kd) := rfl
theorem kin (neg : Bool) (b : Str) (n m : Nat) : inF neg [(n, .str b), (m, kd)] = some (0, .bool (xor neg (decide (b ∈ KS)))) := by
  unfold kd
  rw [in_t, if_pos (by simp [PyData.plain, PyData.plainAll, PyData.depth, PyData.depthAll])]
  congr 4
  simp only [List.any_cons, List.any_nil, PyData.eqv, KS, List.mem_cons, List.not_mem_nil, Bool.decide_or, eq_comm (a := b)]
  first
  | rfl
  | simp
def lastOk (fnd : List (Str × Str)) (a : Str) : Bool := match fnd.getLast? with
  | none => true
  | some q => !leS a q.1
def lineOk (fnd : List (Str × Str)) (p : Str × Str) : Bool := isLab p.1 && decide (p.2 ∈ KS) && lastOk fnd p.1
def lp (l : Str) : Str × Str := ((Txt.partition l " ").1, (Txt.partition l " ").2.2)
def rd : List Str → Nat → List (Str × Str) → Sum Nat (List (Str × Str))
  | [], _, fnd => .inr fnd
  | l :: ls, n, fnd => if lineOk fnd (lp l) = true then rd ls (n + 1) (fnd ++ [lp l]) else .inl (n + 1)
theorem g4_1 : (G fl4).fns[1]? = some (("is_label" : Str), F_is_label) := rfl
theorem g4_2 : (G fl4).fns[2]? = some (("is_document" : Str), F_is_document) := rfl
theorem gx_0 (l : List (Str × FD)) : (G l).exs[0]? = some (("BadForm" : Str), mkLine "BadForm") := rfl
theorem ix_pd (n m : Nat) (q : Str × Str) : ixF [(n, pd q), (m, .int 0)] = some (0, .str q.1) := rfl
theorem ix_pd1 (n m : Nat) (q : Str × Str) : ixF [(n, pd q), (m, .int 1)] = some (0, .str q.2) := rfl
theorem tup2 (a b : PyData) : tupD [(0, a), (0, b)] = some (0, .tuple [a, b]) := tupD_of rfl (show 2 ≤ 16777216 by decide)
def bRd : Sms := (.cons (.asgT [5, 6, 7] (.me .partition (.var 4) (.str " ")))
    (.cons (.ite (.or (.not (.call 1 (.val (.var 5) .nil))) (.or (.cmp .nin (.var 7) (.glob 0)) (.and (.var 2) (.cmp .le (.var 5) (.idx (.idx (.var 2) (.neg (.int 1))) (.int 0))))))
      (.cons (.rais 0 (.cons (.bin .add (.var 3) (.int 1)) .nil))
      .nil)
      .nil)
    (.cons (.app 2 (.tup (.cons (.var 5) (.cons (.var 7) .nil))))
    .nil)))
theorem mk_line (n : Nat) (h : n + 1 < 2 ^ 1920) : mkLine "BadForm" [(0, .int ((n : Int) + 1))] = some ⟨"BadForm", [("line", .int ((n : Int) + 1))]⟩ := by
  show (if ((n + 1 : Nat) : Int).natAbs.log2 < 1920 then some _ else none) = _
  rw [Int.natAbs_natCast, if_pos ((Nat.log2_lt (by omega)).mpr h)]
theorem rd_step {t : PyData} {L : PyData} {fnd : List (Str × Str)} {n : Nat} {l : Str} {e5 e6 e7 : Option Ent} (hl : l.length ≤ LIM) (hn : n + 1 < 2 ^ 1920) (hf : fnd.length < LIM) :
    dSs (G fl4) [] bRd [some (0, t), some (1, L), some (1, .list (fnd.map pd)), some (0, .int n), some (0, .str l), e5, e6, e7] =
      (if lineOk fnd (lp l) = true then .ok (.next, [some (0, t), some (1, L), some (1, .list ((fnd ++ [lp l]).map pd)), some (0, .int n), some (0, .str l), some (0, .str (lp l).1), some (0, .str (Txt.partition l " ").2.1), some (0, .str (lp l).2)])
      else .exc ⟨"BadForm", [("line", .int ((n : Int) + 1))]⟩ [some (0, t), some (1, L), some (1, .list (fnd.map pd)), some (0, .int n), some (0, .str l), some (0, .str (lp l).1), some (0, .str (Txt.partition l " ").2.1), some (0, .str (lp l).2)]) := by
  have sp : (" " : Str).length ≠ 0 := by decide
  have fl := label_F (s := (lp l).1) (Nat.le_trans (part_len l).1 hl)
  have hf' : (fnd.map pd).length < LIM := by rw [List.length_map]; exact hf
  unfold bRd lineOk lastOk
  simp only [dSs, dS, den, denV, denR, denC, denO, denG, denJ, denOw, Den.val, BOp.F, COp.F, Bi.F, Me.F, TgA.tgt, bind_ok, bind_exc, bind_bad, opR_some, getR_some, varR_some, truR_some, boolR_bool, andR_some, orR_some, itR_some, itemsOf, partR_int, e_var, e_varB, e_lit, e_op, e_op2, e_cons, e_nil, e_frz, e_tru, e_bool, e_seq, e_asg, e_expr, e_ret, e_retN, e_and, e_or, e_not, e_andT, e_orT, e_notT, e_if, e_un, e_m1, e_noPart, e_part, e_sl, e_only0, e_comp, e_in, e_rng1, e_enum, enR_list, e_next, e_brk, e_cont, e_ifS, e_for, e_par, e_ocons, e_asgT, e_app, e_setL, e_rais, e_cnil, e_cval, e_cown, e_callV, e_callO, callR_some, fresR_ok, fresR_exc, seqR_next, seqR_ret, seqR_exc, seqR_brk, seqR_cont, fin_ret, fin_next, fin_exc, List.getElem?_cons_zero, List.getElem?_cons_succ, List.set_cons_zero, List.set_cons_succ, List.map_cons, List.map_nil, List.nil_append, List.cons_append, List.all_cons, List.all_nil, List.contains_nil, Bool.or_self, Bool.and_self, Bool.or_false, Bool.false_or, Bool.or_true, Bool.true_or, Bool.and_true, Bool.true_and, Bool.and_false, Bool.false_and, Bool.not_true, Bool.not_false, or_true, true_or, and_true, true_and, if_true, if_false, ite_true, ite_false, Bool.false_eq_true, reduceCtorEq, isV, isS, get_nil, get_val, owns_n, owns_v, owns_o, Option.map_some, decide_true, decide_false, tru_bool, tru_list, tru_tup, ix_l, ix_t, int_i, abs_i, add_ii, len_l, len_t, lst_neg, tup_t, isi_str, isi_tup, isi_int, PyData.isStr, PyData.isTuple, PyData.isInt, PyData.plain, eq_ii, ne_ii, lt_ii, le_ii, gt_ii, ge_ii, eq_ss, ne_ss, le_ss, part_s, sp, hl, ne_eq, not_false_eq_true, asgTR_tup, setAll, gl0, g4_1, kin, gx_0, List.length_cons, List.length_nil]
  rw [show (Txt.partition l " ").1 = (lp l).1 from rfl, show (Txt.partition l " ").2.2 = (lp l).2 from rfl]
  simp only [dSs, dS, den, denV, denR, denC, denO, denG, denJ, denOw, Den.val, BOp.F, COp.F, Bi.F, Me.F, TgA.tgt, bind_ok, bind_exc, bind_bad, opR_some, getR_some, varR_some, truR_some, boolR_bool, andR_some, orR_some, itR_some, itemsOf, partR_int, e_var, e_varB, e_lit, e_op, e_op2, e_cons, e_nil, e_frz, e_tru, e_bool, e_seq, e_asg, e_expr, e_ret, e_retN, e_and, e_or, e_not, e_andT, e_orT, e_notT, e_if, e_un, e_m1, e_noPart, e_part, e_sl, e_only0, e_comp, e_in, e_rng1, e_enum, enR_list, e_next, e_brk, e_cont, e_ifS, e_for, e_par, e_ocons, e_asgT, e_app, e_setL, e_rais, e_cnil, e_cval, e_cown, e_callV, e_callO, callR_some, fresR_ok, fresR_exc, seqR_next, seqR_ret, seqR_exc, seqR_brk, seqR_cont, fin_ret, fin_next, fin_exc, List.getElem?_cons_zero, List.getElem?_cons_succ, List.set_cons_zero, List.set_cons_succ, List.map_cons, List.map_nil, List.nil_append, List.cons_append, List.all_cons, List.all_nil, List.contains_nil, Bool.or_self, Bool.and_self, Bool.or_false, Bool.false_or, Bool.or_true, Bool.true_or, Bool.and_true, Bool.true_and, Bool.and_false, Bool.false_and, Bool.not_true, Bool.not_false, or_true, true_or, and_true, true_and, if_true, if_false, ite_true, ite_false, Bool.false_eq_true, reduceCtorEq, isV, isS, get_nil, get_val, owns_n, owns_v, owns_o, Option.map_some, decide_true, decide_false, tru_bool, tru_list, tru_tup, ix_l, ix_t, int_i, abs_i, add_ii, len_l, len_t, lst_neg, tup_t, isi_str, isi_tup, isi_int, PyData.isStr, PyData.isTuple, PyData.isInt, PyData.plain, eq_ii, ne_ii, lt_ii, le_ii, gt_ii, ge_ii, eq_ss, ne_ss, le_ss, fl, kin]
  cases isLab (lp l).1 with
  | false =>
    simp only [dSs, dS, den, denV, denR, denC, denO, denG, denJ, denOw, Den.val, BOp.F, COp.F, Bi.F, Me.F, TgA.tgt, bind_ok, bind_exc, bind_bad, opR_some, getR_some, varR_some, truR_some, boolR_bool, andR_some, orR_some, itR_some, itemsOf, partR_int, e_var, e_varB, e_lit, e_op, e_op2, e_cons, e_nil, e_frz, e_tru, e_bool, e_seq, e_asg, e_expr, e_ret, e_retN, e_and, e_or, e_not, e_andT, e_orT, e_notT, e_if, e_un, e_m1, e_noPart, e_part, e_sl, e_only0, e_comp, e_in, e_rng1, e_enum, enR_list, e_next, e_brk, e_cont, e_ifS, e_for, e_par, e_ocons, e_asgT, e_app, e_setL, e_rais, e_cnil, e_cval, e_cown, e_callV, e_callO, callR_some, fresR_ok, fresR_exc, seqR_next, seqR_ret, seqR_exc, seqR_brk, seqR_cont, fin_ret, fin_next, fin_exc, List.getElem?_cons_zero, List.getElem?_cons_succ, List.set_cons_zero, List.set_cons_succ, List.map_cons, List.map_nil, List.nil_append, List.cons_append, List.all_cons, List.all_nil, List.contains_nil, Bool.or_self, Bool.and_self, Bool.or_false, Bool.false_or, Bool.or_true, Bool.true_or, Bool.and_true, Bool.true_and, Bool.and_false, Bool.false_and, Bool.not_true, Bool.not_false, or_true, true_or, and_true, true_and, if_true, if_false, ite_true, ite_false, Bool.false_eq_true, reduceCtorEq, isV, isS, get_nil, get_val, owns_n, owns_v, owns_o, Option.map_some, decide_true, decide_false, tru_bool, tru_list, tru_tup, ix_l, ix_t, int_i, abs_i, add_ii, len_l, len_t, lst_neg, tup_t, isi_str, isi_tup, isi_int, PyData.isStr, PyData.isTuple, PyData.isInt, PyData.plain, eq_ii, ne_ii, lt_ii, le_ii, gt_ii, ge_ii, eq_ss, ne_ss, le_ss, mk_line n hn, raisR]
  | true =>
    cases decide ((lp l).2 ∈ KS) with
    | false =>
      simp only [dSs, dS, den, denV, denR, denC, denO, denG, denJ, denOw, Den.val, BOp.F, COp.F, Bi.F, Me.F, TgA.tgt, bind_ok, bind_exc, bind_bad, opR_some, getR_some, varR_some, truR_some, boolR_bool, andR_some, orR_some, itR_some, itemsOf, partR_int, e_var, e_varB, e_lit, e_op, e_op2, e_cons, e_nil, e_frz, e_tru, e_bool, e_seq, e_asg, e_expr, e_ret, e_retN, e_and, e_or, e_not, e_andT, e_orT, e_notT, e_if, e_un, e_m1, e_noPart, e_part, e_sl, e_only0, e_comp, e_in, e_rng1, e_enum, enR_list, e_next, e_brk, e_cont, e_ifS, e_for, e_par, e_ocons, e_asgT, e_app, e_setL, e_rais, e_cnil, e_cval, e_cown, e_callV, e_callO, callR_some, fresR_ok, fresR_exc, seqR_next, seqR_ret, seqR_exc, seqR_brk, seqR_cont, fin_ret, fin_next, fin_exc, List.getElem?_cons_zero, List.getElem?_cons_succ, List.set_cons_zero, List.set_cons_succ, List.map_cons, List.map_nil, List.nil_append, List.cons_append, List.all_cons, List.all_nil, List.contains_nil, Bool.or_self, Bool.and_self, Bool.or_false, Bool.false_or, Bool.or_true, Bool.true_or, Bool.and_true, Bool.true_and, Bool.and_false, Bool.false_and, Bool.not_true, Bool.not_false, or_true, true_or, and_true, true_and, if_true, if_false, ite_true, ite_false, Bool.false_eq_true, reduceCtorEq, isV, isS, get_nil, get_val, owns_n, owns_v, owns_o, Option.map_some, decide_true, decide_false, tru_bool, tru_list, tru_tup, ix_l, ix_t, int_i, abs_i, add_ii, len_l, len_t, lst_neg, tup_t, isi_str, isi_tup, isi_int, PyData.isStr, PyData.isTuple, PyData.isInt, PyData.plain, eq_ii, ne_ii, lt_ii, le_ii, gt_ii, ge_ii, eq_ss, ne_ss, le_ss, mk_line n hn, raisR, Bool.xor_false, Bool.xor_true, Bool.not_false, Bool.not_true]
    | true =>
      rcases List.eq_nil_or_concat fnd with e | ⟨r, q, e⟩
      · subst e
        simp only [dSs, dS, den, denV, denR, denC, denO, denG, denJ, denOw, Den.val, BOp.F, COp.F, Bi.F, Me.F, TgA.tgt, bind_ok, bind_exc, bind_bad, opR_some, getR_some, varR_some, truR_some, boolR_bool, andR_some, orR_some, itR_some, itemsOf, partR_int, e_var, e_varB, e_lit, e_op, e_op2, e_cons, e_nil, e_frz, e_tru, e_bool, e_seq, e_asg, e_expr, e_ret, e_retN, e_and, e_or, e_not, e_andT, e_orT, e_notT, e_if, e_un, e_m1, e_noPart, e_part, e_sl, e_only0, e_comp, e_in, e_rng1, e_enum, enR_list, e_next, e_brk, e_cont, e_ifS, e_for, e_par, e_ocons, e_asgT, e_app, e_setL, e_rais, e_cnil, e_cval, e_cown, e_callV, e_callO, callR_some, fresR_ok, fresR_exc, seqR_next, seqR_ret, seqR_exc, seqR_brk, seqR_cont, fin_ret, fin_next, fin_exc, List.getElem?_cons_zero, List.getElem?_cons_succ, List.set_cons_zero, List.set_cons_succ, List.map_cons, List.map_nil, List.nil_append, List.cons_append, List.all_cons, List.all_nil, List.contains_nil, Bool.or_self, Bool.and_self, Bool.or_false, Bool.false_or, Bool.or_true, Bool.true_or, Bool.and_true, Bool.true_and, Bool.and_false, Bool.false_and, Bool.not_true, Bool.not_false, or_true, true_or, and_true, true_and, if_true, if_false, ite_true, ite_false, Bool.false_eq_true, reduceCtorEq, isV, isS, get_nil, get_val, owns_n, owns_v, owns_o, Option.map_some, decide_true, decide_false, tru_bool, tru_list, tru_tup, ix_l, ix_t, int_i, abs_i, add_ii, len_l, len_t, lst_neg, tup_t, isi_str, isi_tup, isi_int, PyData.isStr, PyData.isTuple, PyData.isInt, PyData.plain, eq_ii, ne_ii, lt_ii, le_ii, gt_ii, ge_ii, eq_ss, ne_ss, le_ss, kin, Bool.xor_false, Bool.xor_true, Bool.not_false, Bool.not_true, List.isEmpty_nil, isLst, tup2, appR_list, List.getLast?_nil, List.length_nil, show 0 < LIM by decide]
        rfl
      · subst e
        have e1 : ((r ++ [q]).map pd) = r.map pd ++ [pd q] := by simp
        have e2 : (r.map pd ++ [pd q]).isEmpty = false := by cases r <;> rfl
        have e3 : (r.map pd ++ [pd q]).getLast? = some (pd q) := by simp
        rw [List.concat_eq_append] at *
        rw [e1] at hf' ⊢
        simp only [dSs, dS, den, denV, denR, denC, denO, denG, denJ, denOw, Den.val, BOp.F, COp.F, Bi.F, Me.F, TgA.tgt, bind_ok, bind_exc, bind_bad, opR_some, getR_some, varR_some, truR_some, boolR_bool, andR_some, orR_some, itR_some, itemsOf, partR_int, e_var, e_varB, e_lit, e_op, e_op2, e_cons, e_nil, e_frz, e_tru, e_bool, e_seq, e_asg, e_expr, e_ret, e_retN, e_and, e_or, e_not, e_andT, e_orT, e_notT, e_if, e_un, e_m1, e_noPart, e_part, e_sl, e_only0, e_comp, e_in, e_rng1, e_enum, enR_list, e_next, e_brk, e_cont, e_ifS, e_for, e_par, e_ocons, e_asgT, e_app, e_setL, e_rais, e_cnil, e_cval, e_cown, e_callV, e_callO, callR_some, fresR_ok, fresR_exc, seqR_next, seqR_ret, seqR_exc, seqR_brk, seqR_cont, fin_ret, fin_next, fin_exc, List.getElem?_cons_zero, List.getElem?_cons_succ, List.set_cons_zero, List.set_cons_succ, List.map_cons, List.map_nil, List.nil_append, List.cons_append, List.all_cons, List.all_nil, List.contains_nil, Bool.or_self, Bool.and_self, Bool.or_false, Bool.false_or, Bool.or_true, Bool.true_or, Bool.and_true, Bool.true_and, Bool.and_false, Bool.false_and, Bool.not_true, Bool.not_false, or_true, true_or, and_true, true_and, if_true, if_false, ite_true, ite_false, Bool.false_eq_true, reduceCtorEq, isV, isS, get_nil, get_val, owns_n, owns_v, owns_o, Option.map_some, decide_true, decide_false, tru_bool, tru_list, tru_tup, ix_l, ix_t, int_i, abs_i, add_ii, len_l, len_t, lst_neg, tup_t, isi_str, isi_tup, isi_int, PyData.isStr, PyData.isTuple, PyData.isInt, PyData.plain, eq_ii, ne_ii, lt_ii, le_ii, gt_ii, ge_ii, eq_ss, ne_ss, le_ss, kin, Bool.xor_false, Bool.xor_true, Bool.not_false, Bool.not_true, isLst, ix_l, at_last, e2, e3, ix_pd, List.getLast?_concat]
        cases leS (lp l).1 q.1 with
        | false =>
          simp only [dSs, dS, den, denV, denR, denC, denO, denG, denJ, denOw, Den.val, BOp.F, COp.F, Bi.F, Me.F, TgA.tgt, bind_ok, bind_exc, bind_bad, opR_some, getR_some, varR_some, truR_some, boolR_bool, andR_some, orR_some, itR_some, itemsOf, partR_int, e_var, e_varB, e_lit, e_op, e_op2, e_cons, e_nil, e_frz, e_tru, e_bool, e_seq, e_asg, e_expr, e_ret, e_retN, e_and, e_or, e_not, e_andT, e_orT, e_notT, e_if, e_un, e_m1, e_noPart, e_part, e_sl, e_only0, e_comp, e_in, e_rng1, e_enum, enR_list, e_next, e_brk, e_cont, e_ifS, e_for, e_par, e_ocons, e_asgT, e_app, e_setL, e_rais, e_cnil, e_cval, e_cown, e_callV, e_callO, callR_some, fresR_ok, fresR_exc, seqR_next, seqR_ret, seqR_exc, seqR_brk, seqR_cont, fin_ret, fin_next, fin_exc, List.getElem?_cons_zero, List.getElem?_cons_succ, List.set_cons_zero, List.set_cons_succ, List.map_cons, List.map_nil, List.nil_append, List.cons_append, List.all_cons, List.all_nil, List.contains_nil, Bool.or_self, Bool.and_self, Bool.or_false, Bool.false_or, Bool.or_true, Bool.true_or, Bool.and_true, Bool.true_and, Bool.and_false, Bool.false_and, Bool.not_true, Bool.not_false, or_true, true_or, and_true, true_and, if_true, if_false, ite_true, ite_false, Bool.false_eq_true, reduceCtorEq, isV, isS, get_nil, get_val, owns_n, owns_v, owns_o, Option.map_some, decide_true, decide_false, tru_bool, tru_list, tru_tup, ix_l, ix_t, int_i, abs_i, add_ii, len_l, len_t, lst_neg, tup_t, isi_str, isi_tup, isi_int, PyData.isStr, PyData.isTuple, PyData.isInt, PyData.plain, eq_ii, ne_ii, lt_ii, le_ii, gt_ii, ge_ii, eq_ss, ne_ss, le_ss, isLst, tup2, appR_list, hf']
          have e4 : (r ++ [q] ++ [lp l]).map pd = r.map pd ++ [pd q] ++ [.tuple [.str (lp l).1, .str (lp l).2]] := by simp [pd]
          rw [e4]
        | true =>
          simp only [dSs, dS, den, denV, denR, denC, denO, denG, denJ, denOw, Den.val, BOp.F, COp.F, Bi.F, Me.F, TgA.tgt, bind_ok, bind_exc, bind_bad, opR_some, getR_some, varR_some, truR_some, boolR_bool, andR_some, orR_some, itR_some, itemsOf, partR_int, e_var, e_varB, e_lit, e_op, e_op2, e_cons, e_nil, e_frz, e_tru, e_bool, e_seq, e_asg, e_expr, e_ret, e_retN, e_and, e_or, e_not, e_andT, e_orT, e_notT, e_if, e_un, e_m1, e_noPart, e_part, e_sl, e_only0, e_comp, e_in, e_rng1, e_enum, enR_list, e_next, e_brk, e_cont, e_ifS, e_for, e_par, e_ocons, e_asgT, e_app, e_setL, e_rais, e_cnil, e_cval, e_cown, e_callV, e_callO, callR_some, fresR_ok, fresR_exc, seqR_next, seqR_ret, seqR_exc, seqR_brk, seqR_cont, fin_ret, fin_next, fin_exc, List.getElem?_cons_zero, List.getElem?_cons_succ, List.set_cons_zero, List.set_cons_succ, List.map_cons, List.map_nil, List.nil_append, List.cons_append, List.all_cons, List.all_nil, List.contains_nil, Bool.or_self, Bool.and_self, Bool.or_false, Bool.false_or, Bool.or_true, Bool.true_or, Bool.and_true, Bool.true_and, Bool.and_false, Bool.false_and, Bool.not_true, Bool.not_false, or_true, true_or, and_true, true_and, if_true, if_false, ite_true, ite_false, Bool.false_eq_true, reduceCtorEq, isV, isS, get_nil, get_val, owns_n, owns_v, owns_o, Option.map_some, decide_true, decide_false, tru_bool, tru_list, tru_tup, ix_l, ix_t, int_i, abs_i, add_ii, len_l, len_t, lst_neg, tup_t, isi_str, isi_tup, isi_int, PyData.isStr, PyData.isTuple, PyData.isInt, PyData.plain, eq_ii, ne_ii, lt_ii, le_ii, gt_ii, ge_ii, eq_ss, ne_ss, le_ss, mk_line n hn, raisR]
end K57
end

section
set_option Elab.async false
set_option linter.all false
set_option maxRecDepth 100000
set_option maxHeartbeats 4000000
namespace K57
open PySem PySem.Spec PyProof.Rows L2 Mb

def itm (ds : List PyData) (n : Nat) : List PyData := (ds.zipIdx n).map fun q => .tuple [.int (q.2 : Nat), q.1]
theorem itm_cons (d : PyData) (ds : List PyData) (n : Nat) : itm (d :: ds) n = .tuple [.int (n : Nat), d] :: itm ds (n + 1) := rfl
theorem loop_cons (tg : Tgt) (b : Ev → Res (Fl × Ev)) (d : PyData) (ds : List PyData) (ε ε1 : Ev) (h : tg.put d ε = some ε1) : fLoop tg b (d :: ds) ε = match b ε1 with
  | .ok (.next, ε2) => fLoop tg b ds ε2 | .ok (.cont, ε2) => fLoop tg b ds ε2 | .ok (.brk, ε2) => .ok (.next, ε2) | r => r := by
  show (match tg.put d ε with | some ε1 => (match b ε1 with | .ok (.next, ε2) => fLoop tg b ds ε2 | .ok (.cont, ε2) => fLoop tg b ds ε2 | .ok (.brk, ε2) => .ok (.next, ε2) | r => r) | none => .bad) = _
  rw [h]
theorem rd_loop (t L : PyData) : ∀ (ls : List Str) (n : Nat) (fnd : List (Str × Str)) (e3 e4 e5 e6 e7 : Option Ent), (∀ l ∈ ls, l.length ≤ LIM) → n + ls.length < 2 ^ 1920 → fnd.length + ls.length ≤ LIM →
    match rd ls n fnd with
    | .inl k => ∃ ε', fLoop (TgA.tgt [] (.tp [3, 4])) (dSs (G fl4) [] bRd) (itm (ls.map PyData.str) n) [some (0, t), some (1, L), some (1, .list (fnd.map pd)), e3, e4, e5, e6, e7] = .exc ⟨"BadForm", [("line", .int (k : Nat))]⟩ ε'
    | .inr f => ∃ z3 z4 z5 z6 z7, fLoop (TgA.tgt [] (.tp [3, 4])) (dSs (G fl4) [] bRd) (itm (ls.map PyData.str) n) [some (0, t), some (1, L), some (1, .list (fnd.map pd)), e3, e4, e5, e6, e7] = .ok (.next, [some (0, t), some (1, L), some (1, .list (f.map pd)), z3, z4, z5, z6, z7])
  | [], n, fnd, e3, e4, e5, e6, e7, _, _, _ => ⟨e3, e4, e5, e6, e7, rfl⟩
  | l :: ls, n, fnd, e3, e4, e5, e6, e7, h1, h2, h3 => by
    simp only [List.length_cons] at h2 h3
    have st := rd_step (t := t) (L := L) (fnd := fnd) (n := n) (l := l) (e5 := e5) (e6 := e6) (e7 := e7) (h1 l List.mem_cons_self) (by omega) (by omega)
    have lc := loop_cons (TgA.tgt [] (.tp [3, 4])) (dSs (G fl4) [] bRd) (.tuple [.int (n : Nat), .str l]) (itm (ls.map PyData.str) (n + 1)) [some (0, t), some (1, L), some (1, .list (fnd.map pd)), e3, e4, e5, e6, e7] [some (0, t), some (1, L), some (1, .list (fnd.map pd)), some (0, .int n), some (0, .str l), e5, e6, e7] rfl
    rw [List.map_cons, itm_cons, lc, st]
    unfold rd
    cases hk : lineOk fnd (lp l) with
    | true =>
      simp only [if_true]
      exact rd_loop t L ls (n + 1) (fnd ++ [lp l]) _ _ _ _ _ (fun x hx => h1 x (List.mem_cons_of_mem _ hx)) (by omega) (by simp; omega)
    | false =>
      simp only [Bool.false_eq_true, if_false]
      exact ⟨_, rfl⟩
/-! ascending -/
def Asc (xs : List Str) : Prop := xs.Pairwise fun a b => leS b a = false
structure Good (f : List (Str × Str)) : Prop where
  asc : Asc (f.map (·.1))
  each : ∀ p ∈ f, isLab p.1 = true ∧ p.2 ∈ KS
theorem good_nil : Good [] := ⟨.nil, nofun⟩
theorem lt_le {a b : Str} (h : leS b a = false) : leS a b = true := by
  have t := leS_total a b
  rw [h, Bool.or_false] at t
  exact t
theorem good_snoc {f : List (Str × Str)} {p : Str × Str} (g : Good f) (h : lineOk f p = true) : Good (f ++ [p]) := by
  unfold lineOk at h
  simp only [Bool.and_eq_true, decide_eq_true_eq] at h
  obtain ⟨⟨h1, h2⟩, h3⟩ := h
  refine ⟨?_, fun q hq => ?_⟩
  · unfold Asc
    rw [List.map_append, List.pairwise_append]
    refine ⟨g.asc, by simp, fun a ha b hb => ?_⟩
    simp at hb
    subst hb
    rcases List.eq_nil_or_concat f with e | ⟨r, q, e⟩
    · subst e; simp at ha
    · rw [List.concat_eq_append] at e
      subst e
      unfold lastOk at h3
      rw [List.getLast?_concat] at h3
      have h3 : leS p.1 q.1 = false := by simpa using h3
      rw [List.map_append, List.mem_append] at ha
      rcases ha with ha | ha
      · have as := g.asc
        unfold Asc at as
        rw [List.map_append, List.pairwise_append] at as
        have z := as.2.2 a ha q.1 (by simp)
        cases y : leS p.1 a with
        | false => rfl
        | true => rw [leS_trans _ _ _ y (lt_le z)] at h3; cases h3
      · simp at ha
        subst ha
        exact h3
  · rw [List.mem_append] at hq
    rcases hq with hq | hq
    · exact g.each q hq
    · simp at hq
      subst hq
      exact ⟨h1, h2⟩
theorem rd_good : ∀ (ls : List Str) (n : Nat) (fnd f : List (Str × Str)), Good fnd → rd ls n fnd = .inr f → Good f ∧ f.length = fnd.length + ls.length
  | [], n, fnd, f, g, h => by
    cases h
    exact ⟨g, rfl⟩
  | l :: ls, n, fnd, f, g, h => by
    unfold rd at h
    by_cases c : lineOk fnd (lp l) = true
    · rw [if_pos c] at h
      obtain ⟨h1, h2⟩ := rd_good ls (n + 1) _ f (good_snoc g c) h
      refine ⟨h1, ?_⟩
      rw [h2]
      simp
      omega
    · rw [if_neg c] at h
      cases h
theorem ded_asc : ∀ xs : List Str, Asc xs → dedS xs = xs
  | [], _ => rfl
  | x :: r, h => by
    have h := List.pairwise_cons.mp h
    unfold dedS
    rw [ded_asc r h.2]
    have z : r.contains x = false := by
      rw [Bool.eq_false_iff]
      intro c
      have m := h.1 x (by simpa using c)
      have t := leS_total x x
      rw [m] at t
      cases t
    rw [z]
    rfl
theorem srt_asc {xs : List Str} (h : Asc xs) : (dedS xs).mergeSort leS = xs := by
  rw [ded_asc xs h]
  exact List.mergeSort_of_pairwise (h.imp fun z => lt_le z)
end K57
end

section
set_option Elab.async false
set_option linter.all false
set_option maxRecDepth 100000
set_option maxHeartbeats 4000000
namespace K57
open PySem PySem.Spec PyProof.Rows L2 Mb

theorem g2_1 : (G fl2).fns[1]? = some (("is_label" : Str), F_is_label) := rfl
theorem plain_pds : ∀ f : List (Str × Str), PyData.plainAll (f.map pd) = true
  | [] => rfl
  | p :: f => by
    rw [List.map_cons, PyData.plainAll, plain_pds f]
    simp [pd, PyData.plain, PyData.plainAll]
theorem plain_strs : ∀ f : List Str, PyData.plainAll (f.map PyData.str) = true
  | [] => rfl
  | p :: f => by
    rw [List.map_cons, PyData.plainAll, plain_strs f]
    simp [PyData.plain]
theorem deep_strs : ∀ f : List Str, PyData.depthAll (f.map PyData.str) ≤ 1
  | [] => by simp [PyData.depthAll]
  | p :: f => by
    have := deep_strs f
    rw [List.map_cons, PyData.depthAll]
    simp [PyData.depth] at *
    try omega
theorem deep_pds : ∀ f : List (Str × Str), PyData.depthAll (f.map pd) ≤ 2
  | [] => by simp [PyData.depthAll]
  | p :: f => by
    have := deep_pds f
    rw [List.map_cons, PyData.depthAll]
    simp [pd, PyData.depth, PyData.depthAll] at *
    try omega
theorem ne_self (xs : List Str) (n m : Nat) : cmpF okEq (fun a b => !PyData.eqv a b) [(n, .list (xs.map PyData.str)), (m, .list (xs.map PyData.str))] = some (0, .bool false) := by
  have p : (PyData.list (xs.map PyData.str)).plain = true := by rw [PyData.plain]; exact plain_strs xs
  have d := deep_strs xs
  unfold cmpF okEq
  dsimp only
  rw [p, eqv_self p]
  have e : (PyData.list (xs.map PyData.str)).depth ≤ 60 := by
    rw [PyData.depth]
    omega
  simp [e]
theorem strs_of : ∀ xs : List Str, strsOf (xs.map PyData.str) = some xs
  | [] => rfl
  | x :: xs => by
    rw [List.map_cons]
    show (strsOf (xs.map PyData.str)).map (x :: ·) = _
    rw [strs_of xs]
    rfl
theorem srt_self {xs : List Str} (n : Nat) (hn : n ≤ 1) (h : Asc xs) (hl : xs.length < 4000) : srtF (n, .list (xs.map PyData.str)) = some (1, .list (xs.map PyData.str)) := by
  unfold srtF
  dsimp only
  rw [if_pos ⟨hn, by rw [List.length_map]; exact hl⟩, strs_of]
  dsimp only
  rw [srt_asc h]
def p1 : PyData → PyData
  | .tuple [a, _] => a
  | _ => .none
theorem lab_len {s : Str} (h : isLab s = true) : s.length ≤ 8 := by
  unfold isLab at h
  simp only [Bool.and_eq_true, decide_eq_true_eq] at h
  have := h.1.1
  omega
theorem docF {f : List (Str × Str)} (g : Good f) (hl : f.length < 4000) : F_is_document [(0, .tuple (f.map pd))] = .ok (0, .bool (!f.isEmpty)) [none] := by
  have lim : ([] : List PyData).length + (f.map pd).length ≤ LIM := by
    rw [List.length_nil, Nat.zero_add, List.length_map]
    exact Nat.le_of_lt (Nat.lt_trans hl (by decide))
  have pl : (PyData.tuple (f.map pd)).plain = true := by rw [PyData.plain]; exact plain_pds f
  have c1 := fun x => comp_fm (vs := [2]) (tg := tgName [] 2) (ts := fTrue) (f := (den (G fl2) (.and (.isi "tuple" (.var 2)) (.and (.cmp .eq (.bi .len (.var 2)) (.int 2)) (.call 1 (.val (.idx (.var 2) (.int 0)) .nil))))).v) (c := fun _ => true) (k := fun _ => .bool true) (ε := [some (0, .tuple (f.map pd)), x, none])
    (f.map pd) [] lim (fun d hd => by
      obtain ⟨p, hp, rfl⟩ := List.mem_map.mp hd
      have lf := label_F (s := p.1) (Nat.le_trans (lab_len (g.each p hp).1) (show 8 ≤ 16777216 by decide))
      rw [(g.each p hp).1] at lf
      have pp : (pd p).plain = true := by simp [pd, PyData.plain, PyData.plainAll]
      have lp2 : lenF [(0, pd p)] = some (0, .int 2) := rfl
      refine ⟨[some (0, .tuple (f.map pd)), x, some (0, pd p)], _, rfl, rfl, (fun z => nomatch z), fun _ => ⟨0, [some (0, .tuple (f.map pd)), x, some (0, pd p)], ?_, rfl⟩⟩
      simp only [dSs, dS, den, denV, denR, denC, denO, denG, denJ, denOw, Den.val, BOp.F, COp.F, Bi.F, Me.F, TgA.tgt, bind_ok, bind_exc, bind_bad, opR_some, getR_some, varR_some, truR_some, boolR_bool, andR_some, orR_some, itR_some, itemsOf, partR_int, e_var, e_varB, e_lit, e_op, e_op2, e_cons, e_nil, e_frz, e_tru, e_bool, e_seq, e_asg, e_expr, e_ret, e_retN, e_and, e_or, e_not, e_andT, e_orT, e_notT, e_if, e_un, e_m1, e_noPart, e_part, e_sl, e_only0, e_comp, e_in, e_rng1, e_enum, enR_list, e_next, e_brk, e_cont, e_ifS, e_for, e_par, e_ocons, e_asgT, e_app, e_setL, e_rais, e_cnil, e_cval, e_cown, e_callV, e_callO, callR_some, fresR_ok, fresR_exc, seqR_next, seqR_ret, seqR_exc, seqR_brk, seqR_cont, fin_ret, fin_next, fin_exc, List.getElem?_cons_zero, List.getElem?_cons_succ, List.set_cons_zero, List.set_cons_succ, List.map_cons, List.map_nil, List.nil_append, List.cons_append, List.all_cons, List.all_nil, List.contains_nil, Bool.or_self, Bool.and_self, Bool.or_false, Bool.false_or, Bool.or_true, Bool.true_or, Bool.and_true, Bool.true_and, Bool.and_false, Bool.false_and, Bool.not_true, Bool.not_false, or_true, true_or, and_true, true_and, if_true, if_false, ite_true, ite_false, Bool.false_eq_true, reduceCtorEq, isV, isS, get_nil, get_val, owns_n, owns_v, owns_o, Option.map_some, decide_true, decide_false, tru_bool, tru_list, tru_tup, ix_l, ix_t, int_i, abs_i, add_ii, len_l, len_t, lst_neg, tup_t, isi_str, isi_tup, isi_int, PyData.isStr, PyData.isTuple, PyData.isInt, PyData.plain, eq_ii, ne_ii, lt_ii, le_ii, gt_ii, ge_ii, eq_ss, ne_ss, le_ss, g2_1, pp, lp2, ix_pd, lf]
      rfl)
  have c2 := fun x => comp_fm (vs := [2]) (tg := tgName [] 2) (ts := fTrue) (f := (den (G fl2) (.idx (.var 2) (.int 0))).v) (c := fun _ => true) (k := p1) (ε := [some (0, .tuple (f.map pd)), x, none])
    (f.map pd) [] lim (fun d hd => by
      obtain ⟨p, hp, rfl⟩ := List.mem_map.mp hd
      refine ⟨[some (0, .tuple (f.map pd)), x, some (0, pd p)], _, rfl, rfl, (fun z => nomatch z), fun _ => ⟨0, [some (0, .tuple (f.map pd)), x, some (0, pd p)], ?_, rfl⟩⟩
      simp only [dSs, dS, den, denV, denR, denC, denO, denG, denJ, denOw, Den.val, BOp.F, COp.F, Bi.F, Me.F, TgA.tgt, bind_ok, bind_exc, bind_bad, opR_some, getR_some, varR_some, truR_some, boolR_bool, andR_some, orR_some, itR_some, itemsOf, partR_int, e_var, e_varB, e_lit, e_op, e_op2, e_cons, e_nil, e_frz, e_tru, e_bool, e_seq, e_asg, e_expr, e_ret, e_retN, e_and, e_or, e_not, e_andT, e_orT, e_notT, e_if, e_un, e_m1, e_noPart, e_part, e_sl, e_only0, e_comp, e_in, e_rng1, e_enum, enR_list, e_next, e_brk, e_cont, e_ifS, e_for, e_par, e_ocons, e_asgT, e_app, e_setL, e_rais, e_cnil, e_cval, e_cown, e_callV, e_callO, callR_some, fresR_ok, fresR_exc, seqR_next, seqR_ret, seqR_exc, seqR_brk, seqR_cont, fin_ret, fin_next, fin_exc, List.getElem?_cons_zero, List.getElem?_cons_succ, List.set_cons_zero, List.set_cons_succ, List.map_cons, List.map_nil, List.nil_append, List.cons_append, List.all_cons, List.all_nil, List.contains_nil, Bool.or_self, Bool.and_self, Bool.or_false, Bool.false_or, Bool.or_true, Bool.true_or, Bool.and_true, Bool.true_and, Bool.and_false, Bool.false_and, Bool.not_true, Bool.not_false, or_true, true_or, and_true, true_and, if_true, if_false, ite_true, ite_false, Bool.false_eq_true, reduceCtorEq, isV, isS, get_nil, get_val, owns_n, owns_v, owns_o, Option.map_some, decide_true, decide_false, tru_bool, tru_list, tru_tup, ix_l, ix_t, int_i, abs_i, add_ii, len_l, len_t, lst_neg, tup_t, isi_str, isi_tup, isi_int, PyData.isStr, PyData.isTuple, PyData.isInt, PyData.plain, eq_ii, ne_ii, lt_ii, le_ii, gt_ii, ge_ii, eq_ss, ne_ss, le_ss, ix_pd]
      rfl)
  have c3 := fun x => comp_fm (vs := [2]) (tg := tgName [] 2) (ts := fTrue) (f := (den (G fl2) (.and (.isi "str" (.idx (.var 2) (.int 1))) (.cmp .in' (.idx (.var 2) (.int 1)) (.glob 0)))).v) (c := fun _ => true) (k := fun _ => .bool true) (ε := [some (0, .tuple (f.map pd)), x, none])
    (f.map pd) [] lim (fun d hd => by
      obtain ⟨p, hp, rfl⟩ := List.mem_map.mp hd
      have kk : decide (p.2 ∈ KS) = true := decide_eq_true (g.each p hp).2
      refine ⟨[some (0, .tuple (f.map pd)), x, some (0, pd p)], _, rfl, rfl, (fun z => nomatch z), fun _ => ⟨0, [some (0, .tuple (f.map pd)), x, some (0, pd p)], ?_, rfl⟩⟩
      simp only [dSs, dS, den, denV, denR, denC, denO, denG, denJ, denOw, Den.val, BOp.F, COp.F, Bi.F, Me.F, TgA.tgt, bind_ok, bind_exc, bind_bad, opR_some, getR_some, varR_some, truR_some, boolR_bool, andR_some, orR_some, itR_some, itemsOf, partR_int, e_var, e_varB, e_lit, e_op, e_op2, e_cons, e_nil, e_frz, e_tru, e_bool, e_seq, e_asg, e_expr, e_ret, e_retN, e_and, e_or, e_not, e_andT, e_orT, e_notT, e_if, e_un, e_m1, e_noPart, e_part, e_sl, e_only0, e_comp, e_in, e_rng1, e_enum, enR_list, e_next, e_brk, e_cont, e_ifS, e_for, e_par, e_ocons, e_asgT, e_app, e_setL, e_rais, e_cnil, e_cval, e_cown, e_callV, e_callO, callR_some, fresR_ok, fresR_exc, seqR_next, seqR_ret, seqR_exc, seqR_brk, seqR_cont, fin_ret, fin_next, fin_exc, List.getElem?_cons_zero, List.getElem?_cons_succ, List.set_cons_zero, List.set_cons_succ, List.map_cons, List.map_nil, List.nil_append, List.cons_append, List.all_cons, List.all_nil, List.contains_nil, Bool.or_self, Bool.and_self, Bool.or_false, Bool.false_or, Bool.or_true, Bool.true_or, Bool.and_true, Bool.true_and, Bool.and_false, Bool.false_and, Bool.not_true, Bool.not_false, or_true, true_or, and_true, true_and, if_true, if_false, ite_true, ite_false, Bool.false_eq_true, reduceCtorEq, isV, isS, get_nil, get_val, owns_n, owns_v, owns_o, Option.map_some, decide_true, decide_false, tru_bool, tru_list, tru_tup, ix_l, ix_t, int_i, abs_i, add_ii, len_l, len_t, lst_neg, tup_t, isi_str, isi_tup, isi_int, PyData.isStr, PyData.isTuple, PyData.isInt, PyData.plain, eq_ii, ne_ii, lt_ii, le_ii, gt_ii, ge_ii, eq_ss, ne_ss, le_ss, gl0, ix_pd1, kin, kk]
      rfl)
  have e1 : ((f.map pd).filter fun _ => true).map (fun _ => PyData.bool true) = (f.map fun _ => true).map PyData.bool := by
    rw [List.filter_eq_self.mpr fun _ _ => rfl, List.map_map, List.map_map]
    rfl
  have e2 : ((f.map pd).filter fun _ => true).map p1 = (f.map (·.1)).map PyData.str := by
    rw [List.filter_eq_self.mpr fun _ _ => rfl, List.map_map, List.map_map]
    rfl
  have al : (f.map fun _ => true).all id = true := by simp
  have w : ∀ x, wipeE [some (0, .tuple (f.map pd)), x, none] [2] = [some (0, .tuple (f.map pd)), x, none] := fun _ => rfl
  have b : ∀ x, backE [some (0, .tuple (f.map pd)), x, none] [some (0, .tuple (f.map pd)), x, none] [2] = [some (0, .tuple (f.map pd)), x, none] := fun _ => rfl
  simp only [dSs, dS, den, denV, denR, denC, denO, denG, denJ, denOw, Den.val, BOp.F, COp.F, Bi.F, Me.F, TgA.tgt, bind_ok, bind_exc, bind_bad, opR_some, getR_some, varR_some, truR_some, boolR_bool, andR_some, orR_some, itR_some, itemsOf, partR_int, e_var, e_varB, e_lit, e_op, e_op2, e_cons, e_nil, e_frz, e_tru, e_bool, e_seq, e_asg, e_expr, e_ret, e_retN, e_and, e_or, e_not, e_andT, e_orT, e_notT, e_if, e_un, e_m1, e_noPart, e_part, e_sl, e_only0, e_comp, e_in, e_rng1, e_enum, enR_list, e_next, e_brk, e_cont, e_ifS, e_for, e_par, e_ocons, e_asgT, e_app, e_setL, e_rais, e_cnil, e_cval, e_cown, e_callV, e_callO, callR_some, fresR_ok, fresR_exc, seqR_next, seqR_ret, seqR_exc, seqR_brk, seqR_cont, fin_ret, fin_next, fin_exc, List.getElem?_cons_zero, List.getElem?_cons_succ, List.set_cons_zero, List.set_cons_succ, List.map_cons, List.map_nil, List.nil_append, List.cons_append, List.all_cons, List.all_nil, List.contains_nil, Bool.or_self, Bool.and_self, Bool.or_false, Bool.false_or, Bool.or_true, Bool.true_or, Bool.and_true, Bool.true_and, Bool.and_false, Bool.false_and, Bool.not_true, Bool.not_false, or_true, true_or, and_true, true_and, if_true, if_false, ite_true, ite_false, Bool.false_eq_true, reduceCtorEq, isV, isS, get_nil, get_val, owns_n, owns_v, owns_o, Option.map_some, decide_true, decide_false, tru_bool, tru_list, tru_tup, ix_l, ix_t, int_i, abs_i, add_ii, len_l, len_t, lst_neg, tup_t, isi_str, isi_tup, isi_int, PyData.isStr, PyData.isTuple, PyData.isInt, PyData.plain, eq_ii, ne_ii, lt_ii, le_ii, gt_ii, ge_ii, eq_ss, ne_ss, le_ss, g2_1, gl0] at c1 c2 c3
  rw [e1] at c1 c3
  rw [e2] at c2
  rcases Classical.em (f = []) with e0 | e0
  · subst e0
    unfold F_is_document b_is_document
    simp only [e_run, List.length_cons, List.length_nil, if_true, List.map_cons, List.map_nil, List.cons_append, List.nil_append, List.replicate_succ, List.replicate_zero, Nat.reduceSub, Nat.reduceAdd]
    simp only [dSs, dS, den, denV, denR, denC, denO, denG, denJ, denOw, Den.val, BOp.F, COp.F, Bi.F, Me.F, TgA.tgt, bind_ok, bind_exc, bind_bad, opR_some, getR_some, varR_some, truR_some, boolR_bool, andR_some, orR_some, itR_some, itemsOf, partR_int, e_var, e_varB, e_lit, e_op, e_op2, e_cons, e_nil, e_frz, e_tru, e_bool, e_seq, e_asg, e_expr, e_ret, e_retN, e_and, e_or, e_not, e_andT, e_orT, e_notT, e_if, e_un, e_m1, e_noPart, e_part, e_sl, e_only0, e_comp, e_in, e_rng1, e_enum, enR_list, e_next, e_brk, e_cont, e_ifS, e_for, e_par, e_ocons, e_asgT, e_app, e_setL, e_rais, e_cnil, e_cval, e_cown, e_callV, e_callO, callR_some, fresR_ok, fresR_exc, seqR_next, seqR_ret, seqR_exc, seqR_brk, seqR_cont, fin_ret, fin_next, fin_exc, List.getElem?_cons_zero, List.getElem?_cons_succ, List.set_cons_zero, List.set_cons_succ, List.map_cons, List.map_nil, List.nil_append, List.cons_append, List.all_cons, List.all_nil, List.contains_nil, Bool.or_self, Bool.and_self, Bool.or_false, Bool.false_or, Bool.or_true, Bool.true_or, Bool.and_true, Bool.true_and, Bool.and_false, Bool.false_and, Bool.not_true, Bool.not_false, or_true, true_or, and_true, true_and, if_true, if_false, ite_true, ite_false, Bool.false_eq_true, reduceCtorEq, isV, isS, get_nil, get_val, owns_n, owns_v, owns_o, Option.map_some, decide_true, decide_false, tru_bool, tru_list, tru_tup, ix_l, ix_t, int_i, abs_i, add_ii, len_l, len_t, lst_neg, tup_t, isi_str, isi_tup, isi_int, PyData.isStr, PyData.isTuple, PyData.isInt, PyData.plain, eq_ii, ne_ii, lt_ii, le_ii, gt_ii, ge_ii, eq_ss, ne_ss, le_ss, pl]
    rfl
  have h0 : decide (((f.map pd).length : Int) = 0) = false := decide_eq_false fun z => e0 (by
    have y : (f.map pd).length = 0 := by omega
    rw [List.length_map] at y
    exact List.length_eq_zero_iff.mp y)
  have h1 : f.isEmpty = false := by cases f with | nil => exact absurd rfl e0 | cons _ _ => rfl
  have sr := srt_self (xs := f.map (·.1)) 1 (Nat.le_refl 1) g.asc (by rw [List.length_map]; exact hl)
  have ne := ne_self (f.map (·.1))
  unfold F_is_document b_is_document
  simp only [e_run, List.length_cons, List.length_nil, if_true, List.map_cons, List.map_nil, List.cons_append, List.nil_append, List.replicate_succ, List.replicate_zero, Nat.reduceSub, Nat.reduceAdd]
  simp only [dSs, dS, den, denV, denR, denC, denO, denG, denJ, denOw, Den.val, BOp.F, COp.F, Bi.F, Me.F, TgA.tgt, bind_ok, bind_exc, bind_bad, opR_some, getR_some, varR_some, truR_some, boolR_bool, andR_some, orR_some, itR_some, itemsOf, partR_int, e_var, e_varB, e_lit, e_op, e_op2, e_cons, e_nil, e_frz, e_tru, e_bool, e_seq, e_asg, e_expr, e_ret, e_retN, e_and, e_or, e_not, e_andT, e_orT, e_notT, e_if, e_un, e_m1, e_noPart, e_part, e_sl, e_only0, e_comp, e_in, e_rng1, e_enum, enR_list, e_next, e_brk, e_cont, e_ifS, e_for, e_par, e_ocons, e_asgT, e_app, e_setL, e_rais, e_cnil, e_cval, e_cown, e_callV, e_callO, callR_some, fresR_ok, fresR_exc, seqR_next, seqR_ret, seqR_exc, seqR_brk, seqR_cont, fin_ret, fin_next, fin_exc, List.getElem?_cons_zero, List.getElem?_cons_succ, List.set_cons_zero, List.set_cons_succ, List.map_cons, List.map_nil, List.nil_append, List.cons_append, List.all_cons, List.all_nil, List.contains_nil, Bool.or_self, Bool.and_self, Bool.or_false, Bool.false_or, Bool.or_true, Bool.true_or, Bool.and_true, Bool.true_and, Bool.and_false, Bool.false_and, Bool.not_true, Bool.not_false, or_true, true_or, and_true, true_and, if_true, if_false, ite_true, ite_false, Bool.false_eq_true, reduceCtorEq, isV, isS, get_nil, get_val, owns_n, owns_v, owns_o, Option.map_some, decide_true, decide_false, tru_bool, tru_list, tru_tup, ix_l, ix_t, int_i, abs_i, add_ii, len_l, len_t, lst_neg, tup_t, isi_str, isi_tup, isi_int, PyData.isStr, PyData.isTuple, PyData.isInt, PyData.plain, eq_ii, ne_ii, lt_ii, le_ii, gt_ii, ge_ii, eq_ss, ne_ss, le_ss, g2_1, gl0, plain_pds, h0, w, c1, b, all_l, bools_map, al, c2, c3, sr, ne, Nat.le_refl, Nat.zero_le, h1]
  rfl
end K57
end

section
set_option Elab.async false
set_option linter.all false
set_option maxRecDepth 100000
set_option maxHeartbeats 4000000
namespace K57
open PySem PySem.Spec PyProof.Rows L2 Mb TL

theorem cut_init (ds : List PyData) : Mb.cutD ds none (some (-1)) = ds.dropLast := by
  unfold Mb.cutD HT.sIx
  rw [List.dropLast_eq_take]
  show (ds.drop 0).take ((-1 + (ds.length : Int)).toNat - 0) = _
  rw [List.drop_zero]
  congr 1
  omega
theorem spl_len (S : List Nat) : ∀ (t : List Nat) (k : Nat) (acc : List Nat), (spl S k acc t).length ≤ t.length + 1 ∧ ∀ p ∈ spl S k acc t, p.length ≤ acc.length + t.length
  | [], k, acc => by
    rw [spl_nil]
    simp
  | c :: r, 0, acc => by
    cases h : pre S (c :: r) with
    | true =>
      rw [spl_hit h]
      have i := spl_len S r (S.length - 1) []
      simp only [List.length_cons, List.mem_cons]
      refine ⟨by omega, fun p hp => ?_⟩
      rcases hp with rfl | hp
      · omega
      · have := i.2 p hp
        simp at this
        omega
    | false =>
      rw [spl_miss h]
      have i := spl_len S r 0 (acc ++ [c])
      simp only [List.length_cons, List.length_append] at i ⊢
      refine ⟨by omega, fun p hp => ?_⟩
      have := i.2 p hp
      simp at this
      omega
  | c :: r, k + 1, acc => by
    have i := spl_len S r k acc
    show (spl S k acc r).length ≤ _ ∧ ∀ p ∈ spl S k acc r, _
    simp only [List.length_cons]
    exact ⟨by omega, fun p hp => by have := i.2 p hp; omega⟩
theorem enl : tl ("\n" : Str) = [10] := rfl
theorem lines_len (t : Str) : (Txt.split t "\n").length ≤ t.length + 1 ∧ (∀ l ∈ Txt.split t "\n", l.length ≤ t.length) ∧ Txt.split t "\n" ≠ [] := by
  have sp := split_spl t "\n" (by rw [enl]; simp) (kind_ok (by decide +kernel))
  rw [enl] at sp
  have i := spl_len [10] (tl t) 0 []
  rw [tlen, ← sp, List.length_map] at i
  refine ⟨i.1, fun l hl => ?_, fun e => ?_⟩
  · have := i.2 (tl l) (List.mem_map_of_mem hl)
    rw [tlen] at this
    simpa using this
  · rw [e] at sp
    exact spl_ne _ _ _ _ sp.symm
/-- what a text says -/
def told (t : Str) : Sum Nat (List (Str × Str)) := match rd (Txt.split t "\n").dropLast 0 [] with
  | .inl k => .inl k
  | .inr f => if (Txt.split t "\n").getLast? = some ("" : Str) ∧ f ≠ [] then .inr f else .inl (Txt.split t "\n").length
def readV : Sum Nat (List (Str × Str)) → FRes
  | .inl k => .exc ⟨"BadForm", [("line", .int (k : Nat))]⟩
  | .inr f => .ok (0, .tuple (f.map pd)) [none]
def toldV : Sum Nat (List (Str × Str)) → PyData
  | .inl k => .int (k : Nat)
  | .inr f => .tuple (f.map pd)
def tryR (c : Str) (hd : Exn → Ev → Res (Ent × Ev)) (si : Option Nat) : Res (Fl × Ev) → Res (Fl × Ev)
  | .exc x ε' => if x.cls = c ∧ okSlot si ε' = true then match hd x (forgetE si ε') with
    | .ok q => .ok (.ret q.1, q.2)
    | _ => .bad
    else .bad
  | r => r
theorem e_try (c : Str) (b : Ev → Res (Fl × Ev)) (hd : Exn → Ev → Res (Ent × Ev)) (si : Option Nat) (o : Option Ent) (ε : Ev) : fTry c b hd si (o :: ε) = tryR c hd si (b (o :: ε)) := by
  unfold fTry tryR
  cases b (o :: ε) <;> rfl
theorem tryR_exc (c : Str) (hd : Exn → Ev → Res (Ent × Ev)) (si : Option Nat) (x : Exn) (ε : Ev) : tryR c hd si (.exc x ε) = if x.cls = c ∧ okSlot si ε = true then match hd x (forgetE si ε) with
    | .ok q => .ok (.ret q.1, q.2)
    | _ => .bad
    else .bad := rfl
theorem tryR_ok (c : Str) (hd : Exn → Ev → Res (Ent × Ev)) (si : Option Nat) (x : Fl × Ev) : tryR c hd si (.ok x) = .ok x := rfl
theorem read_F {t : Str} (ht : t.length < 3000) : F_read_document [(0, .str t)] = readV (told t) := by
  obtain ⟨l1, l2, l3⟩ := lines_len t
  have lp := rd_loop (.str t) (.list ((Txt.split t "\n").map PyData.str)) (Txt.split t "\n").dropLast 0 [] none none none none none
    (fun l hl => Nat.le_trans (l2 l (List.dropLast_subset _ hl)) (Nat.le_trans (Nat.le_of_lt ht) (show 3000 ≤ 16777216 by decide)))
    (by rw [List.length_dropLast]; have : 4000 < 2 ^ 1920 := by decide +kernel
        omega)
    (by rw [List.length_dropLast, List.length_nil]; have : 4000 ≤ LIM := by decide
        omega)
  have g := fun f => rd_good (Txt.split t "\n").dropLast 0 [] f good_nil
  have n1 : ("\n" : Str).length ≠ 0 := by decide
  have n2 : t.length + 2 ≤ LIM := by have : 4000 ≤ LIM := by decide
                                     omega
  have sl : slF (1, .list ((Txt.split t "\n").map PyData.str)) none (some (-1)) = some (1, .list ((Txt.split t "\n").dropLast.map PyData.str)) := by
    rw [sl_l, if_pos (by decide), cut_init, List.map_dropLast]
  have h1 : dS (G fl4) [] (.par [1, 2] (.cons (.me .split (.var 0) (.str "\n")) (.cons (.lst .nil) .nil))) [some (0, .str t), none, none, none, none, none, none, none] = .ok (.next, [some (0, .str t), some (1, .list ((Txt.split t "\n").map PyData.str)), some (1, .list (([] : List (Str × Str)).map pd)), none, none, none, none, none]) := by
    simp only [dSs, dS, den, denV, denR, denC, denO, denG, denJ, denOw, Den.val, BOp.F, COp.F, Bi.F, Me.F, TgA.tgt, bind_ok, bind_exc, bind_bad, opR_some, getR_some, varR_some, truR_some, boolR_bool, andR_some, orR_some, itR_some, itemsOf, partR_int, e_var, e_varB, e_lit, e_op, e_op2, e_cons, e_nil, e_frz, e_tru, e_bool, e_seq, e_asg, e_expr, e_ret, e_retN, e_and, e_or, e_not, e_andT, e_orT, e_notT, e_if, e_un, e_m1, e_noPart, e_part, e_sl, e_only0, e_comp, e_in, e_rng1, e_enum, enR_list, e_next, e_brk, e_cont, e_ifS, e_for, e_par, e_ocons, e_asgT, e_app, e_setL, e_rais, e_cnil, e_cval, e_cown, e_callV, e_callO, callR_some, fresR_ok, fresR_exc, seqR_next, seqR_ret, seqR_exc, seqR_brk, seqR_cont, fin_ret, fin_next, fin_exc, List.getElem?_cons_zero, List.getElem?_cons_succ, List.set_cons_zero, List.set_cons_succ, List.map_cons, List.map_nil, List.nil_append, List.cons_append, List.all_cons, List.all_nil, List.contains_nil, Bool.or_self, Bool.and_self, Bool.or_false, Bool.false_or, Bool.or_true, Bool.true_or, Bool.and_true, Bool.true_and, Bool.and_false, Bool.false_and, Bool.not_true, Bool.not_false, or_true, true_or, and_true, true_and, if_true, if_false, ite_true, ite_false, Bool.false_eq_true, reduceCtorEq, isV, isS, get_nil, get_val, owns_n, owns_v, owns_o, Option.map_some, decide_true, decide_false, tru_bool, tru_list, tru_tup, ix_l, ix_t, int_i, abs_i, add_ii, len_l, len_t, lst_neg, tup_t, isi_str, isi_tup, isi_int, PyData.isStr, PyData.isTuple, PyData.isInt, PyData.plain, eq_ii, ne_ii, lt_ii, le_ii, gt_ii, ge_ii, eq_ss, ne_ss, le_ss, split_s, n1, n2, ne_eq, not_false_eq_true, and_self]
    rfl
  have src : (denR (G fl4) (.enum (.sl (.var 1) .no (.so (.neg (.int 1)))))).1 [some (0, .str t), some (1, .list ((Txt.split t "\n").map PyData.str)), some (1, .list (([] : List (Str × Str)).map pd)), none, none, none, none, none] = .ok (itm ((Txt.split t "\n").dropLast.map PyData.str) 0, [some (0, .str t), some (1, .list ((Txt.split t "\n").map PyData.str)), some (1, .list (([] : List (Str × Str)).map pd)), none, none, none, none, none]) := by
    simp only [dSs, dS, den, denV, denR, denC, denO, denG, denJ, denOw, Den.val, BOp.F, COp.F, Bi.F, Me.F, TgA.tgt, bind_ok, bind_exc, bind_bad, opR_some, getR_some, varR_some, truR_some, boolR_bool, andR_some, orR_some, itR_some, itemsOf, partR_int, e_var, e_varB, e_lit, e_op, e_op2, e_cons, e_nil, e_frz, e_tru, e_bool, e_seq, e_asg, e_expr, e_ret, e_retN, e_and, e_or, e_not, e_andT, e_orT, e_notT, e_if, e_un, e_m1, e_noPart, e_part, e_sl, e_only0, e_comp, e_in, e_rng1, e_enum, enR_list, e_next, e_brk, e_cont, e_ifS, e_for, e_par, e_ocons, e_asgT, e_app, e_setL, e_rais, e_cnil, e_cval, e_cown, e_callV, e_callO, callR_some, fresR_ok, fresR_exc, seqR_next, seqR_ret, seqR_exc, seqR_brk, seqR_cont, fin_ret, fin_next, fin_exc, List.getElem?_cons_zero, List.getElem?_cons_succ, List.set_cons_zero, List.set_cons_succ, List.map_cons, List.map_nil, List.nil_append, List.cons_append, List.all_cons, List.all_nil, List.contains_nil, Bool.or_self, Bool.and_self, Bool.or_false, Bool.false_or, Bool.or_true, Bool.true_or, Bool.and_true, Bool.true_and, Bool.and_false, Bool.false_and, Bool.not_true, Bool.not_false, or_true, true_or, and_true, true_and, if_true, if_false, ite_true, ite_false, Bool.false_eq_true, reduceCtorEq, isV, isS, get_nil, get_val, owns_n, owns_v, owns_o, Option.map_some, decide_true, decide_false, tru_bool, tru_list, tru_tup, ix_l, ix_t, int_i, abs_i, add_ii, len_l, len_t, lst_neg, tup_t, isi_str, isi_tup, isi_int, PyData.isStr, PyData.isTuple, PyData.isInt, PyData.plain, eq_ii, ne_ii, lt_ii, le_ii, gt_ii, ge_ii, eq_ss, ne_ss, le_ss, sl]
    rfl
  have hF : dS (G fl4) [] (.forr (.tp [3, 4]) (.enum (.sl (.var 1) .no (.so (.neg (.int 1))))) bRd) [some (0, .str t), some (1, .list ((Txt.split t "\n").map PyData.str)), some (1, .list (([] : List (Str × Str)).map pd)), none, none, none, none, none] = fLoop (TgA.tgt [] (.tp [3, 4])) (dSs (G fl4) [] bRd) (itm ((Txt.split t "\n").dropLast.map PyData.str) 0) [some (0, .str t), some (1, .list ((Txt.split t "\n").map PyData.str)), some (1, .list (([] : List (Str × Str)).map pd)), none, none, none, none, none] := by
    simp only [dS]
    rw [e_for, src, bind_ok]
  unfold told
  unfold F_read_document b_read_document
  simp only [e_run, List.length_cons, List.length_nil, if_true, List.map_cons, List.map_nil, List.cons_append, List.nil_append, List.replicate_succ, List.replicate_zero, Nat.reduceSub, Nat.reduceAdd]
  rw [← bRd]
  simp only [dSs, e_seq]
  rw [h1, seqR_next]
  simp only [dSs, e_seq]
  rw [hF]
  have g1 := g
  revert lp g1
  cases rd (Txt.split t "\n").dropLast 0 [] with
  | inl k =>
    intro lp _
    obtain ⟨ε', lp⟩ := lp
    rw [lp]
    rfl
  | inr f =>
    intro lp g1
    obtain ⟨z3, z4, z5, z6, z7, lp⟩ := lp
    rw [lp, seqR_next]
    obtain ⟨gf, lf⟩ := g1 f rfl
    rw [List.length_dropLast, List.length_nil] at lf
    have df := docF gf (by omega)
    have tu : tupFn [(1, .list (f.map pd))] = some (0, .tuple (f.map pd)) := rfl
    have la : ((Txt.split t "\n").map PyData.str).getLast? = some (.str ((Txt.split t "\n").getLast l3)) := by
      rw [List.getLast?_map, List.getLast?_eq_some_getLast l3]
      rfl
    rw [List.getLast?_eq_some_getLast l3]
    have mk : mkLine "BadForm" [(0, .int ((Txt.split t "\n").length : Nat))] = some ⟨"BadForm", [("line", .int ((Txt.split t "\n").length : Nat))]⟩ := by
      have p : 0 < (Txt.split t "\n").length := List.length_pos_iff.mpr l3
      have big : (Txt.split t "\n").length < 2 ^ 1920 := by
        have : 4000 < 2 ^ 1920 := by decide +kernel
        omega
      obtain ⟨k, e⟩ : ∃ k, (Txt.split t "\n").length = k + 1 := ⟨(Txt.split t "\n").length - 1, by omega⟩
      rw [e] at big ⊢
      exact mk_line k big
    have ll : ((Txt.split t "\n").map PyData.str).length = (Txt.split t "\n").length := List.length_map _
    simp only [dSs, dS, den, denV, denR, denC, denO, denG, denJ, denOw, Den.val, BOp.F, COp.F, Bi.F, Me.F, TgA.tgt, bind_ok, bind_exc, bind_bad, opR_some, getR_some, varR_some, truR_some, boolR_bool, andR_some, orR_some, itR_some, itemsOf, partR_int, e_var, e_varB, e_lit, e_op, e_op2, e_cons, e_nil, e_frz, e_tru, e_bool, e_seq, e_asg, e_expr, e_ret, e_retN, e_and, e_or, e_not, e_andT, e_orT, e_notT, e_if, e_un, e_m1, e_noPart, e_part, e_sl, e_only0, e_comp, e_in, e_rng1, e_enum, enR_list, e_next, e_brk, e_cont, e_ifS, e_for, e_par, e_ocons, e_asgT, e_app, e_setL, e_rais, e_cnil, e_cval, e_cown, e_callV, e_callO, callR_some, fresR_ok, fresR_exc, seqR_next, seqR_ret, seqR_exc, seqR_brk, seqR_cont, fin_ret, fin_next, fin_exc, List.getElem?_cons_zero, List.getElem?_cons_succ, List.set_cons_zero, List.set_cons_succ, List.map_cons, List.map_nil, List.nil_append, List.cons_append, List.all_cons, List.all_nil, List.contains_nil, Bool.or_self, Bool.and_self, Bool.or_false, Bool.false_or, Bool.or_true, Bool.true_or, Bool.and_true, Bool.true_and, Bool.and_false, Bool.false_and, Bool.not_true, Bool.not_false, or_true, true_or, and_true, true_and, if_true, if_false, ite_true, ite_false, Bool.false_eq_true, reduceCtorEq, isV, isS, get_nil, get_val, owns_n, owns_v, owns_o, Option.map_some, decide_true, decide_false, tru_bool, tru_list, tru_tup, ix_l, ix_t, int_i, abs_i, add_ii, len_l, len_t, lst_neg, tup_t, isi_str, isi_tup, isi_int, PyData.isStr, PyData.isTuple, PyData.isInt, PyData.plain, eq_ii, ne_ii, lt_ii, le_ii, gt_ii, ge_ii, eq_ss, ne_ss, le_ss, ix_l, at_last, la, g4_2, gx_0, tu, df, ll, mk, raisR]
    have hd : ∀ b : Bool, decide ((Txt.split t "\n").getLast l3 = ("" : Str)) = b → b = decide ((Txt.split t "\n").getLast l3 = ("" : Str)) := fun _ h => h.symm
    by_cases hw : (Txt.split t "\n").getLast l3 = ("" : Str)
    · rw [show decide ((Txt.split t "\n").getLast l3 = ("" : Str)) = true from decide_eq_true hw]
      by_cases hf : f = []
      · rw [if_neg (c := (some ((Txt.split t "\n").getLast l3) = some ("" : Str) ∧ f ≠ [])) (fun z => z.2 hf)]
        subst hf
        simp only [dSs, dS, den, denV, denR, denC, denO, denG, denJ, denOw, Den.val, BOp.F, COp.F, Bi.F, Me.F, TgA.tgt, bind_ok, bind_exc, bind_bad, opR_some, getR_some, varR_some, truR_some, boolR_bool, andR_some, orR_some, itR_some, itemsOf, partR_int, e_var, e_varB, e_lit, e_op, e_op2, e_cons, e_nil, e_frz, e_tru, e_bool, e_seq, e_asg, e_expr, e_ret, e_retN, e_and, e_or, e_not, e_andT, e_orT, e_notT, e_if, e_un, e_m1, e_noPart, e_part, e_sl, e_only0, e_comp, e_in, e_rng1, e_enum, enR_list, e_next, e_brk, e_cont, e_ifS, e_for, e_par, e_ocons, e_asgT, e_app, e_setL, e_rais, e_cnil, e_cval, e_cown, e_callV, e_callO, callR_some, fresR_ok, fresR_exc, seqR_next, seqR_ret, seqR_exc, seqR_brk, seqR_cont, fin_ret, fin_next, fin_exc, List.getElem?_cons_zero, List.getElem?_cons_succ, List.set_cons_zero, List.set_cons_succ, List.map_cons, List.map_nil, List.nil_append, List.cons_append, List.all_cons, List.all_nil, List.contains_nil, Bool.or_self, Bool.and_self, Bool.or_false, Bool.false_or, Bool.or_true, Bool.true_or, Bool.and_true, Bool.true_and, Bool.and_false, Bool.false_and, Bool.not_true, Bool.not_false, or_true, true_or, and_true, true_and, if_true, if_false, ite_true, ite_false, Bool.false_eq_true, reduceCtorEq, isV, isS, get_nil, get_val, owns_n, owns_v, owns_o, Option.map_some, decide_true, decide_false, tru_bool, tru_list, tru_tup, ix_l, ix_t, int_i, abs_i, add_ii, len_l, len_t, lst_neg, tup_t, isi_str, isi_tup, isi_int, PyData.isStr, PyData.isTuple, PyData.isInt, PyData.plain, eq_ii, ne_ii, lt_ii, le_ii, gt_ii, ge_ii, eq_ss, ne_ss, le_ss, List.isEmpty_nil, mk, raisR, ll]
        rfl
      · have h1 : f.isEmpty = false := by cases f with | nil => exact absurd rfl hf | cons _ _ => rfl
        rw [if_pos (c := (some ((Txt.split t "\n").getLast l3) = some ("" : Str) ∧ f ≠ [])) ⟨by rw [hw], hf⟩, h1]
        simp only [dSs, dS, den, denV, denR, denC, denO, denG, denJ, denOw, Den.val, BOp.F, COp.F, Bi.F, Me.F, TgA.tgt, bind_ok, bind_exc, bind_bad, opR_some, getR_some, varR_some, truR_some, boolR_bool, andR_some, orR_some, itR_some, itemsOf, partR_int, e_var, e_varB, e_lit, e_op, e_op2, e_cons, e_nil, e_frz, e_tru, e_bool, e_seq, e_asg, e_expr, e_ret, e_retN, e_and, e_or, e_not, e_andT, e_orT, e_notT, e_if, e_un, e_m1, e_noPart, e_part, e_sl, e_only0, e_comp, e_in, e_rng1, e_enum, enR_list, e_next, e_brk, e_cont, e_ifS, e_for, e_par, e_ocons, e_asgT, e_app, e_setL, e_rais, e_cnil, e_cval, e_cown, e_callV, e_callO, callR_some, fresR_ok, fresR_exc, seqR_next, seqR_ret, seqR_exc, seqR_brk, seqR_cont, fin_ret, fin_next, fin_exc, List.getElem?_cons_zero, List.getElem?_cons_succ, List.set_cons_zero, List.set_cons_succ, List.map_cons, List.map_nil, List.nil_append, List.cons_append, List.all_cons, List.all_nil, List.contains_nil, Bool.or_self, Bool.and_self, Bool.or_false, Bool.false_or, Bool.or_true, Bool.true_or, Bool.and_true, Bool.true_and, Bool.and_false, Bool.false_and, Bool.not_true, Bool.not_false, or_true, true_or, and_true, true_and, if_true, if_false, ite_true, ite_false, Bool.false_eq_true, reduceCtorEq, isV, isS, get_nil, get_val, owns_n, owns_v, owns_o, Option.map_some, decide_true, decide_false, tru_bool, tru_list, tru_tup, ix_l, ix_t, int_i, abs_i, add_ii, len_l, len_t, lst_neg, tup_t, isi_str, isi_tup, isi_int, PyData.isStr, PyData.isTuple, PyData.isInt, PyData.plain, eq_ii, ne_ii, lt_ii, le_ii, gt_ii, ge_ii, eq_ss, ne_ss, le_ss, tu]
        rfl
    · rw [if_neg (c := (some ((Txt.split t "\n").getLast l3) = some ("" : Str) ∧ f ≠ [])) (fun z => hw (Option.some.inj z.1)), show decide ((Txt.split t "\n").getLast l3 = ("" : Str)) = false from decide_eq_false hw]
      simp only [dSs, dS, den, denV, denR, denC, denO, denG, denJ, denOw, Den.val, BOp.F, COp.F, Bi.F, Me.F, TgA.tgt, bind_ok, bind_exc, bind_bad, opR_some, getR_some, varR_some, truR_some, boolR_bool, andR_some, orR_some, itR_some, itemsOf, partR_int, e_var, e_varB, e_lit, e_op, e_op2, e_cons, e_nil, e_frz, e_tru, e_bool, e_seq, e_asg, e_expr, e_ret, e_retN, e_and, e_or, e_not, e_andT, e_orT, e_notT, e_if, e_un, e_m1, e_noPart, e_part, e_sl, e_only0, e_comp, e_in, e_rng1, e_enum, enR_list, e_next, e_brk, e_cont, e_ifS, e_for, e_par, e_ocons, e_asgT, e_app, e_setL, e_rais, e_cnil, e_cval, e_cown, e_callV, e_callO, callR_some, fresR_ok, fresR_exc, seqR_next, seqR_ret, seqR_exc, seqR_brk, seqR_cont, fin_ret, fin_next, fin_exc, List.getElem?_cons_zero, List.getElem?_cons_succ, List.set_cons_zero, List.set_cons_succ, List.map_cons, List.map_nil, List.nil_append, List.cons_append, List.all_cons, List.all_nil, List.contains_nil, Bool.or_self, Bool.and_self, Bool.or_false, Bool.false_or, Bool.or_true, Bool.true_or, Bool.and_true, Bool.true_and, Bool.and_false, Bool.false_and, Bool.not_true, Bool.not_false, or_true, true_or, and_true, true_and, if_true, if_false, ite_true, ite_false, Bool.false_eq_true, reduceCtorEq, isV, isS, get_nil, get_val, owns_n, owns_v, owns_o, Option.map_some, decide_true, decide_false, tru_bool, tru_list, tru_tup, ix_l, ix_t, int_i, abs_i, add_ii, len_l, len_t, lst_neg, tup_t, isi_str, isi_tup, isi_int, PyData.isStr, PyData.isTuple, PyData.isInt, PyData.plain, eq_ii, ne_ii, lt_ii, le_ii, gt_ii, ge_ii, eq_ss, ne_ss, le_ss, mk, raisR, ll]
      rfl
theorem told_F {t : Str} (ht : t.length < 3000) : ∃ ps, F__law_told [(0, .str t)] = .ok (0, toldV (told t)) ps := by
  have r := read_F ht
  have g9 : (G fl9).fns[4]? = some (("read_document" : Str), F_read_document) := rfl
  unfold F__law_told b__law_told
  simp only [e_run, List.length_cons, List.length_nil, if_true, List.map_cons, List.map_nil, List.cons_append, List.nil_append, List.replicate_succ, List.replicate_zero, Nat.reduceSub, Nat.reduceAdd]
  cases e : told t with
  | inl k =>
    rw [e] at r
    have r : F_read_document [(0, .str t)] = FRes.exc ⟨"BadForm", [("line", .int (k : Nat))]⟩ := r
    simp only [dSs, dS, den, denV, denR, denC, denO, denG, denJ, denOw, Den.val, BOp.F, COp.F, Bi.F, Me.F, TgA.tgt, bind_ok, bind_exc, bind_bad, opR_some, getR_some, varR_some, truR_some, boolR_bool, andR_some, orR_some, itR_some, itemsOf, partR_int, e_var, e_varB, e_lit, e_op, e_op2, e_cons, e_nil, e_frz, e_tru, e_bool, e_seq, e_asg, e_expr, e_ret, e_retN, e_and, e_or, e_not, e_andT, e_orT, e_notT, e_if, e_un, e_m1, e_noPart, e_part, e_sl, e_only0, e_comp, e_in, e_rng1, e_enum, enR_list, e_next, e_brk, e_cont, e_ifS, e_for, e_par, e_ocons, e_asgT, e_app, e_setL, e_rais, e_cnil, e_cval, e_cown, e_callV, e_callO, callR_some, fresR_ok, fresR_exc, seqR_next, seqR_ret, seqR_exc, seqR_brk, seqR_cont, fin_ret, fin_next, fin_exc, List.getElem?_cons_zero, List.getElem?_cons_succ, List.set_cons_zero, List.set_cons_succ, List.map_cons, List.map_nil, List.nil_append, List.cons_append, List.all_cons, List.all_nil, List.contains_nil, Bool.or_self, Bool.and_self, Bool.or_false, Bool.false_or, Bool.or_true, Bool.true_or, Bool.and_true, Bool.true_and, Bool.and_false, Bool.false_and, Bool.not_true, Bool.not_false, or_true, true_or, and_true, true_and, if_true, if_false, ite_true, ite_false, Bool.false_eq_true, reduceCtorEq, isV, isS, get_nil, get_val, owns_n, owns_v, owns_o, Option.map_some, decide_true, decide_false, tru_bool, tru_list, tru_tup, ix_l, ix_t, int_i, abs_i, add_ii, len_l, len_t, lst_neg, tup_t, isi_str, isi_tup, isi_int, PyData.isStr, PyData.isTuple, PyData.isInt, PyData.plain, eq_ii, ne_ii, lt_ii, le_ii, gt_ii, ge_ii, eq_ss, ne_ss, le_ss, gx_0, g9, r, Hd.slot, Option.all_some, e_try, tryR_exc, okSlot, forgetE, dHd, toldV]
    exact ⟨_, rfl⟩
  | inr f =>
    rw [e] at r
    have r : F_read_document [(0, .str t)] = FRes.ok (0, .tuple (f.map pd)) [none] := r
    simp only [dSs, dS, den, denV, denR, denC, denO, denG, denJ, denOw, Den.val, BOp.F, COp.F, Bi.F, Me.F, TgA.tgt, bind_ok, bind_exc, bind_bad, opR_some, getR_some, varR_some, truR_some, boolR_bool, andR_some, orR_some, itR_some, itemsOf, partR_int, e_var, e_varB, e_lit, e_op, e_op2, e_cons, e_nil, e_frz, e_tru, e_bool, e_seq, e_asg, e_expr, e_ret, e_retN, e_and, e_or, e_not, e_andT, e_orT, e_notT, e_if, e_un, e_m1, e_noPart, e_part, e_sl, e_only0, e_comp, e_in, e_rng1, e_enum, enR_list, e_next, e_brk, e_cont, e_ifS, e_for, e_par, e_ocons, e_asgT, e_app, e_setL, e_rais, e_cnil, e_cval, e_cown, e_callV, e_callO, callR_some, fresR_ok, fresR_exc, seqR_next, seqR_ret, seqR_exc, seqR_brk, seqR_cont, fin_ret, fin_next, fin_exc, List.getElem?_cons_zero, List.getElem?_cons_succ, List.set_cons_zero, List.set_cons_succ, List.map_cons, List.map_nil, List.nil_append, List.cons_append, List.all_cons, List.all_nil, List.contains_nil, Bool.or_self, Bool.and_self, Bool.or_false, Bool.false_or, Bool.or_true, Bool.true_or, Bool.and_true, Bool.true_and, Bool.and_false, Bool.false_and, Bool.not_true, Bool.not_false, or_true, true_or, and_true, true_and, if_true, if_false, ite_true, ite_false, Bool.false_eq_true, reduceCtorEq, isV, isS, get_nil, get_val, owns_n, owns_v, owns_o, Option.map_some, decide_true, decide_false, tru_bool, tru_list, tru_tup, ix_l, ix_t, int_i, abs_i, add_ii, len_l, len_t, lst_neg, tup_t, isi_str, isi_tup, isi_int, PyData.isStr, PyData.isTuple, PyData.isInt, PyData.plain, eq_ii, ne_ii, lt_ii, le_ii, gt_ii, ge_ii, eq_ss, ne_ss, le_ss, gx_0, g9, r, Hd.slot, Option.all_some, e_try, tryR_ok, okSlot, forgetE, dHd, toldV]
    exact ⟨_, rfl⟩
end K57
end

section
set_option Elab.async false
set_option linter.all false
set_option maxRecDepth 100000
set_option maxHeartbeats 4000000
namespace K57
open PySem PySem.Spec PyProof.Rows L2 Mb TL

def eFine : Ex := (.and (.cmp .eq (.bi .len (.var 4)) (.int 2)) (.and (.chain .le .le (.int 1) (.bi .len (.idx (.var 4) (.int 0))) (.int 8)) (.and (.cmp .eq (.comp [("sign", 6)] (.nm 6) (.inn (.idx (.var 4) (.int 0))) (.so (.not (.chain .le .le (.str "a") (.var 6) (.str "z")))) (.var 6)) (.lst .nil)) (.cmp .in' (.idx (.var 4) (.int 1)) (.glob 0)))))
def bLr : Sms := (.cons (.asg 4 (.me .split (.idx (.var 2) (.var 1)) (.str " ")))
    (.cons (.asg 5 eFine)
    (.cons (.ite (.or (.not (.var 5)) (.and (.cmp .ne (.var 3) (.lst .nil)) (.cmp .le (.idx (.var 4) (.int 0)) (.idx (.idx (.var 3) (.neg (.int 1))) (.int 0)))))
      (.cons (.ret (.bin .add (.var 1) (.int 1)))
      .nil)
      .nil)
    (.cons (.app 3 (.tup (.cons (.idx (.var 4) (.int 0)) (.cons (.idx (.var 4) (.int 1)) .nil))))
    .nil))))
theorem no_sp : ∀ k ∈ KS, 32 ∉ tl k := by decide +kernel
theorem no_em : ("" : Str) ∉ KS := by decide +kernel
theorem fine_no {o0 o1 o2 o3 o5 o6 : Option Ent} {ws : List Str} (h : ws.length ≠ 2) : (den (G fl8) eFine).v [o0, o1, o2, o3, some (1, .list (ws.map PyData.str)), o5, o6] = .ok ((0, .bool false), [o0, o1, o2, o3, some (1, .list (ws.map PyData.str)), o5, o6]) := by
  have e : decide (((ws.map PyData.str).length : Int) = 2) = false := decide_eq_false fun z => h (by rw [List.length_map] at z; omega)
  unfold eFine
  simp only [dSs, dS, den, denV, denR, denC, denO, denG, denJ, denOw, Den.val, BOp.F, COp.F, Bi.F, Me.F, TgA.tgt, bind_ok, bind_exc, bind_bad, opR_some, getR_some, varR_some, truR_some, boolR_bool, andR_some, orR_some, itR_some, itemsOf, partR_int, e_var, e_varB, e_lit, e_op, e_op2, e_cons, e_nil, e_frz, e_tru, e_bool, e_seq, e_asg, e_expr, e_ret, e_retN, e_and, e_or, e_not, e_andT, e_orT, e_notT, e_if, e_un, e_m1, e_noPart, e_part, e_sl, e_only0, e_comp, e_in, e_rng1, e_enum, enR_list, e_next, e_brk, e_cont, e_ifS, e_for, e_par, e_ocons, e_asgT, e_app, e_setL, e_rais, e_cnil, e_cval, e_cown, e_callV, e_callO, callR_some, fresR_ok, fresR_exc, seqR_next, seqR_ret, seqR_exc, seqR_brk, seqR_cont, fin_ret, fin_next, fin_exc, List.getElem?_cons_zero, List.getElem?_cons_succ, List.set_cons_zero, List.set_cons_succ, List.map_cons, List.map_nil, List.nil_append, List.cons_append, List.all_cons, List.all_nil, List.contains_nil, Bool.or_self, Bool.and_self, Bool.or_false, Bool.false_or, Bool.or_true, Bool.true_or, Bool.and_true, Bool.true_and, Bool.and_false, Bool.false_and, Bool.not_true, Bool.not_false, or_true, true_or, and_true, true_and, if_true, if_false, ite_true, ite_false, Bool.false_eq_true, reduceCtorEq, isV, isS, get_nil, get_val, owns_n, owns_v, owns_o, Option.map_some, decide_true, decide_false, tru_bool, tru_list, tru_tup, ix_l, ix_t, int_i, abs_i, add_ii, len_l, len_t, lst_neg, tup_t, isi_str, isi_tup, isi_int, PyData.isStr, PyData.isTuple, PyData.isInt, PyData.plain, eq_ii, ne_ii, lt_ii, le_ii, gt_ii, ge_ii, eq_ss, ne_ss, le_ss, e]
theorem fine_ok {o0 o1 o2 o3 o5 : Option Ent} {a b : Str} (ha : a.length ≤ LIM) : (den (G fl8) eFine).v [o0, o1, o2, o3, some (1, .list [.str a, .str b]), o5, none] = .ok ((0, .bool (isLab a && decide (b ∈ KS))), [o0, o1, o2, o3, some (1, .list [.str a, .str b]), o5, none]) := by
  have cs := comp_fm (vs := [6]) (tg := tgName [] 6) (ts := (den (G fl8) (.not (.chain .le .le (.str "a") (.var 6) (.str "z")))).t) (f := (den (G fl8) (.var 6)).v) (c := fun d => match d with | .str x => !(leS "a" x && leS x "z") | _ => true) (k := fun d => d) (ε := [o0, o1, o2, o3, some (1, .list [.str a, .str b]), o5, none])
    (a.cps.toList.map fun c => .str ⟨#[c]⟩) [] (by rw [List.length_map, List.length_nil, Nat.zero_add, Array.length_toList]; exact ha) (fun d hd => by
      obtain ⟨c, _, rfl⟩ := List.mem_map.mp hd
      refine ⟨[o0, o1, o2, o3, some (1, .list [.str a, .str b]), o5, some (0, .str ⟨#[c]⟩)], [o0, o1, o2, o3, some (1, .list [.str a, .str b]), o5, some (0, .str ⟨#[c]⟩)], rfl, ?_, (fun _ => rfl), fun _ => ⟨0, [o0, o1, o2, o3, some (1, .list [.str a, .str b]), o5, some (0, .str ⟨#[c]⟩)], ?_, rfl⟩⟩
      · simp only [dSs, dS, den, denV, denR, denC, denO, denG, denJ, denOw, Den.val, BOp.F, COp.F, Bi.F, Me.F, TgA.tgt, bind_ok, bind_exc, bind_bad, opR_some, getR_some, varR_some, truR_some, boolR_bool, andR_some, orR_some, itR_some, itemsOf, partR_int, e_var, e_varB, e_lit, e_op, e_op2, e_cons, e_nil, e_frz, e_tru, e_bool, e_seq, e_asg, e_expr, e_ret, e_retN, e_and, e_or, e_not, e_andT, e_orT, e_notT, e_if, e_un, e_m1, e_noPart, e_part, e_sl, e_only0, e_comp, e_in, e_rng1, e_enum, enR_list, e_next, e_brk, e_cont, e_ifS, e_for, e_par, e_ocons, e_asgT, e_app, e_setL, e_rais, e_cnil, e_cval, e_cown, e_callV, e_callO, callR_some, fresR_ok, fresR_exc, seqR_next, seqR_ret, seqR_exc, seqR_brk, seqR_cont, fin_ret, fin_next, fin_exc, List.getElem?_cons_zero, List.getElem?_cons_succ, List.set_cons_zero, List.set_cons_succ, List.map_cons, List.map_nil, List.nil_append, List.cons_append, List.all_cons, List.all_nil, List.contains_nil, Bool.or_self, Bool.and_self, Bool.or_false, Bool.false_or, Bool.or_true, Bool.true_or, Bool.and_true, Bool.true_and, Bool.and_false, Bool.false_and, Bool.not_true, Bool.not_false, or_true, true_or, and_true, true_and, if_true, if_false, ite_true, ite_false, Bool.false_eq_true, reduceCtorEq, isV, isS, get_nil, get_val, owns_n, owns_v, owns_o, Option.map_some, decide_true, decide_false, tru_bool, tru_list, tru_tup, ix_l, ix_t, int_i, abs_i, add_ii, len_l, len_t, lst_neg, tup_t, isi_str, isi_tup, isi_int, PyData.isStr, PyData.isTuple, PyData.isInt, PyData.plain, eq_ii, ne_ii, lt_ii, le_ii, gt_ii, ge_ii, eq_ss, ne_ss, le_ss, e_chain, chR_bool]
        cases leS "a" ⟨#[c]⟩ <;> rfl
      · simp only [dSs, dS, den, denV, denR, denC, denO, denG, denJ, denOw, Den.val, BOp.F, COp.F, Bi.F, Me.F, TgA.tgt, bind_ok, bind_exc, bind_bad, opR_some, getR_some, varR_some, truR_some, boolR_bool, andR_some, orR_some, itR_some, itemsOf, partR_int, e_var, e_varB, e_lit, e_op, e_op2, e_cons, e_nil, e_frz, e_tru, e_bool, e_seq, e_asg, e_expr, e_ret, e_retN, e_and, e_or, e_not, e_andT, e_orT, e_notT, e_if, e_un, e_m1, e_noPart, e_part, e_sl, e_only0, e_comp, e_in, e_rng1, e_enum, enR_list, e_next, e_brk, e_cont, e_ifS, e_for, e_par, e_ocons, e_asgT, e_app, e_setL, e_rais, e_cnil, e_cval, e_cown, e_callV, e_callO, callR_some, fresR_ok, fresR_exc, seqR_next, seqR_ret, seqR_exc, seqR_brk, seqR_cont, fin_ret, fin_next, fin_exc, List.getElem?_cons_zero, List.getElem?_cons_succ, List.set_cons_zero, List.set_cons_succ, List.map_cons, List.map_nil, List.nil_append, List.cons_append, List.all_cons, List.all_nil, List.contains_nil, Bool.or_self, Bool.and_self, Bool.or_false, Bool.false_or, Bool.or_true, Bool.true_or, Bool.and_true, Bool.true_and, Bool.and_false, Bool.false_and, Bool.not_true, Bool.not_false, or_true, true_or, and_true, true_and, if_true, if_false, ite_true, ite_false, Bool.false_eq_true, reduceCtorEq, isV, isS, get_nil, get_val, owns_n, owns_v, owns_o, Option.map_some, decide_true, decide_false, tru_bool, tru_list, tru_tup, ix_l, ix_t, int_i, abs_i, add_ii, len_l, len_t, lst_neg, tup_t, isi_str, isi_tup, isi_int, PyData.isStr, PyData.isTuple, PyData.isInt, PyData.plain, eq_ii, ne_ii, lt_ii, le_ii, gt_ii, ge_ii, eq_ss, ne_ss, le_ss])
  have fs : (((a.cps.toList.map fun c => PyData.str ⟨#[c]⟩).filter fun d => match d with | .str x => !(leS "a" x && leS x "z") | _ => true).map fun d => d).isEmpty = letters a := by
    rw [List.map_id']
    unfold letters
    generalize a.cps.toList = l
    induction l with
    | nil => rfl
    | cons c l ih =>
      rw [List.map_cons, List.filter_cons, List.all_cons]
      unfold letter
      cases h : leS "a" ⟨#[c]⟩ && leS ⟨#[c]⟩ "z" with
      | true =>
        simp only [h, Bool.not_true, Bool.false_eq_true, if_false, Bool.true_and]
        exact ih
      | false =>
        simp only [h, Bool.not_false, if_true, Bool.false_and]
        rfl
  have pf : PyData.plainAll (((a.cps.toList.map fun c => PyData.str ⟨#[c]⟩).filter fun d => match d with | .str x => !(leS "a" x && leS x "z") | _ => true).map fun d => d) = true := by
    rw [List.map_id']
    generalize a.cps.toList = l
    induction l with
    | nil => rfl
    | cons c l ih =>
      rw [List.map_cons, List.filter_cons]
      dsimp only
      by_cases h : (!(leS "a" ⟨#[c]⟩ && leS ⟨#[c]⟩ "z")) = true
      · rw [if_pos h, PyData.plainAll, ih]
        simp [PyData.plain]
      · rw [if_neg h]
        exact ih
  have el := fun n m => eq_lnil n m _ pf
  rw [fs] at el
  have a3 : wipeE [o0, o1, o2, o3, some (1, .list [.str a, .str b]), o5, none] [6] = [o0, o1, o2, o3, some (1, .list [.str a, .str b]), o5, none] := rfl
  have a4 : backE [o0, o1, o2, o3, some (1, .list [.str a, .str b]), o5, none] [o0, o1, o2, o3, some (1, .list [.str a, .str b]), o5, none] [6] = [o0, o1, o2, o3, some (1, .list [.str a, .str b]), o5, none] := rfl
  simp only [dSs, dS, den, denV, denR, denC, denO, denG, denJ, denOw, Den.val, BOp.F, COp.F, Bi.F, Me.F, TgA.tgt, bind_ok, bind_exc, bind_bad, opR_some, getR_some, varR_some, truR_some, boolR_bool, andR_some, orR_some, itR_some, itemsOf, partR_int, e_var, e_varB, e_lit, e_op, e_op2, e_cons, e_nil, e_frz, e_tru, e_bool, e_seq, e_asg, e_expr, e_ret, e_retN, e_and, e_or, e_not, e_andT, e_orT, e_notT, e_if, e_un, e_m1, e_noPart, e_part, e_sl, e_only0, e_comp, e_in, e_rng1, e_enum, enR_list, e_next, e_brk, e_cont, e_ifS, e_for, e_par, e_ocons, e_asgT, e_app, e_setL, e_rais, e_cnil, e_cval, e_cown, e_callV, e_callO, callR_some, fresR_ok, fresR_exc, seqR_next, seqR_ret, seqR_exc, seqR_brk, seqR_cont, fin_ret, fin_next, fin_exc, List.getElem?_cons_zero, List.getElem?_cons_succ, List.set_cons_zero, List.set_cons_succ, List.map_cons, List.map_nil, List.nil_append, List.cons_append, List.all_cons, List.all_nil, List.contains_nil, Bool.or_self, Bool.and_self, Bool.or_false, Bool.false_or, Bool.or_true, Bool.true_or, Bool.and_true, Bool.true_and, Bool.and_false, Bool.false_and, Bool.not_true, Bool.not_false, or_true, true_or, and_true, true_and, if_true, if_false, ite_true, ite_false, Bool.false_eq_true, reduceCtorEq, isV, isS, get_nil, get_val, owns_n, owns_v, owns_o, Option.map_some, decide_true, decide_false, tru_bool, tru_list, tru_tup, ix_l, ix_t, int_i, abs_i, add_ii, len_l, len_t, lst_neg, tup_t, isi_str, isi_tup, isi_int, PyData.isStr, PyData.isTuple, PyData.isInt, PyData.plain, eq_ii, ne_ii, lt_ii, le_ii, gt_ii, ge_ii, eq_ss, ne_ss, le_ss] at cs
  have e2 : decide ((2 : Int) = 2) = true := rfl
  have hn : decide ((1 : Int) ≤ (a.length : Int)) = !decide (a = ("" : Str)) := by
    by_cases h : a = ("" : Str)
    · subst h; rfl
    · rw [decide_eq_false h, Bool.not_false]
      refine decide_eq_true ?_
      have : a.length ≠ 0 := fun z => h (by
        refine ext_tl ?_
        have y : (tl a).length = 0 := by rw [tlen]; exact z
        exact List.length_eq_zero_iff.mp y)
      omega
  unfold eFine isLab
  simp only [dSs, dS, den, denV, denR, denC, denO, denG, denJ, denOw, Den.val, BOp.F, COp.F, Bi.F, Me.F, TgA.tgt, bind_ok, bind_exc, bind_bad, opR_some, getR_some, varR_some, truR_some, boolR_bool, andR_some, orR_some, itR_some, itemsOf, partR_int, e_var, e_varB, e_lit, e_op, e_op2, e_cons, e_nil, e_frz, e_tru, e_bool, e_seq, e_asg, e_expr, e_ret, e_retN, e_and, e_or, e_not, e_andT, e_orT, e_notT, e_if, e_un, e_m1, e_noPart, e_part, e_sl, e_only0, e_comp, e_in, e_rng1, e_enum, enR_list, e_next, e_brk, e_cont, e_ifS, e_for, e_par, e_ocons, e_asgT, e_app, e_setL, e_rais, e_cnil, e_cval, e_cown, e_callV, e_callO, callR_some, fresR_ok, fresR_exc, seqR_next, seqR_ret, seqR_exc, seqR_brk, seqR_cont, fin_ret, fin_next, fin_exc, List.getElem?_cons_zero, List.getElem?_cons_succ, List.set_cons_zero, List.set_cons_succ, List.map_cons, List.map_nil, List.nil_append, List.cons_append, List.all_cons, List.all_nil, List.contains_nil, Bool.or_self, Bool.and_self, Bool.or_false, Bool.false_or, Bool.or_true, Bool.true_or, Bool.and_true, Bool.true_and, Bool.and_false, Bool.false_and, Bool.not_true, Bool.not_false, or_true, true_or, and_true, true_and, if_true, if_false, ite_true, ite_false, Bool.false_eq_true, reduceCtorEq, isV, isS, get_nil, get_val, owns_n, owns_v, owns_o, Option.map_some, decide_true, decide_false, tru_bool, tru_list, tru_tup, ix_l, ix_t, int_i, abs_i, add_ii, len_l, len_t, lst_neg, tup_t, isi_str, isi_tup, isi_int, PyData.isStr, PyData.isTuple, PyData.isInt, PyData.plain, eq_ii, ne_ii, lt_ii, le_ii, gt_ii, ge_ii, eq_ss, ne_ss, le_ss, ix_l, at_0, at_1, e_chain, chR_bool, len_s, ha, kin, gl0, hn]
  have l2 : decide ((([PyData.str a, PyData.str b].length : Nat) : Int) = 2) = true := rfl
  have ln : lstD [] = some (1, .list []) := lstD_of rfl (show 0 ≤ 16777216 by decide)
  rw [l2]
  cases decide (a = ("" : Str)) with
  | true =>
    simp only [dSs, dS, den, denV, denR, denC, denO, denG, denJ, denOw, Den.val, BOp.F, COp.F, Bi.F, Me.F, TgA.tgt, bind_ok, bind_exc, bind_bad, opR_some, getR_some, varR_some, truR_some, boolR_bool, andR_some, orR_some, itR_some, itemsOf, partR_int, e_var, e_varB, e_lit, e_op, e_op2, e_cons, e_nil, e_frz, e_tru, e_bool, e_seq, e_asg, e_expr, e_ret, e_retN, e_and, e_or, e_not, e_andT, e_orT, e_notT, e_if, e_un, e_m1, e_noPart, e_part, e_sl, e_only0, e_comp, e_in, e_rng1, e_enum, enR_list, e_next, e_brk, e_cont, e_ifS, e_for, e_par, e_ocons, e_asgT, e_app, e_setL, e_rais, e_cnil, e_cval, e_cown, e_callV, e_callO, callR_some, fresR_ok, fresR_exc, seqR_next, seqR_ret, seqR_exc, seqR_brk, seqR_cont, fin_ret, fin_next, fin_exc, List.getElem?_cons_zero, List.getElem?_cons_succ, List.set_cons_zero, List.set_cons_succ, List.map_cons, List.map_nil, List.nil_append, List.cons_append, List.all_cons, List.all_nil, List.contains_nil, Bool.or_self, Bool.and_self, Bool.or_false, Bool.false_or, Bool.or_true, Bool.true_or, Bool.and_true, Bool.true_and, Bool.and_false, Bool.false_and, Bool.not_true, Bool.not_false, or_true, true_or, and_true, true_and, if_true, if_false, ite_true, ite_false, Bool.false_eq_true, reduceCtorEq, isV, isS, get_nil, get_val, owns_n, owns_v, owns_o, Option.map_some, decide_true, decide_false, tru_bool, tru_list, tru_tup, ix_l, ix_t, int_i, abs_i, add_ii, len_l, len_t, lst_neg, tup_t, isi_str, isi_tup, isi_int, PyData.isStr, PyData.isTuple, PyData.isInt, PyData.plain, eq_ii, ne_ii, lt_ii, le_ii, gt_ii, ge_ii, eq_ss, ne_ss, le_ss]
  | false =>
    cases decide ((a.length : Int) ≤ 8) with
    | false => simp only [dSs, dS, den, denV, denR, denC, denO, denG, denJ, denOw, Den.val, BOp.F, COp.F, Bi.F, Me.F, TgA.tgt, bind_ok, bind_exc, bind_bad, opR_some, getR_some, varR_some, truR_some, boolR_bool, andR_some, orR_some, itR_some, itemsOf, partR_int, e_var, e_varB, e_lit, e_op, e_op2, e_cons, e_nil, e_frz, e_tru, e_bool, e_seq, e_asg, e_expr, e_ret, e_retN, e_and, e_or, e_not, e_andT, e_orT, e_notT, e_if, e_un, e_m1, e_noPart, e_part, e_sl, e_only0, e_comp, e_in, e_rng1, e_enum, enR_list, e_next, e_brk, e_cont, e_ifS, e_for, e_par, e_ocons, e_asgT, e_app, e_setL, e_rais, e_cnil, e_cval, e_cown, e_callV, e_callO, callR_some, fresR_ok, fresR_exc, seqR_next, seqR_ret, seqR_exc, seqR_brk, seqR_cont, fin_ret, fin_next, fin_exc, List.getElem?_cons_zero, List.getElem?_cons_succ, List.set_cons_zero, List.set_cons_succ, List.map_cons, List.map_nil, List.nil_append, List.cons_append, List.all_cons, List.all_nil, List.contains_nil, Bool.or_self, Bool.and_self, Bool.or_false, Bool.false_or, Bool.or_true, Bool.true_or, Bool.and_true, Bool.true_and, Bool.and_false, Bool.false_and, Bool.not_true, Bool.not_false, or_true, true_or, and_true, true_and, if_true, if_false, ite_true, ite_false, Bool.false_eq_true, reduceCtorEq, isV, isS, get_nil, get_val, owns_n, owns_v, owns_o, Option.map_some, decide_true, decide_false, tru_bool, tru_list, tru_tup, ix_l, ix_t, int_i, abs_i, add_ii, len_l, len_t, lst_neg, tup_t, isi_str, isi_tup, isi_int, PyData.isStr, PyData.isTuple, PyData.isInt, PyData.plain, eq_ii, ne_ii, lt_ii, le_ii, gt_ii, ge_ii, eq_ss, ne_ss, le_ss]
    | true =>
      simp only [dSs, dS, den, denV, denR, denC, denO, denG, denJ, denOw, Den.val, BOp.F, COp.F, Bi.F, Me.F, TgA.tgt, bind_ok, bind_exc, bind_bad, opR_some, getR_some, varR_some, truR_some, boolR_bool, andR_some, orR_some, itR_some, itemsOf, partR_int, e_var, e_varB, e_lit, e_op, e_op2, e_cons, e_nil, e_frz, e_tru, e_bool, e_seq, e_asg, e_expr, e_ret, e_retN, e_and, e_or, e_not, e_andT, e_orT, e_notT, e_if, e_un, e_m1, e_noPart, e_part, e_sl, e_only0, e_comp, e_in, e_rng1, e_enum, enR_list, e_next, e_brk, e_cont, e_ifS, e_for, e_par, e_ocons, e_asgT, e_app, e_setL, e_rais, e_cnil, e_cval, e_cown, e_callV, e_callO, callR_some, fresR_ok, fresR_exc, seqR_next, seqR_ret, seqR_exc, seqR_brk, seqR_cont, fin_ret, fin_next, fin_exc, List.getElem?_cons_zero, List.getElem?_cons_succ, List.set_cons_zero, List.set_cons_succ, List.map_cons, List.map_nil, List.nil_append, List.cons_append, List.all_cons, List.all_nil, List.contains_nil, Bool.or_self, Bool.and_self, Bool.or_false, Bool.false_or, Bool.or_true, Bool.true_or, Bool.and_true, Bool.true_and, Bool.and_false, Bool.false_and, Bool.not_true, Bool.not_false, or_true, true_or, and_true, true_and, if_true, if_false, ite_true, ite_false, Bool.false_eq_true, reduceCtorEq, isV, isS, get_nil, get_val, owns_n, owns_v, owns_o, Option.map_some, decide_true, decide_false, tru_bool, tru_list, tru_tup, ix_l, ix_t, int_i, abs_i, add_ii, len_l, len_t, lst_neg, tup_t, isi_str, isi_tup, isi_int, PyData.isStr, PyData.isTuple, PyData.isInt, PyData.plain, eq_ii, ne_ii, lt_ii, le_ii, gt_ii, ge_ii, eq_ss, ne_ss, le_ss, ix_l, at_0, at_1, ha, a3, cs, a4, el, ln, kin, gl0]
      cases letters a with
      | false => simp only [dSs, dS, den, denV, denR, denC, denO, denG, denJ, denOw, Den.val, BOp.F, COp.F, Bi.F, Me.F, TgA.tgt, bind_ok, bind_exc, bind_bad, opR_some, getR_some, varR_some, truR_some, boolR_bool, andR_some, orR_some, itR_some, itemsOf, partR_int, e_var, e_varB, e_lit, e_op, e_op2, e_cons, e_nil, e_frz, e_tru, e_bool, e_seq, e_asg, e_expr, e_ret, e_retN, e_and, e_or, e_not, e_andT, e_orT, e_notT, e_if, e_un, e_m1, e_noPart, e_part, e_sl, e_only0, e_comp, e_in, e_rng1, e_enum, enR_list, e_next, e_brk, e_cont, e_ifS, e_for, e_par, e_ocons, e_asgT, e_app, e_setL, e_rais, e_cnil, e_cval, e_cown, e_callV, e_callO, callR_some, fresR_ok, fresR_exc, seqR_next, seqR_ret, seqR_exc, seqR_brk, seqR_cont, fin_ret, fin_next, fin_exc, List.getElem?_cons_zero, List.getElem?_cons_succ, List.set_cons_zero, List.set_cons_succ, List.map_cons, List.map_nil, List.nil_append, List.cons_append, List.all_cons, List.all_nil, List.contains_nil, Bool.or_self, Bool.and_self, Bool.or_false, Bool.false_or, Bool.or_true, Bool.true_or, Bool.and_true, Bool.true_and, Bool.and_false, Bool.false_and, Bool.not_true, Bool.not_false, or_true, true_or, and_true, true_and, if_true, if_false, ite_true, ite_false, Bool.false_eq_true, reduceCtorEq, isV, isS, get_nil, get_val, owns_n, owns_v, owns_o, Option.map_some, decide_true, decide_false, tru_bool, tru_list, tru_tup, ix_l, ix_t, int_i, abs_i, add_ii, len_l, len_t, lst_neg, tup_t, isi_str, isi_tup, isi_int, PyData.isStr, PyData.isTuple, PyData.isInt, PyData.plain, eq_ii, ne_ii, lt_ii, le_ii, gt_ii, ge_ii, eq_ss, ne_ss, le_ss]
      | true =>
        simp only [dSs, dS, den, denV, denR, denC, denO, denG, denJ, denOw, Den.val, BOp.F, COp.F, Bi.F, Me.F, TgA.tgt, bind_ok, bind_exc, bind_bad, opR_some, getR_some, varR_some, truR_some, boolR_bool, andR_some, orR_some, itR_some, itemsOf, partR_int, e_var, e_varB, e_lit, e_op, e_op2, e_cons, e_nil, e_frz, e_tru, e_bool, e_seq, e_asg, e_expr, e_ret, e_retN, e_and, e_or, e_not, e_andT, e_orT, e_notT, e_if, e_un, e_m1, e_noPart, e_part, e_sl, e_only0, e_comp, e_in, e_rng1, e_enum, enR_list, e_next, e_brk, e_cont, e_ifS, e_for, e_par, e_ocons, e_asgT, e_app, e_setL, e_rais, e_cnil, e_cval, e_cown, e_callV, e_callO, callR_some, fresR_ok, fresR_exc, seqR_next, seqR_ret, seqR_exc, seqR_brk, seqR_cont, fin_ret, fin_next, fin_exc, List.getElem?_cons_zero, List.getElem?_cons_succ, List.set_cons_zero, List.set_cons_succ, List.map_cons, List.map_nil, List.nil_append, List.cons_append, List.all_cons, List.all_nil, List.contains_nil, Bool.or_self, Bool.and_self, Bool.or_false, Bool.false_or, Bool.or_true, Bool.true_or, Bool.and_true, Bool.true_and, Bool.and_false, Bool.false_and, Bool.not_true, Bool.not_false, or_true, true_or, and_true, true_and, if_true, if_false, ite_true, ite_false, Bool.false_eq_true, reduceCtorEq, isV, isS, get_nil, get_val, owns_n, owns_v, owns_o, Option.map_some, decide_true, decide_false, tru_bool, tru_list, tru_tup, ix_l, ix_t, int_i, abs_i, add_ii, len_l, len_t, lst_neg, tup_t, isi_str, isi_tup, isi_int, PyData.isStr, PyData.isTuple, PyData.isInt, PyData.plain, eq_ii, ne_ii, lt_ii, le_ii, gt_ii, ge_ii, eq_ss, ne_ss, le_ss, ix_l, at_0, at_1, ha, kin, Bool.xor_false, Bool.false_xor]
end K57
end

section
set_option Elab.async false
set_option linter.all false
set_option maxRecDepth 100000
set_option maxHeartbeats 4000000
namespace K57
open PySem PySem.Spec PyProof.Rows L2 Mb TL

/-- what the words say is what the partition says -/
theorem ix_str (n m : Nat) (ls : List Str) (i : Nat) {l : Str} (h : ls[i]? = some l) : ixF [(n, .list (ls.map PyData.str)), (m, .int (i : Nat))] = some (n - 1, .str l) := by
  rw [ix_l, at_nat, List.getElem?_map, h]
  rfl
theorem pack {α : Type} {X : α} {A B : Ev → α} {R : Ev → Prop} {c : Bool} (ε : Ev) (h : c = true → X = A ε ∧ R ε) (h2 : c = false → X = B ε) : ∃ ε', X = (if c = true then A ε' else B ε') ∧ (c = true → R ε') := by
  cases c with
  | true => exact ⟨ε, (h rfl).1, fun _ => (h rfl).2⟩
  | false => exact ⟨ε, h2 rfl, nofun⟩
theorem lr_step {t : PyData} {Ls : List Str} {fnd : List (Str × Str)} {i : Nat} {l : Str} {e4 e5 : Option Ent} (hi : Ls[i]? = some l) (hl : l.length + 2 ≤ LIM) (hf : fnd.length < LIM) :
    ∃ ε', dSs (G fl8) [] bLr [some (0, t), some (0, .int i), some (1, .list (Ls.map PyData.str)), some (1, .list (fnd.map pd)), e4, e5, none] =
      (if lineOk fnd (lp l) = true then .ok (.next, ε') else .ok (.ret (0, .int ((i : Int) + 1)), ε')) ∧ (lineOk fnd (lp l) = true → ∃ z4 z5, ε' = [some (0, t), some (0, .int i), some (1, .list (Ls.map PyData.str)), some (1, .list ((fnd ++ [lp l]).map pd)), z4, z5, none]) := by
  have sp : (" " : Str).length ≠ 0 := by decide
  have h1 : dS (G fl8) [] (.asg 4 (.me .split (.idx (.var 2) (.var 1)) (.str " "))) [some (0, t), some (0, .int i), some (1, .list (Ls.map PyData.str)), some (1, .list (fnd.map pd)), e4, e5, none] =
      .ok (.next, [some (0, t), some (0, .int i), some (1, .list (Ls.map PyData.str)), some (1, .list (fnd.map pd)), some (1, .list ((Txt.split l " ").map PyData.str)), e5, none]) := by
    simp only [dSs, dS, den, denV, denR, denC, denO, denG, denJ, denOw, Den.val, BOp.F, COp.F, Bi.F, Me.F, TgA.tgt, bind_ok, bind_exc, bind_bad, opR_some, getR_some, varR_some, truR_some, boolR_bool, andR_some, orR_some, itR_some, itemsOf, partR_int, e_var, e_varB, e_lit, e_op, e_op2, e_cons, e_nil, e_frz, e_tru, e_bool, e_seq, e_asg, e_expr, e_ret, e_retN, e_and, e_or, e_not, e_andT, e_orT, e_notT, e_if, e_un, e_m1, e_noPart, e_part, e_sl, e_only0, e_comp, e_in, e_rng1, e_enum, enR_list, e_next, e_brk, e_cont, e_ifS, e_for, e_par, e_ocons, e_asgT, e_app, e_setL, e_rais, e_cnil, e_cval, e_cown, e_callV, e_callO, callR_some, fresR_ok, fresR_exc, seqR_next, seqR_ret, seqR_exc, seqR_brk, seqR_cont, fin_ret, fin_next, fin_exc, List.getElem?_cons_zero, List.getElem?_cons_succ, List.set_cons_zero, List.set_cons_succ, List.map_cons, List.map_nil, List.nil_append, List.cons_append, List.all_cons, List.all_nil, List.contains_nil, Bool.or_self, Bool.and_self, Bool.or_false, Bool.false_or, Bool.or_true, Bool.true_or, Bool.and_true, Bool.true_and, Bool.and_false, Bool.false_and, Bool.not_true, Bool.not_false, or_true, true_or, and_true, true_and, if_true, if_false, ite_true, ite_false, Bool.false_eq_true, reduceCtorEq, isV, isS, get_nil, get_val, owns_n, owns_v, owns_o, Option.map_some, decide_true, decide_false, tru_bool, tru_list, tru_tup, ix_l, ix_t, int_i, abs_i, add_ii, len_l, len_t, lst_neg, tup_t, isi_str, isi_tup, isi_int, PyData.isStr, PyData.isTuple, PyData.isInt, PyData.plain, eq_ii, ne_ii, lt_ii, le_ii, gt_ii, ge_ii, eq_ss, ne_ss, le_ss, ix_str _ _ _ _ hi, split_s, sp, hl, ne_eq, not_false_eq_true, and_self]
  have bad : ∀ ws : List PyData, dSs (G fl8) [] (.cons (.ite (.or (.not (.var 5)) (.and (.cmp .ne (.var 3) (.lst .nil)) (.cmp .le (.idx (.var 4) (.int 0)) (.idx (.idx (.var 3) (.neg (.int 1))) (.int 0)))))
      (.cons (.ret (.bin .add (.var 1) (.int 1)))
      .nil)
      .nil)
    (.cons (.app 3 (.tup (.cons (.idx (.var 4) (.int 0)) (.cons (.idx (.var 4) (.int 1)) .nil))))
    .nil)) [some (0, t), some (0, .int i), some (1, .list (Ls.map PyData.str)), some (1, .list (fnd.map pd)), some (1, .list ws), some (0, .bool false), none] = .ok (.ret (0, .int ((i : Int) + 1)), [some (0, t), some (0, .int i), some (1, .list (Ls.map PyData.str)), some (1, .list (fnd.map pd)), some (1, .list ws), some (0, .bool false), none]) := by
    intro ws
    simp only [dSs, dS, den, denV, denR, denC, denO, denG, denJ, denOw, Den.val, BOp.F, COp.F, Bi.F, Me.F, TgA.tgt, bind_ok, bind_exc, bind_bad, opR_some, getR_some, varR_some, truR_some, boolR_bool, andR_some, orR_some, itR_some, itemsOf, partR_int, e_var, e_varB, e_lit, e_op, e_op2, e_cons, e_nil, e_frz, e_tru, e_bool, e_seq, e_asg, e_expr, e_ret, e_retN, e_and, e_or, e_not, e_andT, e_orT, e_notT, e_if, e_un, e_m1, e_noPart, e_part, e_sl, e_only0, e_comp, e_in, e_rng1, e_enum, enR_list, e_next, e_brk, e_cont, e_ifS, e_for, e_par, e_ocons, e_asgT, e_app, e_setL, e_rais, e_cnil, e_cval, e_cown, e_callV, e_callO, callR_some, fresR_ok, fresR_exc, seqR_next, seqR_ret, seqR_exc, seqR_brk, seqR_cont, fin_ret, fin_next, fin_exc, List.getElem?_cons_zero, List.getElem?_cons_succ, List.set_cons_zero, List.set_cons_succ, List.map_cons, List.map_nil, List.nil_append, List.cons_append, List.all_cons, List.all_nil, List.contains_nil, Bool.or_self, Bool.and_self, Bool.or_false, Bool.false_or, Bool.or_true, Bool.true_or, Bool.and_true, Bool.true_and, Bool.and_false, Bool.false_and, Bool.not_true, Bool.not_false, or_true, true_or, and_true, true_and, if_true, if_false, ite_true, ite_false, Bool.false_eq_true, reduceCtorEq, isV, isS, get_nil, get_val, owns_n, owns_v, owns_o, Option.map_some, decide_true, decide_false, tru_bool, tru_list, tru_tup, ix_l, ix_t, int_i, abs_i, add_ii, len_l, len_t, lst_neg, tup_t, isi_str, isi_tup, isi_int, PyData.isStr, PyData.isTuple, PyData.isInt, PyData.plain, eq_ii, ne_ii, lt_ii, le_ii, gt_ii, ge_ii, eq_ss, ne_ss, le_ss]
  have asg : ∀ (ε : Ev) (o : Option Ent) (q : Ent × Ev), (den (G fl8) eFine).v (o :: ε) = .ok q → dS (G fl8) [] (.asg 5 eFine) (o :: ε) = .ok (.next, q.2.set 5 (some q.1)) := by
    intro ε o q h
    simp only [dS]
    rw [e_asg, h, bind_ok]
    rfl
  unfold bLr
  simp only [dSs, e_seq]
  rw [h1, seqR_next]
  simp only [dSs, e_seq]
  have no : ∀ ws : List Str, ws.length ≠ 2 → lineOk fnd (lp l) = false → Txt.split l " " = ws → _ := fun ws hw hk e => by
    have a := asg _ _ _ (fine_no (o0 := some (0, t)) (o1 := some (0, .int i)) (o2 := some (1, .list (Ls.map PyData.str))) (o3 := some (1, .list (fnd.map pd))) (o5 := e5) (o6 := none) hw)
    exact a
  rcases words l with ⟨_, w, pa⟩ | ⟨a, b, pa, nb, w⟩ | ⟨a, b, pa, ib, w⟩
  · have hk : lineOk fnd (lp l) = false := by
      unfold lineOk lp
      rw [pa]
      simp only [decide_eq_false no_em, Bool.and_false, Bool.false_and]
    have a := no [l] (by simp) hk w
    rw [w, a, seqR_next]
    rw [hk]
    exact ⟨_, bad _, nofun⟩
  · have e1 : lp l = (a, b) := by unfold lp; rw [pa]
    have fo := asg _ _ _ (fine_ok (o0 := some (0, t)) (o1 := some (0, .int i)) (o2 := some (1, .list (Ls.map PyData.str))) (o3 := some (1, .list (fnd.map pd))) (o5 := e5) (a := a) (b := b) (by
      have := (part_len l).1
      rw [pa] at this
      have this : a.length ≤ l.length := this
      omega))
    rw [w]
    have fo : dS (G fl8) [] (.asg 5 eFine) [some (0, t), some (0, .int i), some (1, .list (Ls.map PyData.str)), some (1, .list (fnd.map pd)), some (1, .list (List.map PyData.str [a, b])), e5, none] = .ok (.next, [some (0, t), some (0, .int i), some (1, .list (Ls.map PyData.str)), some (1, .list (fnd.map pd)), some (1, .list [.str a, .str b]), some (0, .bool (isLab a && decide (b ∈ KS))), none]) := fo
    rw [fo, seqR_next, e1]
    have hf' : (fnd.map pd).length < LIM := by rw [List.length_map]; exact hf
    have ln : lstD [] = some (1, .list []) := lstD_of rfl (show 0 ≤ 16777216 by decide)
    have nl := fun n m => ne_lnil n m _ (plain_pds fnd)
    unfold lineOk lastOk
    dsimp only
    cases isLab a && decide (b ∈ KS) with
    | false => exact ⟨_, bad _, nofun⟩
    | true =>
      rcases List.eq_nil_or_concat fnd with e | ⟨r, q, e⟩
      · subst e
        refine pack [some (0, t), some (0, .int i), some (1, .list (Ls.map PyData.str)), some (1, .list [pd (a, b)]), some (1, .list [.str a, .str b]), some (0, .bool true), none] (fun _ => ⟨?_, _, _, rfl⟩) nofun
        simp only [dSs, dS, den, denV, denR, denC, denO, denG, denJ, denOw, Den.val, BOp.F, COp.F, Bi.F, Me.F, TgA.tgt, bind_ok, bind_exc, bind_bad, opR_some, getR_some, varR_some, truR_some, boolR_bool, andR_some, orR_some, itR_some, itemsOf, partR_int, e_var, e_varB, e_lit, e_op, e_op2, e_cons, e_nil, e_frz, e_tru, e_bool, e_seq, e_asg, e_expr, e_ret, e_retN, e_and, e_or, e_not, e_andT, e_orT, e_notT, e_if, e_un, e_m1, e_noPart, e_part, e_sl, e_only0, e_comp, e_in, e_rng1, e_enum, enR_list, e_next, e_brk, e_cont, e_ifS, e_for, e_par, e_ocons, e_asgT, e_app, e_setL, e_rais, e_cnil, e_cval, e_cown, e_callV, e_callO, callR_some, fresR_ok, fresR_exc, seqR_next, seqR_ret, seqR_exc, seqR_brk, seqR_cont, fin_ret, fin_next, fin_exc, List.getElem?_cons_zero, List.getElem?_cons_succ, List.set_cons_zero, List.set_cons_succ, List.map_cons, List.map_nil, List.nil_append, List.cons_append, List.all_cons, List.all_nil, List.contains_nil, Bool.or_self, Bool.and_self, Bool.or_false, Bool.false_or, Bool.or_true, Bool.true_or, Bool.and_true, Bool.true_and, Bool.and_false, Bool.false_and, Bool.not_true, Bool.not_false, or_true, true_or, and_true, true_and, if_true, if_false, ite_true, ite_false, Bool.false_eq_true, reduceCtorEq, isV, isS, get_nil, get_val, owns_n, owns_v, owns_o, Option.map_some, decide_true, decide_false, tru_bool, tru_list, tru_tup, ix_l, ix_t, int_i, abs_i, add_ii, len_l, len_t, lst_neg, tup_t, isi_str, isi_tup, isi_int, PyData.isStr, PyData.isTuple, PyData.isInt, PyData.plain, eq_ii, ne_ii, lt_ii, le_ii, gt_ii, ge_ii, eq_ss, ne_ss, le_ss, nl, ln, ix_l, at_0, at_1, List.isEmpty_nil, isLst, tup2, appR_list, List.length_nil, show 0 < LIM by decide]
        rfl
      · rw [List.concat_eq_append] at e
        subst e
        have e1 : ((r ++ [q]).map pd) = r.map pd ++ [pd q] := by simp
        have e2 : (r.map pd ++ [pd q]).isEmpty = false := by cases r <;> rfl
        have e3 : (r.map pd ++ [pd q]).getLast? = some (pd q) := by simp
        have e4 : (r ++ [q] ++ [(a, b)]).map pd = r.map pd ++ [pd q] ++ [.tuple [.str a, .str b]] := by simp [pd]
        rw [e1] at hf' nl ⊢
        rw [e4, List.getLast?_concat]
        dsimp only
        by_cases hq : leS a q.1 = true
        · refine pack [some (0, t), some (0, .int i), some (1, .list (Ls.map PyData.str)), some (1, .list (r.map pd ++ [pd q])), some (1, .list [.str a, .str b]), some (0, .bool true), none] (fun z => absurd z (by rw [hq]; decide)) (fun _ => ?_)
          simp only [dSs, dS, den, denV, denR, denC, denO, denG, denJ, denOw, Den.val, BOp.F, COp.F, Bi.F, Me.F, TgA.tgt, bind_ok, bind_exc, bind_bad, opR_some, getR_some, varR_some, truR_some, boolR_bool, andR_some, orR_some, itR_some, itemsOf, partR_int, e_var, e_varB, e_lit, e_op, e_op2, e_cons, e_nil, e_frz, e_tru, e_bool, e_seq, e_asg, e_expr, e_ret, e_retN, e_and, e_or, e_not, e_andT, e_orT, e_notT, e_if, e_un, e_m1, e_noPart, e_part, e_sl, e_only0, e_comp, e_in, e_rng1, e_enum, enR_list, e_next, e_brk, e_cont, e_ifS, e_for, e_par, e_ocons, e_asgT, e_app, e_setL, e_rais, e_cnil, e_cval, e_cown, e_callV, e_callO, callR_some, fresR_ok, fresR_exc, seqR_next, seqR_ret, seqR_exc, seqR_brk, seqR_cont, fin_ret, fin_next, fin_exc, List.getElem?_cons_zero, List.getElem?_cons_succ, List.set_cons_zero, List.set_cons_succ, List.map_cons, List.map_nil, List.nil_append, List.cons_append, List.all_cons, List.all_nil, List.contains_nil, Bool.or_self, Bool.and_self, Bool.or_false, Bool.false_or, Bool.or_true, Bool.true_or, Bool.and_true, Bool.true_and, Bool.and_false, Bool.false_and, Bool.not_true, Bool.not_false, or_true, true_or, and_true, true_and, if_true, if_false, ite_true, ite_false, Bool.false_eq_true, reduceCtorEq, isV, isS, get_nil, get_val, owns_n, owns_v, owns_o, Option.map_some, decide_true, decide_false, tru_bool, tru_list, tru_tup, ix_l, ix_t, int_i, abs_i, add_ii, len_l, len_t, lst_neg, tup_t, isi_str, isi_tup, isi_int, PyData.isStr, PyData.isTuple, PyData.isInt, PyData.plain, eq_ii, ne_ii, lt_ii, le_ii, gt_ii, ge_ii, eq_ss, ne_ss, le_ss, nl, ln, e2, e3, ix_l, at_0, at_1, at_last, ix_pd, hq]
        · have hq := Bool.eq_false_iff.mpr hq
          refine pack [some (0, t), some (0, .int i), some (1, .list (Ls.map PyData.str)), some (1, .list (r.map pd ++ [pd q] ++ [.tuple [.str a, .str b]])), some (1, .list [.str a, .str b]), some (0, .bool true), none] (fun _ => ⟨?_, _, _, rfl⟩) (fun z => absurd z (by rw [hq]; decide))
          simp only [dSs, dS, den, denV, denR, denC, denO, denG, denJ, denOw, Den.val, BOp.F, COp.F, Bi.F, Me.F, TgA.tgt, bind_ok, bind_exc, bind_bad, opR_some, getR_some, varR_some, truR_some, boolR_bool, andR_some, orR_some, itR_some, itemsOf, partR_int, e_var, e_varB, e_lit, e_op, e_op2, e_cons, e_nil, e_frz, e_tru, e_bool, e_seq, e_asg, e_expr, e_ret, e_retN, e_and, e_or, e_not, e_andT, e_orT, e_notT, e_if, e_un, e_m1, e_noPart, e_part, e_sl, e_only0, e_comp, e_in, e_rng1, e_enum, enR_list, e_next, e_brk, e_cont, e_ifS, e_for, e_par, e_ocons, e_asgT, e_app, e_setL, e_rais, e_cnil, e_cval, e_cown, e_callV, e_callO, callR_some, fresR_ok, fresR_exc, seqR_next, seqR_ret, seqR_exc, seqR_brk, seqR_cont, fin_ret, fin_next, fin_exc, List.getElem?_cons_zero, List.getElem?_cons_succ, List.set_cons_zero, List.set_cons_succ, List.map_cons, List.map_nil, List.nil_append, List.cons_append, List.all_cons, List.all_nil, List.contains_nil, Bool.or_self, Bool.and_self, Bool.or_false, Bool.false_or, Bool.or_true, Bool.true_or, Bool.and_true, Bool.true_and, Bool.and_false, Bool.false_and, Bool.not_true, Bool.not_false, or_true, true_or, and_true, true_and, if_true, if_false, ite_true, ite_false, Bool.false_eq_true, reduceCtorEq, isV, isS, get_nil, get_val, owns_n, owns_v, owns_o, Option.map_some, decide_true, decide_false, tru_bool, tru_list, tru_tup, ix_l, ix_t, int_i, abs_i, add_ii, len_l, len_t, lst_neg, tup_t, isi_str, isi_tup, isi_int, PyData.isStr, PyData.isTuple, PyData.isInt, PyData.plain, eq_ii, ne_ii, lt_ii, le_ii, gt_ii, ge_ii, eq_ss, ne_ss, le_ss, nl, ln, e2, e3, ix_l, at_0, at_1, at_last, ix_pd, hq, isLst, tup2, appR_list, hf']
  · have hk : lineOk fnd (lp l) = false := by
      unfold lineOk lp
      rw [pa]
      have : b ∉ KS := fun z => no_sp b z ib
      simp only [decide_eq_false this, Bool.and_false, Bool.false_and]
    have a := no _ (by omega) hk rfl
    rw [a, seqR_next]
    rw [hk]
    exact ⟨_, bad _, nofun⟩
end K57
end

section
set_option Elab.async false
set_option linter.all false
set_option maxRecDepth 100000
set_option maxHeartbeats 4000000
namespace K57
open PySem PySem.Spec PyProof.Rows L2 Mb TL

def upto (i n : Nat) : List PyData := (List.range' i n).map fun (k : Nat) => .int (k : Int)
theorem upto_succ (i n : Nat) : upto i (n + 1) = .int (i : Nat) :: upto (i + 1) n := by
  unfold upto
  rw [List.range'_succ, List.map_cons]
theorem lr_loop (t : PyData) (Ls : List Str) : ∀ (ls : List Str) (i : Nat) (fnd : List (Str × Str)) (e1 e4 e5 : Option Ent), (∀ j l, ls[j]? = some l → Ls[i + j]? = some l) → (∀ l ∈ ls, l.length + 2 ≤ LIM) → fnd.length + ls.length ≤ LIM →
    match rd ls i fnd with
    | .inl k => ∃ ε', fLoop (TgA.tgt [] (.nm 1)) (dSs (G fl8) [] bLr) (upto i ls.length) [some (0, t), e1, some (1, .list (Ls.map PyData.str)), some (1, .list (fnd.map pd)), e4, e5, none] = .ok (.ret (0, .int (k : Nat)), ε')
    | .inr f => ∃ z1 z4 z5, fLoop (TgA.tgt [] (.nm 1)) (dSs (G fl8) [] bLr) (upto i ls.length) [some (0, t), e1, some (1, .list (Ls.map PyData.str)), some (1, .list (fnd.map pd)), e4, e5, none] = .ok (.next, [some (0, t), z1, some (1, .list (Ls.map PyData.str)), some (1, .list (f.map pd)), z4, z5, none])
  | [], i, fnd, e1, e4, e5, _, _, _ => ⟨e1, e4, e5, rfl⟩
  | l :: ls, i, fnd, e1, e4, e5, h0, h1, h3 => by
    simp only [List.length_cons] at h3
    obtain ⟨ε', st, en⟩ := lr_step (t := t) (Ls := Ls) (fnd := fnd) (i := i) (l := l) (e4 := e4) (e5 := e5) (h0 0 l rfl) (h1 l List.mem_cons_self) (by omega)
    have lc := loop_cons (TgA.tgt [] (.nm 1)) (dSs (G fl8) [] bLr) (.int (i : Nat)) (upto (i + 1) ls.length) [some (0, t), e1, some (1, .list (Ls.map PyData.str)), some (1, .list (fnd.map pd)), e4, e5, none] [some (0, t), some (0, .int i), some (1, .list (Ls.map PyData.str)), some (1, .list (fnd.map pd)), e4, e5, none] rfl
    rw [List.length_cons, upto_succ, lc, st]
    unfold rd
    cases hk : lineOk fnd (lp l) with
    | true =>
      obtain ⟨z4, z5, e⟩ := en hk
      subst e
      simp only [if_true]
      exact lr_loop t Ls ls (i + 1) (fnd ++ [lp l]) _ _ _ (fun j x hx => by rw [Nat.add_assoc, Nat.add_comm 1 j]; exact h0 (j + 1) x hx) (fun x hx => h1 x (List.mem_cons_of_mem _ hx)) (by simp; omega)
    | false =>
      simp only [Bool.false_eq_true, if_false]
      exact ⟨_, rfl⟩
theorem law_read_F {t : Str} (ht : t.length < 3000) : ∃ ps, F__law_read [(0, .str t)] = .ok (0, toldV (told t)) ps := by
  obtain ⟨l1, l2, l3⟩ := lines_len t
  have big : 4000 ≤ LIM := by decide
  have lp := lr_loop (.str t) (Txt.split t "\n") (Txt.split t "\n").dropLast 0 [] none none none
    (fun j l hj => by
      rw [Nat.zero_add]
      rw [List.getElem?_dropLast] at hj
      split at hj
      · exact hj
      · cases hj)
    (fun l hl => by have := l2 l (List.dropLast_subset _ hl)
                    omega)
    (by rw [List.length_dropLast, List.length_nil]; omega)
  have n1 : ("\n" : Str).length ≠ 0 := by decide
  have n2 : t.length + 2 ≤ LIM := by omega
  have p : 0 < (Txt.split t "\n").length := List.length_pos_iff.mpr l3
  have h1 : dS (G fl8) [] (.par [2, 3] (.cons (.me .split (.var 0) (.str "\n")) (.cons (.lst .nil) .nil))) [some (0, .str t), none, none, none, none, none, none] = .ok (.next, [some (0, .str t), none, some (1, .list ((Txt.split t "\n").map PyData.str)), some (1, .list (([] : List (Str × Str)).map pd)), none, none, none]) := by
    simp only [dSs, dS, den, denV, denR, denC, denO, denG, denJ, denOw, Den.val, BOp.F, COp.F, Bi.F, Me.F, TgA.tgt, bind_ok, bind_exc, bind_bad, opR_some, getR_some, varR_some, truR_some, boolR_bool, andR_some, orR_some, itR_some, itemsOf, partR_int, e_var, e_varB, e_lit, e_op, e_op2, e_cons, e_nil, e_frz, e_tru, e_bool, e_seq, e_asg, e_expr, e_ret, e_retN, e_and, e_or, e_not, e_andT, e_orT, e_notT, e_if, e_un, e_m1, e_noPart, e_part, e_sl, e_only0, e_comp, e_in, e_rng1, e_enum, enR_list, e_next, e_brk, e_cont, e_ifS, e_for, e_par, e_ocons, e_asgT, e_app, e_setL, e_rais, e_cnil, e_cval, e_cown, e_callV, e_callO, callR_some, fresR_ok, fresR_exc, seqR_next, seqR_ret, seqR_exc, seqR_brk, seqR_cont, fin_ret, fin_next, fin_exc, List.getElem?_cons_zero, List.getElem?_cons_succ, List.set_cons_zero, List.set_cons_succ, List.map_cons, List.map_nil, List.nil_append, List.cons_append, List.all_cons, List.all_nil, List.contains_nil, Bool.or_self, Bool.and_self, Bool.or_false, Bool.false_or, Bool.or_true, Bool.true_or, Bool.and_true, Bool.true_and, Bool.and_false, Bool.false_and, Bool.not_true, Bool.not_false, or_true, true_or, and_true, true_and, if_true, if_false, ite_true, ite_false, Bool.false_eq_true, reduceCtorEq, isV, isS, get_nil, get_val, owns_n, owns_v, owns_o, Option.map_some, decide_true, decide_false, tru_bool, tru_list, tru_tup, ix_l, ix_t, int_i, abs_i, add_ii, len_l, len_t, lst_neg, tup_t, isi_str, isi_tup, isi_int, PyData.isStr, PyData.isTuple, PyData.isInt, PyData.plain, eq_ii, ne_ii, lt_ii, le_ii, gt_ii, ge_ii, eq_ss, ne_ss, le_ss, split_s, n1, n2, ne_eq, not_false_eq_true, and_self]
    rfl
  have ll : ((Txt.split t "\n").map PyData.str).length = (Txt.split t "\n").length := List.length_map _
  have sb : (BOp.F .sub) [(0, .int ((Txt.split t "\n").length : Nat)), (0, .int 1)] = some (0, .int (((Txt.split t "\n").length : Int) - 1)) := rfl
  have rn : rngR (.int (((Txt.split t "\n").length : Int) - 1)) [some (0, .str t), none, some (1, .list ((Txt.split t "\n").map PyData.str)), some (1, .list (([] : List (Str × Str)).map pd)), none, none, none] = .ok (upto 0 (Txt.split t "\n").dropLast.length, [some (0, .str t), none, some (1, .list ((Txt.split t "\n").map PyData.str)), some (1, .list (([] : List (Str × Str)).map pd)), none, none, none]) := by
    have b62 : (4000 : Int) < B62 := by decide
    rw [rngR_int _ _ ⟨by omega, by omega⟩]
    unfold upto
    rw [List.length_dropLast, ← List.range_eq_range']
    rw [show (((Txt.split t "\n").length : Int) - 1).toNat = (Txt.split t "\n").length - 1 by omega]
  have src : (denR (G fl8) (.rng1 (.bin .sub (.bi .len (.var 2)) (.int 1)))).1 [some (0, .str t), none, some (1, .list ((Txt.split t "\n").map PyData.str)), some (1, .list (([] : List (Str × Str)).map pd)), none, none, none] = .ok (upto 0 (Txt.split t "\n").dropLast.length, [some (0, .str t), none, some (1, .list ((Txt.split t "\n").map PyData.str)), some (1, .list (([] : List (Str × Str)).map pd)), none, none, none]) := by
    simp only [BOp.F] at sb
    rw [← rn]
    simp only [dSs, dS, den, denV, denR, denC, denO, denG, denJ, denOw, Den.val, BOp.F, COp.F, Bi.F, Me.F, TgA.tgt, bind_ok, bind_exc, bind_bad, opR_some, getR_some, varR_some, truR_some, boolR_bool, andR_some, orR_some, itR_some, itemsOf, partR_int, e_var, e_varB, e_lit, e_op, e_op2, e_cons, e_nil, e_frz, e_tru, e_bool, e_seq, e_asg, e_expr, e_ret, e_retN, e_and, e_or, e_not, e_andT, e_orT, e_notT, e_if, e_un, e_m1, e_noPart, e_part, e_sl, e_only0, e_comp, e_in, e_rng1, e_enum, enR_list, e_next, e_brk, e_cont, e_ifS, e_for, e_par, e_ocons, e_asgT, e_app, e_setL, e_rais, e_cnil, e_cval, e_cown, e_callV, e_callO, callR_some, fresR_ok, fresR_exc, seqR_next, seqR_ret, seqR_exc, seqR_brk, seqR_cont, fin_ret, fin_next, fin_exc, List.getElem?_cons_zero, List.getElem?_cons_succ, List.set_cons_zero, List.set_cons_succ, List.map_cons, List.map_nil, List.nil_append, List.cons_append, List.all_cons, List.all_nil, List.contains_nil, Bool.or_self, Bool.and_self, Bool.or_false, Bool.false_or, Bool.or_true, Bool.true_or, Bool.and_true, Bool.true_and, Bool.and_false, Bool.false_and, Bool.not_true, Bool.not_false, or_true, true_or, and_true, true_and, if_true, if_false, ite_true, ite_false, Bool.false_eq_true, reduceCtorEq, isV, isS, get_nil, get_val, owns_n, owns_v, owns_o, Option.map_some, decide_true, decide_false, tru_bool, tru_list, tru_tup, ix_l, ix_t, int_i, abs_i, add_ii, len_l, len_t, lst_neg, tup_t, isi_str, isi_tup, isi_int, PyData.isStr, PyData.isTuple, PyData.isInt, PyData.plain, eq_ii, ne_ii, lt_ii, le_ii, gt_ii, ge_ii, eq_ss, ne_ss, le_ss, ll, sb]
  have hF : dS (G fl8) [] (.forr (.nm 1) (.rng1 (.bin .sub (.bi .len (.var 2)) (.int 1))) bLr) [some (0, .str t), none, some (1, .list ((Txt.split t "\n").map PyData.str)), some (1, .list (([] : List (Str × Str)).map pd)), none, none, none] = fLoop (TgA.tgt [] (.nm 1)) (dSs (G fl8) [] bLr) (upto 0 (Txt.split t "\n").dropLast.length) [some (0, .str t), none, some (1, .list ((Txt.split t "\n").map PyData.str)), some (1, .list (([] : List (Str × Str)).map pd)), none, none, none] := by
    simp only [dS]
    rw [e_for, src, bind_ok]
  unfold told
  unfold F__law_read b__law_read
  simp only [e_run, List.length_cons, List.length_nil, if_true, List.map_cons, List.map_nil, List.cons_append, List.nil_append, List.replicate_succ, List.replicate_zero, Nat.reduceSub, Nat.reduceAdd]
  rw [← eFine, ← bLr]
  simp only [dSs, e_seq]
  rw [h1, seqR_next]
  simp only [dSs, e_seq]
  rw [hF]
  revert lp
  cases rd (Txt.split t "\n").dropLast 0 [] with
  | inl k =>
    intro lp
    obtain ⟨ε', lp⟩ := lp
    rw [lp]
    exact ⟨_, rfl⟩
  | inr f =>
    intro lp
    obtain ⟨z1, z4, z5, lp⟩ := lp
    rw [lp, seqR_next]
    have tu : tupFn [(1, .list (f.map pd))] = some (0, .tuple (f.map pd)) := rfl
    have la : ((Txt.split t "\n").map PyData.str).getLast? = some (.str ((Txt.split t "\n").getLast l3)) := by
      rw [List.getLast?_map, List.getLast?_eq_some_getLast l3]
      rfl
    have ln : lstD [] = some (1, .list []) := lstD_of rfl (show 0 ≤ 16777216 by decide)
    have nl := fun n m => eq_lnil n m _ (plain_pds f)
    have n0 : cmpF okEq PyData.eqv [(1, .list []), (0, .list [])] = some (0, .bool true) := eq_lnil 1 0 [] rfl
    rw [List.getLast?_eq_some_getLast l3]
    dsimp only
    by_cases hw : (Txt.split t "\n").getLast l3 = ("" : Str)
    · by_cases hf : f = []
      · rw [if_neg (c := (some ((Txt.split t "\n").getLast l3) = some ("" : Str) ∧ f ≠ [])) (fun z => z.2 hf)]
        subst hf
        simp only [dSs, dS, den, denV, denR, denC, denO, denG, denJ, denOw, Den.val, BOp.F, COp.F, Bi.F, Me.F, TgA.tgt, bind_ok, bind_exc, bind_bad, opR_some, getR_some, varR_some, truR_some, boolR_bool, andR_some, orR_some, itR_some, itemsOf, partR_int, e_var, e_varB, e_lit, e_op, e_op2, e_cons, e_nil, e_frz, e_tru, e_bool, e_seq, e_asg, e_expr, e_ret, e_retN, e_and, e_or, e_not, e_andT, e_orT, e_notT, e_if, e_un, e_m1, e_noPart, e_part, e_sl, e_only0, e_comp, e_in, e_rng1, e_enum, enR_list, e_next, e_brk, e_cont, e_ifS, e_for, e_par, e_ocons, e_asgT, e_app, e_setL, e_rais, e_cnil, e_cval, e_cown, e_callV, e_callO, callR_some, fresR_ok, fresR_exc, seqR_next, seqR_ret, seqR_exc, seqR_brk, seqR_cont, fin_ret, fin_next, fin_exc, List.getElem?_cons_zero, List.getElem?_cons_succ, List.set_cons_zero, List.set_cons_succ, List.map_cons, List.map_nil, List.nil_append, List.cons_append, List.all_cons, List.all_nil, List.contains_nil, Bool.or_self, Bool.and_self, Bool.or_false, Bool.false_or, Bool.or_true, Bool.true_or, Bool.and_true, Bool.true_and, Bool.and_false, Bool.false_and, Bool.not_true, Bool.not_false, or_true, true_or, and_true, true_and, if_true, if_false, ite_true, ite_false, Bool.false_eq_true, reduceCtorEq, isV, isS, get_nil, get_val, owns_n, owns_v, owns_o, Option.map_some, decide_true, decide_false, tru_bool, tru_list, tru_tup, ix_l, ix_t, int_i, abs_i, add_ii, len_l, len_t, lst_neg, tup_t, isi_str, isi_tup, isi_int, PyData.isStr, PyData.isTuple, PyData.isInt, PyData.plain, eq_ii, ne_ii, lt_ii, le_ii, gt_ii, ge_ii, eq_ss, ne_ss, le_ss, ix_l, at_last, la, hw, ll, n0, ln, List.isEmpty_nil]
        exact ⟨_, rfl⟩
      · have h1 : (f.map pd).isEmpty = false := by cases f with | nil => exact absurd rfl hf | cons _ _ => rfl
        rw [if_pos (c := (some ((Txt.split t "\n").getLast l3) = some ("" : Str) ∧ f ≠ [])) ⟨by rw [hw], hf⟩]
        simp only [dSs, dS, den, denV, denR, denC, denO, denG, denJ, denOw, Den.val, BOp.F, COp.F, Bi.F, Me.F, TgA.tgt, bind_ok, bind_exc, bind_bad, opR_some, getR_some, varR_some, truR_some, boolR_bool, andR_some, orR_some, itR_some, itemsOf, partR_int, e_var, e_varB, e_lit, e_op, e_op2, e_cons, e_nil, e_frz, e_tru, e_bool, e_seq, e_asg, e_expr, e_ret, e_retN, e_and, e_or, e_not, e_andT, e_orT, e_notT, e_if, e_un, e_m1, e_noPart, e_part, e_sl, e_only0, e_comp, e_in, e_rng1, e_enum, enR_list, e_next, e_brk, e_cont, e_ifS, e_for, e_par, e_ocons, e_asgT, e_app, e_setL, e_rais, e_cnil, e_cval, e_cown, e_callV, e_callO, callR_some, fresR_ok, fresR_exc, seqR_next, seqR_ret, seqR_exc, seqR_brk, seqR_cont, fin_ret, fin_next, fin_exc, List.getElem?_cons_zero, List.getElem?_cons_succ, List.set_cons_zero, List.set_cons_succ, List.map_cons, List.map_nil, List.nil_append, List.cons_append, List.all_cons, List.all_nil, List.contains_nil, Bool.or_self, Bool.and_self, Bool.or_false, Bool.false_or, Bool.or_true, Bool.true_or, Bool.and_true, Bool.true_and, Bool.and_false, Bool.false_and, Bool.not_true, Bool.not_false, or_true, true_or, and_true, true_and, if_true, if_false, ite_true, ite_false, Bool.false_eq_true, reduceCtorEq, isV, isS, get_nil, get_val, owns_n, owns_v, owns_o, Option.map_some, decide_true, decide_false, tru_bool, tru_list, tru_tup, ix_l, ix_t, int_i, abs_i, add_ii, len_l, len_t, lst_neg, tup_t, isi_str, isi_tup, isi_int, PyData.isStr, PyData.isTuple, PyData.isInt, PyData.plain, eq_ii, ne_ii, lt_ii, le_ii, gt_ii, ge_ii, eq_ss, ne_ss, le_ss, ix_l, at_last, la, hw, ll, nl, ln, h1, tu]
        exact ⟨_, rfl⟩
    · have hd : decide ((Txt.split t "\n").getLast l3 = ("" : Str)) = false := decide_eq_false hw
      rw [if_neg (c := (some ((Txt.split t "\n").getLast l3) = some ("" : Str) ∧ f ≠ [])) (fun z => hw (Option.some.inj z.1))]
      simp only [dSs, dS, den, denV, denR, denC, denO, denG, denJ, denOw, Den.val, BOp.F, COp.F, Bi.F, Me.F, TgA.tgt, bind_ok, bind_exc, bind_bad, opR_some, getR_some, varR_some, truR_some, boolR_bool, andR_some, orR_some, itR_some, itemsOf, partR_int, e_var, e_varB, e_lit, e_op, e_op2, e_cons, e_nil, e_frz, e_tru, e_bool, e_seq, e_asg, e_expr, e_ret, e_retN, e_and, e_or, e_not, e_andT, e_orT, e_notT, e_if, e_un, e_m1, e_noPart, e_part, e_sl, e_only0, e_comp, e_in, e_rng1, e_enum, enR_list, e_next, e_brk, e_cont, e_ifS, e_for, e_par, e_ocons, e_asgT, e_app, e_setL, e_rais, e_cnil, e_cval, e_cown, e_callV, e_callO, callR_some, fresR_ok, fresR_exc, seqR_next, seqR_ret, seqR_exc, seqR_brk, seqR_cont, fin_ret, fin_next, fin_exc, List.getElem?_cons_zero, List.getElem?_cons_succ, List.set_cons_zero, List.set_cons_succ, List.map_cons, List.map_nil, List.nil_append, List.cons_append, List.all_cons, List.all_nil, List.contains_nil, Bool.or_self, Bool.and_self, Bool.or_false, Bool.false_or, Bool.or_true, Bool.true_or, Bool.and_true, Bool.true_and, Bool.and_false, Bool.false_and, Bool.not_true, Bool.not_false, or_true, true_or, and_true, true_and, if_true, if_false, ite_true, ite_false, Bool.false_eq_true, reduceCtorEq, isV, isS, get_nil, get_val, owns_n, owns_v, owns_o, Option.map_some, decide_true, decide_false, tru_bool, tru_list, tru_tup, ix_l, ix_t, int_i, abs_i, add_ii, len_l, len_t, lst_neg, tup_t, isi_str, isi_tup, isi_int, PyData.isStr, PyData.isTuple, PyData.isInt, PyData.plain, eq_ii, ne_ii, lt_ii, le_ii, gt_ii, ge_ii, eq_ss, ne_ss, le_ss, ix_l, at_last, la, hd, ll, nl, ln]
      exact ⟨_, rfl⟩
end K57
end

section
set_option Elab.async false
set_option linter.all false
set_option maxRecDepth 100000
set_option maxHeartbeats 4000000
namespace K57
open PySem PySem.Spec PyProof.Rows L2 Mb TL

theorem letter_lt {c : Nat} (h : letter c = true) : c < 16 ^ 8 := by
  unfold letter leS at h
  simp only [Bool.and_eq_true, decide_eq_true_eq] at h
  have h2 : [c] ≤ [122] := h.2
  have h3 : ¬ [122] < [c] := List.not_lt.mpr h2
  have : ¬ 122 < c := fun z => h3 (List.Lex.rel z)
  have : 122 < 16 ^ 8 := by decide
  omega
theorem lab_chars {s : Str} (h : isLab s = true) : ∀ c ∈ s.cps.toList, letter c = true := by
  unfold isLab letters at h
  simp only [Bool.and_eq_true, decide_eq_true_eq] at h
  exact List.all_eq_true.mp h.1.2
theorem ks_short : ∀ k ∈ KS, k.length ≤ 8 ∧ ∀ c ∈ k.cps.toList, c < 16 ^ 8 := by decide +kernel
theorem pd_short {p : Str × Str} (h1 : isLab p.1 = true) (h2 : p.2 ∈ KS) : (pd p).shown.length ≤ 300 := by
  have e : (pd p).shown = tupleText [reprText p.1, reprText p.2] := by
    unfold pd
    simp only [PyData.shown, PyData.shownAll]
  have a := PySem.StrLaws.reprText_len p.1 (fun c hc => letter_lt (lab_chars h1 c hc))
  have b := PySem.StrLaws.reprText_len p.2 (ks_short p.2 h2).2
  have la := lab_len h1
  have lb := (ks_short p.2 h2).1
  have t := tupleText_len_le [reprText p.1, reprText p.2]
  rw [e]
  simp only [List.map_cons, List.map_nil, List.sum_cons, List.sum_nil, List.length_cons, List.length_nil] at t
  omega
theorem pds_short : ∀ f : List (Str × Str), (∀ p ∈ f, isLab p.1 = true ∧ p.2 ∈ KS) → (PyData.shownAll (f.map pd)).length = f.length ∧ ((PyData.shownAll (f.map pd)).map (·.length)).sum ≤ 300 * f.length
  | [], _ => by simp [PyData.shownAll]
  | p :: f, h => by
    obtain ⟨i1, i2⟩ := pds_short f fun q hq => h q (List.mem_cons_of_mem _ hq)
    have s := pd_short (h p List.mem_cons_self).1 (h p List.mem_cons_self).2
    rw [List.map_cons, PyData.shownAll]
    simp only [List.length_cons, List.map_cons, List.sum_cons, i1]
    exact ⟨trivial, by omega⟩
theorem pds_show : ∀ f : List (Str × Str), PyData.showableAll (f.map pd) = true
  | [] => by simp [PyData.showableAll]
  | p :: f => by
    rw [List.map_cons, PyData.showableAll, pds_show f]
    simp [pd, PyData.showable, PyData.showableAll]
theorem int_short (k : Nat) (h : k < 10 ^ 12) : Shows (.int (k : Nat)) := by
  have s := PyData.shown_int_le (i := (k : Int)) (by rw [Int.natAbs_natCast]; exact h)
  refine ⟨by simp [PyData.plain], ?_, by simp [PyData.depth], Nat.le_trans s (by decide)⟩
  rw [PyData.showable, Int.natAbs_natCast]
  refine decide_eq_true ?_
  by_cases z : k = 0
  · subst z; decide
  · refine (Nat.log2_lt z).mpr (Nat.lt_of_lt_of_le h (by decide +kernel))
theorem tup_shows {f : List (Str × Str)} (h : ∀ p ∈ f, isLab p.1 = true ∧ p.2 ∈ KS) (hl : f.length < 4000) : Shows (.tuple (f.map pd)) := by
  obtain ⟨i1, i2⟩ := pds_short f h
  have t := tupleText_len_le (PyData.shownAll (f.map pd))
  have dp := deep_pds f
  refine ⟨by rw [PyData.plain]; exact plain_pds f, by rw [PyData.showable]; exact pds_show f, by rw [PyData.depth]; omega, ?_⟩
  rw [PyData.shown]
  rw [i1] at t
  have : 2000000 ≤ LIM := by decide
  omega
theorem rd_num : ∀ (ls : List Str) (n : Nat) (fnd : List (Str × Str)) (k : Nat), rd ls n fnd = .inl k → k ≤ n + ls.length
  | [], n, fnd, k, h => by cases h
  | l :: ls, n, fnd, k, h => by
    unfold rd at h
    rw [List.length_cons]
    by_cases c : lineOk fnd (lp l) = true
    · rw [if_pos c] at h
      have := rd_num ls (n + 1) _ k h
      omega
    · rw [if_neg c] at h
      cases h
      omega
theorem told_shows {t : Str} (ht : t.length < 3000) : Shows (toldV (told t)) := by
  obtain ⟨l1, l2, l3⟩ := lines_len t
  have big : 4000 < 10 ^ 12 := by decide
  unfold told
  cases h : rd (Txt.split t "\n").dropLast 0 [] with
  | inl k =>
    have := rd_num _ _ _ _ h
    rw [List.length_dropLast] at this
    exact int_short k (by omega)
  | inr f =>
    dsimp only
    split
    · obtain ⟨g, e⟩ := rd_good _ _ _ f good_nil h
      rw [List.length_dropLast, List.length_nil] at e
      exact tup_shows g.each (by omega)
    · exact int_short _ (by omega)
end K57
end

section
set_option Elab.async false
set_option linter.all false
set_option maxRecDepth 100000
set_option maxHeartbeats 4000000
namespace K57
open PySem PySem.Spec PyProof.Rows L2 Mb TL

/-- one line of the text, without its end; the whole text -/
def ln1 (p : Str × Str) : Str := p.1 ++ " " ++ p.2
def docT (f : List (Str × Str)) : Str := Txt.join "" (f.map fun p => ln1 p ++ "\n")
theorem lab_sign {s : Str} (h : isLab s = true) (n : Nat) (hn : n < 97) : n ∉ tl s := by
  intro m
  have l := lab_chars h n m
  unfold letter leS at l
  simp only [Bool.and_eq_true, decide_eq_true_eq] at l
  have h1 : [97] ≤ [n] := l.1
  have h2 : ¬ [n] < [97] := List.not_lt.mpr h1
  exact h2 (List.Lex.rel hn)
theorem ks_nl : ∀ k ∈ KS, 10 ∉ tl k := by decide +kernel
theorem lp_ln1 {p : Str × Str} (h : isLab p.1 = true) : lp (ln1 p) = p := by
  unfold lp ln1
  rw [partition_app esp (lab_sign h 32 (by decide))]
theorem nl_ln1 {p : Str × Str} (h : isLab p.1 = true) (h2 : p.2 ∈ KS) : 10 ∉ tl (ln1 p) := by
  unfold ln1
  rw [tl_append, tl_append, esp]
  simp only [List.mem_append, not_or]
  exact ⟨⟨lab_sign h 10 (by decide), by decide⟩, ks_nl _ h2⟩
theorem tl_docT (f : List (Str × Str)) : tl (docT f) = (f.map fun p => tl (ln1 p) ++ [10]).flatten := by
  unfold docT
  rw [join_eq, tl_join]
  induction f with
  | nil => rfl
  | cons p f ih =>
    cases f with
    | nil =>
      simp only [List.map_cons, List.map_nil, tl_append, enl]
      simp [joinL]
    | cons q r =>
      simp only [List.map_cons, tl_append, enl] at ih ⊢
      rw [List.flatten_cons, ← ih]
      rfl
theorem split_docT : ∀ (f : List (Str × Str)), (∀ p ∈ f, isLab p.1 = true ∧ p.2 ∈ KS) → spl [10] 0 [] (f.map fun p => tl (ln1 p) ++ [10]).flatten = (f.map fun p => tl (ln1 p)) ++ [[]]
  | [], _ => rfl
  | p :: f, h => by
    rw [List.map_cons, List.flatten_cons, List.append_assoc, spl_part1 (nl_ln1 (h p List.mem_cons_self).1 (h p List.mem_cons_self).2), List.nil_append, split_docT f fun q hq => h q (List.mem_cons_of_mem _ hq)]
    rfl
theorem lines_docT {f : List (Str × Str)} (h : ∀ p ∈ f, isLab p.1 = true ∧ p.2 ∈ KS) : Txt.split (docT f) "\n" = f.map ln1 ++ [("" : Str)] := by
  refine map_tl_inj ?_
  rw [split_spl _ _ (by rw [enl]; simp) (kind_ok (by decide +kernel)), enl, tl_docT, split_docT f h, List.map_append, List.map_map]
  rfl
theorem rd_docT : ∀ (f fnd : List (Str × Str)) (n : Nat), Good (fnd ++ f) → rd (f.map ln1) n fnd = .inr (fnd ++ f)
  | [], fnd, n, _ => by simp [rd]
  | p :: f, fnd, n, g => by
    have hp := g.each p (by simp)
    rw [List.map_cons]
    unfold rd
    have ok : lineOk fnd (lp (ln1 p)) = true := by
      rw [lp_ln1 hp.1]
      unfold lineOk
      rw [hp.1, decide_eq_true hp.2]
      unfold lastOk
      cases e : fnd.getLast? with
      | none => rfl
      | some q =>
        have as := g.asc
        unfold Asc at as
        rw [List.map_append, List.pairwise_append] at as
        have z := as.2.2 q.1 (List.mem_map_of_mem (List.mem_of_getLast? e)) p.1 (by simp)
        simp [z]
    rw [if_pos ok, lp_ln1 hp.1, rd_docT f (fnd ++ [p]) (n + 1) (by rw [List.append_assoc]; exact g)]
    simp
theorem told_docT {f : List (Str × Str)} (g : Good f) (hf : f ≠ []) : told (docT f) = .inr f := by
  unfold told
  rw [lines_docT g.each, List.dropLast_concat, rd_docT f [] 0 g, List.getLast?_concat]
  dsimp only
  rw [if_pos ⟨rfl, by simpa using hf⟩]
  rfl
end K57
end

section
set_option Elab.async false
set_option linter.all false
set_option maxRecDepth 100000
set_option maxHeartbeats 4000000
namespace K57
open PySem PySem.Spec PyProof.Rows L2 Mb TL

def kD : PyData → PyData
  | .tuple [.str a, .str b] => .str (a ++ " " ++ b ++ "\n")
  | d => d
theorem emp_app (x : Str) : Str.empty ++ x = x := ext_tl (by rw [tl_append]; rfl)
theorem app_len (x y : Str) : (x ++ y).length = x.length + y.length := by simp only [← tlen, tl_append, List.length_append]
theorem docF_F {f : List (Str × Str)} (g : ∀ p ∈ f, isLab p.1 = true ∧ p.2 ∈ KS) (hl : f.length < 100) : F_document_text [(0, .tuple (f.map pd))] = .ok (0, .str (docT f)) [none] := by
  have lim : ([] : List PyData).length + (f.map pd).length ≤ LIM := by
    rw [List.length_nil, Nat.zero_add, List.length_map]
    exact Nat.le_of_lt (Nat.lt_trans hl (by decide))
  have big : 4000 ≤ LIM := by decide
  have cs := comp_fm (vs := [1, 2]) (tg := TgA.tgt [] (.tp [1, 2])) (ts := fTrue) (f := (den (G fl3) (.fstr (.cons (.fmt (.var 1)) (.cons (.str " ") (.cons (.fmt (.var 2)) (.cons (.str "\n") .nil)))))).v) (c := fun _ => true) (k := kD) (ε := [some (0, .tuple (f.map pd)), none, none])
    (f.map pd) [] lim (fun d hd => by
      obtain ⟨p, hp, rfl⟩ := List.mem_map.mp hd
      have la := lab_len (g p hp).1
      have lb := (ks_short p.2 (g p hp).2).1
      have s1 : (" " : Str).length = 1 := rfl
      have s2 : ("\n" : Str).length = 1 := rfl
      have b1 : p.1.length ≤ LIM := by omega
      have b2 : p.2.length ≤ LIM := by omega
      have b3 : (p.1 ++ " ").length ≤ LIM := by rw [app_len]; omega
      have b4 : (p.1 ++ " " ++ p.2).length ≤ LIM := by simp only [app_len]; omega
      have b5 : (p.1 ++ " " ++ p.2 ++ "\n").length ≤ LIM := by simp only [app_len]; omega
      refine ⟨[some (0, .tuple (f.map pd)), some (0, .str p.1), some (0, .str p.2)], _, rfl, rfl, (fun z => nomatch z), fun _ => ⟨0, [some (0, .tuple (f.map pd)), some (0, .str p.1), some (0, .str p.2)], ?_, rfl⟩⟩
      simp only [dSs, dS, den, denV, denR, denC, denO, denG, denJ, denOw, Den.val, BOp.F, COp.F, Bi.F, Me.F, TgA.tgt, bind_ok, bind_exc, bind_bad, opR_some, getR_some, varR_some, truR_some, boolR_bool, andR_some, orR_some, itR_some, itemsOf, partR_int, e_var, e_varB, e_lit, e_op, e_op2, e_cons, e_nil, e_frz, e_tru, e_bool, e_seq, e_asg, e_expr, e_ret, e_retN, e_and, e_or, e_not, e_andT, e_orT, e_notT, e_if, e_un, e_m1, e_noPart, e_part, e_sl, e_only0, e_comp, e_in, e_rng1, e_enum, enR_list, e_next, e_brk, e_cont, e_ifS, e_for, e_par, e_ocons, e_asgT, e_app, e_setL, e_rais, e_cnil, e_cval, e_cown, e_callV, e_callO, callR_some, fresR_ok, fresR_exc, seqR_next, seqR_ret, seqR_exc, seqR_brk, seqR_cont, fin_ret, fin_next, fin_exc, List.getElem?_cons_zero, List.getElem?_cons_succ, List.set_cons_zero, List.set_cons_succ, List.map_cons, List.map_nil, List.nil_append, List.cons_append, List.all_cons, List.all_nil, List.contains_nil, Bool.or_self, Bool.and_self, Bool.or_false, Bool.false_or, Bool.or_true, Bool.true_or, Bool.and_true, Bool.true_and, Bool.and_false, Bool.false_and, Bool.not_true, Bool.not_false, or_true, true_or, and_true, true_and, if_true, if_false, ite_true, ite_false, Bool.false_eq_true, reduceCtorEq, isV, isS, get_nil, get_val, owns_n, owns_v, owns_o, Option.map_some, decide_true, decide_false, tru_bool, tru_list, tru_tup, ix_l, ix_t, int_i, abs_i, add_ii, len_l, len_t, lst_neg, tup_t, isi_str, isi_tup, isi_int, PyData.isStr, PyData.isTuple, PyData.isInt, PyData.plain, eq_ii, ne_ii, lt_ii, le_ii, gt_ii, ge_ii, eq_ss, ne_ss, le_ss, e_str, e_jcons, e_jnil, strR_str, fmt_s, emp_app, b1, b2, b3, b4, b5]
      rfl)
  have e1 : ((f.map pd).filter fun _ => true).map kD = (f.map fun p => ln1 p ++ "\n").map PyData.str := by
    rw [List.filter_eq_self.mpr fun _ _ => rfl, List.map_map, List.map_map]
    rfl
  have w : wipeE [some (0, .tuple (f.map pd)), none, none] [1, 2] = [some (0, .tuple (f.map pd)), none, none] := rfl
  have b : backE [some (0, .tuple (f.map pd)), none, none] [some (0, .tuple (f.map pd)), none, none] [1, 2] = [some (0, .tuple (f.map pd)), none, none] := rfl
  rw [e1] at cs
  simp only [dSs, dS, den, denV, denR, denC, denO, denG, denJ, denOw, Den.val, BOp.F, COp.F, Bi.F, Me.F, TgA.tgt, bind_ok, bind_exc, bind_bad, opR_some, getR_some, varR_some, truR_some, boolR_bool, andR_some, orR_some, itR_some, itemsOf, partR_int, e_var, e_varB, e_lit, e_op, e_op2, e_cons, e_nil, e_frz, e_tru, e_bool, e_seq, e_asg, e_expr, e_ret, e_retN, e_and, e_or, e_not, e_andT, e_orT, e_notT, e_if, e_un, e_m1, e_noPart, e_part, e_sl, e_only0, e_comp, e_in, e_rng1, e_enum, enR_list, e_next, e_brk, e_cont, e_ifS, e_for, e_par, e_ocons, e_asgT, e_app, e_setL, e_rais, e_cnil, e_cval, e_cown, e_callV, e_callO, callR_some, fresR_ok, fresR_exc, seqR_next, seqR_ret, seqR_exc, seqR_brk, seqR_cont, fin_ret, fin_next, fin_exc, List.getElem?_cons_zero, List.getElem?_cons_succ, List.set_cons_zero, List.set_cons_succ, List.map_cons, List.map_nil, List.nil_append, List.cons_append, List.all_cons, List.all_nil, List.contains_nil, Bool.or_self, Bool.and_self, Bool.or_false, Bool.false_or, Bool.or_true, Bool.true_or, Bool.and_true, Bool.true_and, Bool.and_false, Bool.false_and, Bool.not_true, Bool.not_false, or_true, true_or, and_true, true_and, if_true, if_false, ite_true, ite_false, Bool.false_eq_true, reduceCtorEq, isV, isS, get_nil, get_val, owns_n, owns_v, owns_o, Option.map_some, decide_true, decide_false, tru_bool, tru_list, tru_tup, ix_l, ix_t, int_i, abs_i, add_ii, len_l, len_t, lst_neg, tup_t, isi_str, isi_tup, isi_int, PyData.isStr, PyData.isTuple, PyData.isInt, PyData.plain, eq_ii, ne_ii, lt_ii, le_ii, gt_ii, ge_ii, eq_ss, ne_ss, le_ss] at cs
  have sum : (((f.map fun p => ln1 p ++ "\n")).map (·.length)).sum ≤ 30 * f.length := by
    clear cs e1 w b lim hl
    induction f with
    | nil => simp
    | cons p f ih =>
      have i := ih fun q hq => g q (List.mem_cons_of_mem _ hq)
      have la := lab_len (g p List.mem_cons_self).1
      have lb := (ks_short p.2 (g p List.mem_cons_self).2).1
      have s1 : (" " : Str).length = 1 := rfl
      have s2 : ("\n" : Str).length = 1 := rfl
      simp only [List.map_cons, List.sum_cons, List.length_cons, ln1, app_len] at i ⊢
      omega
  have jn : ∀ n m, n ≤ 1 → joinF [(m, .str ""), (n, .list ((f.map fun p => ln1 p ++ "\n").map PyData.str))] = some (0, .str (docT f)) := by
    intro n m hn
    rw [join_s, seq_l, if_pos hn, Option.bind_some, strs_of, Option.bind_some, if_pos]
    · rfl
    · have s0 : ("" : Str).length = 0 := rfl
      rw [s0, Nat.mul_zero]
      omega
  unfold F_document_text b_document_text
  simp only [e_run, List.length_cons, List.length_nil, if_true, List.map_cons, List.map_nil, List.cons_append, List.nil_append, List.replicate_succ, List.replicate_zero, Nat.reduceSub, Nat.reduceAdd]
  simp only [dSs, dS, den, denV, denR, denC, denO, denG, denJ, denOw, Den.val, BOp.F, COp.F, Bi.F, Me.F, TgA.tgt, bind_ok, bind_exc, bind_bad, opR_some, getR_some, varR_some, truR_some, boolR_bool, andR_some, orR_some, itR_some, itemsOf, partR_int, e_var, e_varB, e_lit, e_op, e_op2, e_cons, e_nil, e_frz, e_tru, e_bool, e_seq, e_asg, e_expr, e_ret, e_retN, e_and, e_or, e_not, e_andT, e_orT, e_notT, e_if, e_un, e_m1, e_noPart, e_part, e_sl, e_only0, e_comp, e_in, e_rng1, e_enum, enR_list, e_next, e_brk, e_cont, e_ifS, e_for, e_par, e_ocons, e_asgT, e_app, e_setL, e_rais, e_cnil, e_cval, e_cown, e_callV, e_callO, callR_some, fresR_ok, fresR_exc, seqR_next, seqR_ret, seqR_exc, seqR_brk, seqR_cont, fin_ret, fin_next, fin_exc, List.getElem?_cons_zero, List.getElem?_cons_succ, List.set_cons_zero, List.set_cons_succ, List.map_cons, List.map_nil, List.nil_append, List.cons_append, List.all_cons, List.all_nil, List.contains_nil, Bool.or_self, Bool.and_self, Bool.or_false, Bool.false_or, Bool.or_true, Bool.true_or, Bool.and_true, Bool.true_and, Bool.and_false, Bool.false_and, Bool.not_true, Bool.not_false, or_true, true_or, and_true, true_and, if_true, if_false, ite_true, ite_false, Bool.false_eq_true, reduceCtorEq, isV, isS, get_nil, get_val, owns_n, owns_v, owns_o, Option.map_some, decide_true, decide_false, tru_bool, tru_list, tru_tup, ix_l, ix_t, int_i, abs_i, add_ii, len_l, len_t, lst_neg, tup_t, isi_str, isi_tup, isi_int, PyData.isStr, PyData.isTuple, PyData.isInt, PyData.plain, eq_ii, ne_ii, lt_ii, le_ii, gt_ii, ge_ii, eq_ss, ne_ss, le_ss, w, cs, b, jn, Nat.le_refl, Nat.zero_le]
  rfl
end K57
end

section
set_option Elab.async false
set_option linter.all false
set_option maxRecDepth 100000
set_option maxHeartbeats 4000000
namespace K57
open PySem PySem.Spec PyProof.Rows L2 Mb TL
theorem t1 : told ("" : Str) = .inl 1 := by decide +kernel
theorem t2 : told ("a map" : Str) = .inl 1 := by decide +kernel
theorem t3 : told ("b map\na map\n" : Str) = .inl 2 := by decide +kernel
theorem t4 : told ("a map\n\n" : Str) = .inl 2 := by decide +kernel
end K57
end

section
set_option Elab.async false
set_option linter.all false
set_option maxRecDepth 100000
set_option maxHeartbeats 4000000
namespace K57
open PySem PySem.Spec PyProof.Rows L2 Mb TL
/-- a draw's step, in any place where the draw is name 1 -/
theorem take_row {o0 : Option Ent} {rest : Ev} {d : PyData} {m : Int} (hd : DrawOk d) (hm : 0 < m) (hl : m.natAbs.log2 < 9000) : ∃ (r : Int) (d' : PyData), DrawOk d' ∧ 0 ≤ r ∧ r < m ∧
    ∀ e : Ev → Res (Ent × Ev), (∃ n, frzR e (o0 :: some (1, d) :: rest) = .ok ((n, .int m), o0 :: some (1, d) :: rest)) → fCallO F__law_take (cOwn 1 (cVal e cNil)) (o0 :: some (1, d) :: rest) = .ok ((0, .int r), o0 :: some (1, d') :: rest) := by
  obtain ⟨r, d', e1, h1, h2, h3⟩ := take_F hd hm hl
  refine ⟨r, d', h1, h2, h3, fun e ⟨n, he⟩ => ?_⟩
  rw [e_callO, e_cown, List.getElem?_cons_succ, List.getElem?_cons_zero, getR_some, bind_ok, e_cval, he, bind_ok]
  rw [e_cnil, bind_ok, bind_ok, bind_ok]
  exact ownR_one _ _ _ 0 1 [(1, d), (0, .int m)] (0, .int r) [some (1, d'), none] rfl e1
theorem g10_6 : (G fl10).fns[6]? = some (("_law_take" : Str), F__law_take) := rfl
theorem g10_3 : (G fl10).fns[3]? = some (("document_text" : Str), F_document_text) := rfl
theorem g10_4 : (G fl10).fns[4]? = some (("read_document" : Str), F_read_document) := rfl
theorem g10_5 : (G fl10).fns[5]? = some (("_law_draw" : Str), F__law_draw) := rfl
theorem g10_7 : (G fl10).fns[7]? = some (("_law_same" : Str), F__law_same) := rfl
theorem g10_8 : (G fl10).fns[8]? = some (("_law_read" : Str), F__law_read) := rfl
theorem g10_9 : (G fl10).fns[9]? = some (("_law_told" : Str), F__law_told) := rfl
theorem same_row {t : Str} (ht : t.length < 3000) : F__law_same [(0, toldV (told t)), (0, toldV (told t))] = .ok (0, .bool true) [none, none] := same_F (told_shows ht)
end K57
end

section
set_option Elab.async false
set_option linter.all false
set_option maxRecDepth 100000
set_option maxHeartbeats 4000000
namespace K57
open PySem PySem.Spec PyProof.Rows L2 Mb TL
theorem cut_len (T : Str) (lo hi : Option Int) : (cutS T lo hi).length ≤ T.length := by
  unfold cutS
  rw [← tlen, ← tlen]
  show ((tl T).drop _ |>.take _).length ≤ _
  rw [List.length_take, List.length_drop]
  omega
theorem spl_sum (S : List Nat) : ∀ (t : List Nat) (k : Nat) (acc : List Nat), ((spl S k acc t).map (·.length)).sum ≤ acc.length + t.length
  | [], k, acc => by
    rw [spl_nil]
    simp
  | c :: r, 0, acc => by
    cases h : pre S (c :: r) with
    | true =>
      rw [spl_hit h]
      have i := spl_sum S r (S.length - 1) []
      simp only [List.map_cons, List.sum_cons, List.length_cons, List.length_nil] at i ⊢
      omega
    | false =>
      rw [spl_miss h]
      have i := spl_sum S r 0 (acc ++ [c])
      simp only [List.length_cons, List.length_append, List.length_nil] at i ⊢
      omega
  | c :: r, k + 1, acc => by
    have i := spl_sum S r k acc
    show ((spl S k acc r).map (·.length)).sum ≤ _
    simp only [List.length_cons]
    omega
theorem lines_sum (t : Str) : ((Txt.split t "\n").map (·.length)).sum ≤ t.length := by
  have sp := split_spl t "\n" (by rw [enl]; simp) (kind_ok (by decide +kernel))
  rw [enl] at sp
  have i := spl_sum [10] (tl t) 0 []
  rw [← sp, List.map_map, tlen] at i
  have e : (Txt.split t "\n").map (·.length) = (Txt.split t "\n").map ((fun x : List Nat => x.length) ∘ tl) := List.map_congr_left fun x _ => (tlen x).symm
  rw [e]
  simpa using i
/-- a part of the lines -/
theorem cut_strs (ls : List Str) (lo hi : Option Int) : ∃ ms : List Str, Mb.cutD (ls.map PyData.str) lo hi = ms.map PyData.str ∧ ms.length ≤ ls.length ∧ (ms.map (·.length)).sum ≤ (ls.map (·.length)).sum := by
  have tk : ∀ (n : Nat) (l : List Nat), (l.take n).sum ≤ l.sum := by
    intro n l
    induction l generalizing n with
    | nil => simp
    | cons a l ih => cases n with
      | zero => simp
      | succ n => have := ih n; simp; omega
  have dr : ∀ (n : Nat) (l : List Nat), (l.drop n).sum ≤ l.sum := by
    intro n l
    induction l generalizing n with
    | nil => simp
    | cons a l ih => cases n with
      | zero => simp
      | succ n => have := ih n; simp; omega
  unfold Mb.cutD
  rw [← List.map_drop, ← List.map_take]
  refine ⟨_, rfl, ?_, ?_⟩
  · rw [List.length_take, List.length_drop]; omega
  · rw [List.map_take, List.map_drop]
    exact Nat.le_trans (tk _ _) (dr _ _)
end K57
end

section
set_option Elab.async false
set_option linter.all false
set_option maxRecDepth 100000
set_option maxHeartbeats 4000000
namespace K57
open PySem PySem.Spec PyProof.Rows L2 Mb TL
def eBent : Ex := (.lst (.cons (.bin .add (.bin .add (.sl (.var 5) .no (.so (.var 11))) (.var 8)) (.sl (.var 5) (.so (.var 11)) .no)) (.cons (.bin .add (.sl (.var 5) .no (.so (.var 11))) (.sl (.var 5) (.so (.bin .add (.var 11) (.int 1))) .no)) (.cons (.sl (.var 5) .no (.so (.var 11))) (.cons (.bin .add (.var 5) (.var 8)) (.cons (.me .join (.str "\n") (.bin .add (.sl (.var 12) .no (.so (.var 7))) (.sl (.var 12) (.so (.bin .add (.var 7) (.int 1))) .no))) (.cons (.me .join (.str "\n") (.bin .add (.bin .add (.sl (.var 12) .no (.so (.var 7))) (.sl (.var 12) (.so (.var 7)) (.so (.bin .add (.var 7) (.int 1))))) (.sl (.var 12) (.so (.var 7)) .no))) (.cons (.str "") .nil))))))))
theorem join_len (y : Str) (xs : List Str) : (Txt.join y xs).length ≤ (xs.map (·.length)).sum + xs.length * y.length := by
  rw [join_eq]
  exact StrLaws.join_length_le y xs
theorem jn_ok (y : Str) (xs : List Str) (n m : Nat) (hn : n ≤ 1) (h : (xs.map (·.length)).sum + xs.length * y.length ≤ LIM) : joinF [(m, .str y), (n, .list (xs.map PyData.str))] = some (0, .str (Txt.join y xs)) := by
  rw [join_s, seq_l, if_pos hn, Option.bind_some, strs_of, Option.bind_some, if_pos h]
theorem add_S (xs ys : List Str) (n m : Nat) (h1 : n ≤ 1) (h2 : m ≤ 1) (h : xs.length + ys.length ≤ LIM) : addF [(n, .list (xs.map PyData.str)), (m, .list (ys.map PyData.str))] = some (1, .list ((xs ++ ys).map PyData.str)) := by
  rw [add_ll, if_pos ⟨h1, h2, by rw [List.length_map, List.length_map]; exact h⟩, List.map_append]
theorem bent_ok {o0 o1 o2 o3 o4 o6 o9 o10 o13 o14 : Option Ent} {T M : Str} {a n : Int} (hT : T.length ≤ 200) (hM : M.length ≤ 10) : ∃ ss : List Str, ss.length = 7 ∧ (∀ s ∈ ss, s.length < 3000) ∧
    (den (G fl10) eBent).v [o0, o1, o2, o3, o4, some (0, .str T), o6, some (0, .int n), some (0, .str M), o9, o10, some (0, .int a), some (1, .list ((Txt.split T "\n").map PyData.str)), o13, o14] =
      .ok ((1, .list (ss.map PyData.str)), [o0, o1, o2, o3, o4, some (0, .str T), o6, some (0, .int n), some (0, .str M), o9, o10, some (0, .int a), some (1, .list ((Txt.split T "\n").map PyData.str)), o13, o14]) := by
  have big : 4000 ≤ LIM := by decide
  have c := cut_len T
  have tl1 : T.length ≤ LIM := by omega
  obtain ⟨l1, l2, l3⟩ := lines_len T
  have l4 := lines_sum T
  have n1 : ("\n" : Str).length = 1 := rfl
  obtain ⟨m1, e1, f1, g1⟩ := cut_strs (Txt.split T "\n") none (some n)
  obtain ⟨m2, e2, f2, g2⟩ := cut_strs (Txt.split T "\n") (some (n + 1)) none
  obtain ⟨m3, e3, f3, g3⟩ := cut_strs (Txt.split T "\n") (some n) (some (n + 1))
  obtain ⟨m4, e4, f4, g4⟩ := cut_strs (Txt.split T "\n") (some n) none
  have a1 := c none (some a)
  have a2 := c (some a) none
  have a3 := c (some (a + 1)) none
  have k1 : (cutS T none (some a)).length + M.length ≤ LIM := by omega
  have k2 : (cutS T none (some a) ++ M).length + (cutS T (some a) none).length ≤ LIM := by rw [app_len]; omega
  have k3 : (cutS T none (some a)).length + (cutS T (some (a + 1)) none).length ≤ LIM := by omega
  have k4 : T.length + M.length ≤ LIM := by omega
  have q1 : m1.length + m2.length ≤ LIM := by omega
  have q2 : m1.length + m3.length ≤ LIM := by omega
  have q3 : m1.length + m3.length + m4.length ≤ LIM := by omega
  have j1 : ((m1 ++ m2).map (·.length)).sum + (m1 ++ m2).length * ("\n" : Str).length ≤ 2999 := by
    rw [n1, List.map_append, List.sum_append, List.length_append]; omega
  have j2 : ((m1 ++ m3 ++ m4).map (·.length)).sum + (m1 ++ m3 ++ m4).length * ("\n" : Str).length ≤ 2999 := by
    rw [n1, List.map_append, List.sum_append, List.length_append, List.map_append, List.sum_append, List.length_append]; omega
  have s12 := fun n m h1 h2 => add_S m1 m2 n m h1 h2 q1
  have s13 := fun n m h1 h2 => add_S m1 m3 n m h1 h2 q2
  have s134 := fun n m h1 h2 => add_S (m1 ++ m3) m4 n m h1 h2 (by rw [List.length_append]; exact q3)
  have jj1 := fun n m h => jn_ok "\n" (m1 ++ m2) n m h (Nat.le_trans j1 (by omega))
  have jj2 := fun n m h => jn_ok "\n" (m1 ++ m3 ++ m4) n m h (Nat.le_trans j2 (by omega))
  have y1 := jn_ok "\n" (m1 ++ m2)
  have y2 := jn_ok "\n" (m1 ++ m3 ++ m4)
  refine ⟨[cutS T none (some a) ++ M ++ cutS T (some a) none, cutS T none (some a) ++ cutS T (some (a + 1)) none, cutS T none (some a), T ++ M, Txt.join "\n" (m1 ++ m2), Txt.join "\n" (m1 ++ m3 ++ m4), ""], rfl, ?_, ?_⟩
  · intro s hs
    have j3 := join_len "\n" (m1 ++ m2)
    have j4 := join_len "\n" (m1 ++ m3 ++ m4)
    have z : ("" : Str).length = 0 := rfl
    simp only [List.mem_cons, List.not_mem_nil, or_false] at hs
    rcases hs with rfl | rfl | rfl | rfl | rfl | rfl | rfl <;> (try simp only [app_len]) <;> omega
  · unfold eBent
    have l7 : ∀ a b c d e f g : PyData, lstD [(0, a), (0, b), (0, c), (0, d), (0, e), (0, f), (0, g)] = some (1, .list [a, b, c, d, e, f, g]) := fun _ _ _ _ _ _ _ => lstD_of rfl (show 7 ≤ 16777216 by decide)
    simp only [dSs, dS, den, denV, denR, denC, denO, denG, denJ, denOw, Den.val, BOp.F, COp.F, Bi.F, Me.F, TgA.tgt, bind_ok, bind_exc, bind_bad, opR_some, getR_some, varR_some, truR_some, boolR_bool, andR_some, orR_some, itR_some, itemsOf, partR_int, e_var, e_varB, e_lit, e_op, e_op2, e_cons, e_nil, e_frz, e_tru, e_bool, e_seq, e_asg, e_expr, e_ret, e_retN, e_and, e_or, e_not, e_andT, e_orT, e_notT, e_if, e_un, e_m1, e_noPart, e_part, e_sl, e_only0, e_comp, e_in, e_rng1, e_enum, enR_list, e_next, e_brk, e_cont, e_ifS, e_for, e_par, e_ocons, e_asgT, e_app, e_setL, e_rais, e_cnil, e_cval, e_cown, e_callV, e_callO, callR_some, fresR_ok, fresR_exc, seqR_next, seqR_ret, seqR_exc, seqR_brk, seqR_cont, fin_ret, fin_next, fin_exc, List.getElem?_cons_zero, List.getElem?_cons_succ, List.set_cons_zero, List.set_cons_succ, List.map_cons, List.map_nil, List.nil_append, List.cons_append, List.all_cons, List.all_nil, List.contains_nil, Bool.or_self, Bool.and_self, Bool.or_false, Bool.false_or, Bool.or_true, Bool.true_or, Bool.and_true, Bool.true_and, Bool.and_false, Bool.false_and, Bool.not_true, Bool.not_false, or_true, true_or, and_true, true_and, if_true, if_false, ite_true, ite_false, Bool.false_eq_true, reduceCtorEq, isV, isS, get_nil, get_val, owns_n, owns_v, owns_o, Option.map_some, decide_true, decide_false, tru_bool, tru_list, tru_tup, ix_l, ix_t, int_i, abs_i, add_ii, len_l, len_t, lst_neg, tup_t, isi_str, isi_tup, isi_int, PyData.isStr, PyData.isTuple, PyData.isInt, PyData.plain, eq_ii, ne_ii, lt_ii, le_ii, gt_ii, ge_ii, eq_ss, ne_ss, le_ss, sl_s, sl_l, tl1, add_ss, s12, s13, s134, l7, jj1, jj2, k1, k2, k3, k4, e1, e2, e3, e4, Nat.le_refl, Nat.zero_le]
end K57
end

section
set_option Elab.async false
set_option linter.all false
set_option maxRecDepth 100000
set_option maxHeartbeats 4000000
namespace K57
open PySem PySem.Spec PyProof.Rows L2 Mb TL
def sPar : Sm := (.par [11, 12] (.cons (.call 6 (.own 1 (.val (.bin .add (.bi .len (.var 5)) (.int 1)) .nil))) (.cons (.me .split (.var 5) (.str "\n")) .nil)))
theorem log_ok {m : Nat} (h : m < 2 ^ 9000) : (m : Int).natAbs.log2 < 9000 := by
  rw [Int.natAbs_natCast]
  by_cases z : m = 0
  · subst z; decide
  · exact (Nat.log2_lt z).mpr h
theorem st1 {o0 o2 o3 o4 o6 o7 o8 o9 o10 o11 o12 o13 o14 : Option Ent} {d : PyData} {T : Str} (hd : DrawOk d) (hT : T.length ≤ 200) : ∃ (d' : PyData) (a : Int), DrawOk d' ∧
    dS (G fl10) [] sPar [o0, some (1, d), o2, o3, o4, some (0, .str T), o6, o7, o8, o9, o10, o11, o12, o13, o14] =
      .ok (.next, [o0, some (1, d'), o2, o3, o4, some (0, .str T), o6, o7, o8, o9, o10, some (0, .int a), some (1, .list ((Txt.split T "\n").map PyData.str)), o13, o14]) := by
  have big : 4000 ≤ LIM := by decide
  have p9 : 4000 < 2 ^ 9000 := by decide +kernel
  have tl1 : T.length ≤ LIM := by omega
  have n1 : ("\n" : Str).length ≠ 0 := by decide
  have n2 : T.length + 2 ≤ LIM := by omega
  obtain ⟨r, d', h1, h2, h3, tk⟩ := take_row (o0 := o0) (rest := [o2, o3, o4, some (0, .str T), o6, o7, o8, o9, o10, o11, o12, o13, o14]) (m := ((T.length + 1 : Nat) : Int)) hd (by omega) (log_ok (by omega))
  have t1 := tk (den (G fl10) (.bin .add (.bi .len (.var 5)) (.int 1))).v ⟨0, by
    simp only [dSs, dS, den, denV, denR, denC, denO, denG, denJ, denOw, Den.val, BOp.F, COp.F, Bi.F, Me.F, TgA.tgt, bind_ok, bind_exc, bind_bad, opR_some, getR_some, varR_some, truR_some, boolR_bool, andR_some, orR_some, itR_some, itemsOf, partR_int, e_var, e_varB, e_lit, e_op, e_op2, e_cons, e_nil, e_frz, e_tru, e_bool, e_seq, e_asg, e_expr, e_ret, e_retN, e_and, e_or, e_not, e_andT, e_orT, e_notT, e_if, e_un, e_m1, e_noPart, e_part, e_sl, e_only0, e_comp, e_in, e_rng1, e_enum, enR_list, e_next, e_brk, e_cont, e_ifS, e_for, e_par, e_ocons, e_asgT, e_app, e_setL, e_rais, e_cnil, e_cval, e_cown, e_callV, e_callO, callR_some, fresR_ok, fresR_exc, seqR_next, seqR_ret, seqR_exc, seqR_brk, seqR_cont, fin_ret, fin_next, fin_exc, List.getElem?_cons_zero, List.getElem?_cons_succ, List.set_cons_zero, List.set_cons_succ, List.map_cons, List.map_nil, List.nil_append, List.cons_append, List.all_cons, List.all_nil, List.contains_nil, Bool.or_self, Bool.and_self, Bool.or_false, Bool.false_or, Bool.or_true, Bool.true_or, Bool.and_true, Bool.true_and, Bool.and_false, Bool.false_and, Bool.not_true, Bool.not_false, or_true, true_or, and_true, true_and, if_true, if_false, ite_true, ite_false, Bool.false_eq_true, reduceCtorEq, isV, isS, get_nil, get_val, owns_n, owns_v, owns_o, Option.map_some, decide_true, decide_false, tru_bool, tru_list, tru_tup, ix_l, ix_t, int_i, abs_i, add_ii, len_l, len_t, lst_neg, tup_t, isi_str, isi_tup, isi_int, PyData.isStr, PyData.isTuple, PyData.isInt, PyData.plain, eq_ii, ne_ii, lt_ii, le_ii, gt_ii, ge_ii, eq_ss, ne_ss, le_ss, len_s, tl1]
    rfl⟩
  refine ⟨d', r, h1, ?_⟩
  have c1 : (den (G fl10) (.call 6 (.own 1 (.val (.bin .add (.bi .len (.var 5)) (.int 1)) .nil)))).v = fCallO F__law_take (cOwn 1 (cVal (den (G fl10) (.bin .add (.bi .len (.var 5)) (.int 1))).v cNil)) := rfl
  unfold sPar
  simp only [dS, denOw]
  rw [c1]
  rw [e_par, e_ocons, t1, bind_ok]
  simp only [dSs, dS, den, denV, denR, denC, denO, denG, denJ, denOw, Den.val, BOp.F, COp.F, Bi.F, Me.F, TgA.tgt, bind_ok, bind_exc, bind_bad, opR_some, getR_some, varR_some, truR_some, boolR_bool, andR_some, orR_some, itR_some, itemsOf, partR_int, e_var, e_varB, e_lit, e_op, e_op2, e_cons, e_nil, e_frz, e_tru, e_bool, e_seq, e_asg, e_expr, e_ret, e_retN, e_and, e_or, e_not, e_andT, e_orT, e_notT, e_if, e_un, e_m1, e_noPart, e_part, e_sl, e_only0, e_comp, e_in, e_rng1, e_enum, enR_list, e_next, e_brk, e_cont, e_ifS, e_for, e_par, e_ocons, e_asgT, e_app, e_setL, e_rais, e_cnil, e_cval, e_cown, e_callV, e_callO, callR_some, fresR_ok, fresR_exc, seqR_next, seqR_ret, seqR_exc, seqR_brk, seqR_cont, fin_ret, fin_next, fin_exc, List.getElem?_cons_zero, List.getElem?_cons_succ, List.set_cons_zero, List.set_cons_succ, List.map_cons, List.map_nil, List.nil_append, List.cons_append, List.all_cons, List.all_nil, List.contains_nil, Bool.or_self, Bool.and_self, Bool.or_false, Bool.false_or, Bool.or_true, Bool.true_or, Bool.and_true, Bool.true_and, Bool.and_false, Bool.false_and, Bool.not_true, Bool.not_false, or_true, true_or, and_true, true_and, if_true, if_false, ite_true, ite_false, Bool.false_eq_true, reduceCtorEq, isV, isS, get_nil, get_val, owns_n, owns_v, owns_o, Option.map_some, decide_true, decide_false, tru_bool, tru_list, tru_tup, ix_l, ix_t, int_i, abs_i, add_ii, len_l, len_t, lst_neg, tup_t, isi_str, isi_tup, isi_int, PyData.isStr, PyData.isTuple, PyData.isInt, PyData.plain, eq_ii, ne_ii, lt_ii, le_ii, gt_ii, ge_ii, eq_ss, ne_ss, le_ss, split_s, n1, n2, ne_eq, not_false_eq_true, and_self]
  rfl
end K57
end

section
set_option Elab.async false
set_option linter.all false
set_option maxRecDepth 100000
set_option maxHeartbeats 4000000
namespace K57
open PySem PySem.Spec PyProof.Rows L2 Mb TL
def sN : Sm := (.asg 7 (.call 6 (.own 1 (.val (.bi .len (.var 12)) .nil))))
theorem st2 {o0 o2 o3 o4 o5 o6 o7 o8 o9 o10 o11 o13 o14 : Option Ent} {d : PyData} {T : Str} (hd : DrawOk d) (hT : T.length ≤ 200) : ∃ (d' : PyData) (n : Int), DrawOk d' ∧
    dS (G fl10) [] sN [o0, some (1, d), o2, o3, o4, o5, o6, o7, o8, o9, o10, o11, some (1, .list ((Txt.split T "\n").map PyData.str)), o13, o14] =
      .ok (.next, [o0, some (1, d'), o2, o3, o4, o5, o6, some (0, .int n), o8, o9, o10, o11, some (1, .list ((Txt.split T "\n").map PyData.str)), o13, o14]) := by
  have p9 : 4000 < 2 ^ 9000 := by decide +kernel
  obtain ⟨l1, l2, l3⟩ := lines_len T
  have p : 0 < (Txt.split T "\n").length := List.length_pos_iff.mpr l3
  obtain ⟨r, d', h1, h2, h3, tk⟩ := take_row (o0 := o0) (rest := [o2, o3, o4, o5, o6, o7, o8, o9, o10, o11, some (1, .list ((Txt.split T "\n").map PyData.str)), o13, o14]) (m := (((Txt.split T "\n").length : Nat) : Int)) hd (by omega) (log_ok (by omega))
  have t1 := tk (den (G fl10) (.bi .len (.var 12))).v ⟨0, by
    simp only [dSs, dS, den, denV, denR, denC, denO, denG, denJ, denOw, Den.val, BOp.F, COp.F, Bi.F, Me.F, TgA.tgt, bind_ok, bind_exc, bind_bad, opR_some, getR_some, varR_some, truR_some, boolR_bool, andR_some, orR_some, itR_some, itemsOf, partR_int, e_var, e_varB, e_lit, e_op, e_op2, e_cons, e_nil, e_frz, e_tru, e_bool, e_seq, e_asg, e_expr, e_ret, e_retN, e_and, e_or, e_not, e_andT, e_orT, e_notT, e_if, e_un, e_m1, e_noPart, e_part, e_sl, e_only0, e_comp, e_in, e_rng1, e_enum, enR_list, e_next, e_brk, e_cont, e_ifS, e_for, e_par, e_ocons, e_asgT, e_app, e_setL, e_rais, e_cnil, e_cval, e_cown, e_callV, e_callO, callR_some, fresR_ok, fresR_exc, seqR_next, seqR_ret, seqR_exc, seqR_brk, seqR_cont, fin_ret, fin_next, fin_exc, List.getElem?_cons_zero, List.getElem?_cons_succ, List.set_cons_zero, List.set_cons_succ, List.map_cons, List.map_nil, List.nil_append, List.cons_append, List.all_cons, List.all_nil, List.contains_nil, Bool.or_self, Bool.and_self, Bool.or_false, Bool.false_or, Bool.or_true, Bool.true_or, Bool.and_true, Bool.true_and, Bool.and_false, Bool.false_and, Bool.not_true, Bool.not_false, or_true, true_or, and_true, true_and, if_true, if_false, ite_true, ite_false, Bool.false_eq_true, reduceCtorEq, isV, isS, get_nil, get_val, owns_n, owns_v, owns_o, Option.map_some, decide_true, decide_false, tru_bool, tru_list, tru_tup, ix_l, ix_t, int_i, abs_i, add_ii, len_l, len_t, lst_neg, tup_t, isi_str, isi_tup, isi_int, PyData.isStr, PyData.isTuple, PyData.isInt, PyData.plain, eq_ii, ne_ii, lt_ii, le_ii, gt_ii, ge_ii, eq_ss, ne_ss, le_ss, List.length_map]⟩
  refine ⟨d', r, h1, ?_⟩
  have c1 : (den (G fl10) (.call 6 (.own 1 (.val (.bi .len (.var 12)) .nil)))).v = fCallO F__law_take (cOwn 1 (cVal (den (G fl10) (.bi .len (.var 12))).v cNil)) := rfl
  unfold sN
  simp only [dS]
  rw [c1, e_asg, t1, bind_ok]
  rfl
end K57
end

section
set_option Elab.async false
set_option linter.all false
set_option maxRecDepth 100000
set_option maxHeartbeats 4000000
namespace K57
open PySem PySem.Spec PyProof.Rows L2 Mb TL
def eM : Ex := (.lst (.cons (.str "\n") (.cons (.str " ") (.cons (.str "a") (.cons (.str "z") (.cons (.str "map") (.cons (.str "0") (.cons (.str "tree\n") .nil))))))))
def MS : List Str := ["\n", " ", "a", "z", "map", "0", "tree\n"]
def sM : Sm := (.asg 8 (.idx eM (.call 6 (.own 1 (.val (.int 7) .nil)))))
theorem ms_short : ∀ s ∈ MS, s.length ≤ 10 := by decide +kernel
theorem pick (ss : List Str) (r : Int) (h0 : 0 ≤ r) (h1 : r < ss.length) : ∃ s ∈ ss, ∀ n m, ixF [(n, .list (ss.map PyData.str)), (m, .int r)] = some (n - 1, .str s) := by
  obtain ⟨k, rfl⟩ := Int.eq_ofNat_of_zero_le h0
  have hk : k < ss.length := by omega
  exact ⟨ss[k], List.getElem_mem hk, fun n m => ix_str n m ss k (List.getElem?_eq_getElem hk)⟩
theorem st3 {o0 o2 o3 o4 o5 o6 o7 o8 o9 o10 o11 o12 o13 o14 : Option Ent} {d : PyData} (hd : DrawOk d) : ∃ (d' : PyData) (M : Str), DrawOk d' ∧ M.length ≤ 10 ∧
    dS (G fl10) [] sM [o0, some (1, d), o2, o3, o4, o5, o6, o7, o8, o9, o10, o11, o12, o13, o14] =
      .ok (.next, [o0, some (1, d'), o2, o3, o4, o5, o6, o7, some (0, .str M), o9, o10, o11, o12, o13, o14]) := by
  obtain ⟨r, d', h1, h2, h3, tk⟩ := take_row (o0 := o0) (rest := [o2, o3, o4, o5, o6, o7, o8, o9, o10, o11, o12, o13, o14]) (m := 7) hd (by omega) (by decide)
  have t1 := tk (den (G fl10) (.int 7)).v ⟨0, rfl⟩
  obtain ⟨M, hm, px⟩ := pick MS r h2 h3
  refine ⟨d', M, h1, ms_short M hm, ?_⟩
  have l7 : ∀ a b c d e f g : PyData, lstD [(0, a), (0, b), (0, c), (0, d), (0, e), (0, f), (0, g)] = some (1, .list [a, b, c, d, e, f, g]) := fun _ _ _ _ _ _ _ => lstD_of rfl (show 7 ≤ 16777216 by decide)
  have c1 : (den (G fl10) (.call 6 (.own 1 (.val (.int 7) .nil)))).b = frzR (fCallO F__law_take (cOwn 1 (cVal (den (G fl10) (.int 7)).v cNil))) := rfl
  have e0 : (den (G fl10) eM).v [o0, some (1, d), o2, o3, o4, o5, o6, o7, o8, o9, o10, o11, o12, o13, o14] = .ok ((1, .list (MS.map PyData.str)), [o0, some (1, d), o2, o3, o4, o5, o6, o7, o8, o9, o10, o11, o12, o13, o14]) := by
    unfold eM
    simp only [dSs, dS, den, denV, denR, denC, denO, denG, denJ, denOw, Den.val, BOp.F, COp.F, Bi.F, Me.F, TgA.tgt, bind_ok, bind_exc, bind_bad, opR_some, getR_some, varR_some, truR_some, boolR_bool, andR_some, orR_some, itR_some, itemsOf, partR_int, e_var, e_varB, e_lit, e_op, e_op2, e_cons, e_nil, e_frz, e_tru, e_bool, e_seq, e_asg, e_expr, e_ret, e_retN, e_and, e_or, e_not, e_andT, e_orT, e_notT, e_if, e_un, e_m1, e_noPart, e_part, e_sl, e_only0, e_comp, e_in, e_rng1, e_enum, enR_list, e_next, e_brk, e_cont, e_ifS, e_for, e_par, e_ocons, e_asgT, e_app, e_setL, e_rais, e_cnil, e_cval, e_cown, e_callV, e_callO, callR_some, fresR_ok, fresR_exc, seqR_next, seqR_ret, seqR_exc, seqR_brk, seqR_cont, fin_ret, fin_next, fin_exc, List.getElem?_cons_zero, List.getElem?_cons_succ, List.set_cons_zero, List.set_cons_succ, List.map_cons, List.map_nil, List.nil_append, List.cons_append, List.all_cons, List.all_nil, List.contains_nil, Bool.or_self, Bool.and_self, Bool.or_false, Bool.false_or, Bool.or_true, Bool.true_or, Bool.and_true, Bool.true_and, Bool.and_false, Bool.false_and, Bool.not_true, Bool.not_false, or_true, true_or, and_true, true_and, if_true, if_false, ite_true, ite_false, Bool.false_eq_true, reduceCtorEq, isV, isS, get_nil, get_val, owns_n, owns_v, owns_o, Option.map_some, decide_true, decide_false, tru_bool, tru_list, tru_tup, ix_l, ix_t, int_i, abs_i, add_ii, len_l, len_t, lst_neg, tup_t, isi_str, isi_tup, isi_int, PyData.isStr, PyData.isTuple, PyData.isInt, PyData.plain, eq_ii, ne_ii, lt_ii, le_ii, gt_ii, ge_ii, eq_ss, ne_ss, le_ss, l7]
    rfl
  unfold sM
  simp only [dS, e_asg]
  have eb : (den (G fl10) eM).b [o0, some (1, d), o2, o3, o4, o5, o6, o7, o8, o9, o10, o11, o12, o13, o14] = .ok ((0, .list (MS.map PyData.str)), [o0, some (1, d), o2, o3, o4, o5, o6, o7, o8, o9, o10, o11, o12, o13, o14]) := by
    show frzR (den (G fl10) eM).v _ = _
    rw [e_frz, e0]
    rfl
  have t2 : frzR (fCallO F__law_take (cOwn 1 (cVal (den (G fl10) (.int 7)).v cNil))) [o0, some (1, d), o2, o3, o4, o5, o6, o7, o8, o9, o10, o11, o12, o13, o14] = .ok ((0, .int r), [o0, some (1, d'), o2, o3, o4, o5, o6, o7, o8, o9, o10, o11, o12, o13, o14]) := by
    rw [e_frz, t1]
    rfl
  rw [show (den (G fl10) (eM.idx (Ex.call 6 (Ags.own 1 (Ags.val (Ex.int 7) Ags.nil))))).v = only0 (fOp2 ixF true (den (G fl10) eM).b (frzR (fCallO F__law_take (cOwn 1 (cVal (den (G fl10) (.int 7)).v cNil))))) from rfl]
  rw [e_only0, e_op2, eb, bind_ok, if_pos (.inl rfl), t2, bind_ok, px]
  rfl
end K57
end

section
set_option Elab.async false
set_option linter.all false
set_option maxRecDepth 100000
set_option maxHeartbeats 4000000
namespace K57
open PySem PySem.Spec PyProof.Rows L2 Mb TL
def sOwn : Sm := (.asg 10 (.ixv 9 (.call 6 (.own 1 (.val (.int 7) .nil)))))
theorem st5 {o0 o2 o3 o4 o5 o6 o7 o8 o10 o11 o12 o13 o14 : Option Ent} {d : PyData} {ss : List Str} (hd : DrawOk d) (h7 : ss.length = 7) (hs : ∀ s ∈ ss, s.length < 3000) : ∃ (d' : PyData) (S : Str), DrawOk d' ∧ S.length < 3000 ∧
    dS (G fl10) [] sOwn [o0, some (1, d), o2, o3, o4, o5, o6, o7, o8, some (1, .list (ss.map PyData.str)), o10, o11, o12, o13, o14] =
      .ok (.next, [o0, some (1, d'), o2, o3, o4, o5, o6, o7, o8, some (1, .list (ss.map PyData.str)), some (0, .str S), o11, o12, o13, o14]) := by
  obtain ⟨r, d', h1, h2, h3, tk⟩ := take_row (o0 := o0) (rest := [o2, o3, o4, o5, o6, o7, o8, some (1, .list (ss.map PyData.str)), o10, o11, o12, o13, o14]) (m := 7) hd (by omega) (by decide)
  have t1 := tk (den (G fl10) (.int 7)).v ⟨0, rfl⟩
  obtain ⟨S, hm, px⟩ := pick ss r h2 (by omega)
  refine ⟨d', S, h1, hs S hm, ?_⟩
  unfold sOwn
  simp only [dS, e_asg]
  have t2 : frzR (fCallO F__law_take (cOwn 1 (cVal (den (G fl10) (.int 7)).v cNil))) [o0, some (1, d), o2, o3, o4, o5, o6, o7, o8, some (1, .list (ss.map PyData.str)), o10, o11, o12, o13, o14] = .ok ((0, .int r), [o0, some (1, d'), o2, o3, o4, o5, o6, o7, o8, some (1, .list (ss.map PyData.str)), o10, o11, o12, o13, o14]) := by
    rw [e_frz, t1]
    rfl
  rw [show (den (G fl10) (.ixv 9 (Ex.call 6 (Ags.own 1 (Ags.val (Ex.int 7) Ags.nil))))).v = only0 (fIxV 9 ixF (frzR (fCallO F__law_take (cOwn 1 (cVal (den (G fl10) (.int 7)).v cNil))))) from rfl]
  rw [e_only0, e_ixV, t2]
  simp only [List.getElem?_cons_succ, List.getElem?_cons_zero, getR_some, bind_ok, ixVR_some, px, opR_some]
  rfl
def sLast : Sm := (.ite (.not (.call 7 (.val (.call 9 (.val (.var 10) .nil)) (.val (.call 8 (.val (.var 10) .nil)) .nil)))) (.cons (.ret (.bl false)) .nil) .nil)
theorem st6 {o0 o1 o2 o3 o4 o5 o6 o7 o8 o9 o11 o12 o13 o14 : Option Ent} {S : Str} (hs : S.length < 3000) :
    dS (G fl10) [] sLast [o0, o1, o2, o3, o4, o5, o6, o7, o8, o9, some (0, .str S), o11, o12, o13, o14] =
      .ok (.next, [o0, o1, o2, o3, o4, o5, o6, o7, o8, o9, some (0, .str S), o11, o12, o13, o14]) := by
  obtain ⟨p1, h1⟩ := told_F hs
  obtain ⟨p2, h2⟩ := law_read_F hs
  have h3 := same_row hs
  unfold sLast
  simp only [dSs, dS, den, denV, denR, denC, denO, denG, denJ, denOw, Den.val, BOp.F, COp.F, Bi.F, Me.F, TgA.tgt, bind_ok, bind_exc, bind_bad, opR_some, getR_some, varR_some, e_ixV, ixVR_some, truR_some, boolR_bool, andR_some, orR_some, itR_some, itemsOf, partR_int, e_var, e_varB, e_lit, e_op, e_op2, e_cons, e_nil, e_frz, e_tru, e_bool, e_seq, e_asg, e_expr, e_ret, e_retN, e_and, e_or, e_not, e_andT, e_orT, e_notT, e_if, e_un, e_m1, e_noPart, e_part, e_sl, e_only0, e_chain, chR_bool, e_str, e_jnil, e_jcons, strR_str, e_comp, e_in, e_rng1, e_enum, enR_list, e_next, e_brk, e_cont, e_ifS, e_for, e_par, e_ocons, e_asgT, e_app, e_setL, e_rais, e_cnil, e_cval, e_cown, e_callV, e_callO, callR_some, fresR_ok, fresR_exc, seqR_next, seqR_ret, seqR_exc, seqR_brk, seqR_cont, fin_ret, fin_next, fin_exc, List.getElem?_cons_zero, List.getElem?_cons_succ, List.set_cons_zero, List.set_cons_succ, List.map_cons, List.map_nil, List.nil_append, List.cons_append, List.all_cons, List.all_nil, List.contains_nil, Bool.or_self, Bool.and_self, Bool.or_false, Bool.false_or, Bool.or_true, Bool.true_or, Bool.and_true, Bool.true_and, Bool.and_false, Bool.false_and, Bool.not_true, Bool.not_false, or_true, true_or, and_true, true_and, if_true, if_false, ite_true, ite_false, Bool.false_eq_true, reduceCtorEq, isV, isS, get_nil, get_val, owns_n, owns_v, owns_o, Option.map_some, decide_true, decide_false, tru_bool, tru_list, tru_tup, ix_l, ix_t, int_i, abs_i, add_ii, len_l, len_t, lst_neg, tup_t, isi_str, isi_tup, isi_int, PyData.isStr, PyData.isTuple, PyData.isInt, PyData.plain, eq_ii, ne_ii, lt_ii, le_ii, gt_ii, ge_ii, eq_ss, ne_ss, le_ss, g10_7, g10_9, g10_8, h1, h2, h3]
def eBl : Sms := (.cons sPar (.cons sN (.cons sM (.cons (.asg 9 eBent) (.cons sOwn (.cons sLast .nil))))))
/-- the inner loop's turn -/
theorem turn_ok {o0 o2 o3 o4 o6 o7 o8 o9 o10 o11 o12 o13 o14 : Option Ent} {d : PyData} {T : Str} (hd : DrawOk d) (hT : T.length ≤ 200) : ∃ (d' : PyData) (p7 p8 p9 p10 p11 p12 : Option Ent), DrawOk d' ∧
    dSs (G fl10) [] eBl [o0, some (1, d), o2, o3, o4, some (0, .str T), o6, o7, o8, o9, o10, o11, o12, o13, o14] = .ok (.next, [o0, some (1, d'), o2, o3, o4, some (0, .str T), o6, p7, p8, p9, p10, p11, p12, o13, o14]) := by
  obtain ⟨d1, a, h1, e1⟩ := st1 (o0 := o0) (o2 := o2) (o3 := o3) (o4 := o4) (o6 := o6) (o7 := o7) (o8 := o8) (o9 := o9) (o10 := o10) (o11 := o11) (o12 := o12) (o13 := o13) (o14 := o14) hd hT
  obtain ⟨d2, n, h2, e2⟩ := st2 (o0 := o0) (o2 := o2) (o3 := o3) (o4 := o4) (o5 := some (0, .str T)) (o6 := o6) (o7 := o7) (o8 := o8) (o9 := o9) (o10 := o10) (o11 := some (0, .int a)) (o13 := o13) (o14 := o14) h1 hT
  obtain ⟨d3, M, h3, hM, e3⟩ := st3 (o0 := o0) (o2 := o2) (o3 := o3) (o4 := o4) (o5 := some (0, .str T)) (o6 := o6) (o7 := some (0, .int n)) (o8 := o8) (o9 := o9) (o10 := o10) (o11 := some (0, .int a)) (o12 := some (1, .list ((Txt.split T "\n").map PyData.str))) (o13 := o13) (o14 := o14) h2
  obtain ⟨ss, h7, hs, e4⟩ := bent_ok (o0 := o0) (o1 := some (1, d3)) (o2 := o2) (o3 := o3) (o4 := o4) (o6 := o6) (o9 := o9) (o10 := o10) (o13 := o13) (o14 := o14) (a := a) (n := n) hT hM
  obtain ⟨d5, S, h5, hS, e5⟩ := st5 (o0 := o0) (o2 := o2) (o3 := o3) (o4 := o4) (o5 := some (0, .str T)) (o6 := o6) (o7 := some (0, .int n)) (o8 := some (0, .str M)) (o10 := o10) (o11 := some (0, .int a)) (o12 := some (1, .list ((Txt.split T "\n").map PyData.str))) (o13 := o13) (o14 := o14) h3 h7 hs
  have e6 := st6 (o0 := o0) (o1 := some (1, d5)) (o2 := o2) (o3 := o3) (o4 := o4) (o5 := some (0, .str T)) (o6 := o6) (o7 := some (0, .int n)) (o8 := some (0, .str M)) (o9 := some (1, .list (ss.map PyData.str))) (o11 := some (0, .int a)) (o12 := some (1, .list ((Txt.split T "\n").map PyData.str))) (o13 := o13) (o14 := o14) hS
  refine ⟨d5, some (0, .int n), some (0, .str M), some (1, .list (ss.map PyData.str)), some (0, .str S), some (0, .int a), some (1, .list ((Txt.split T "\n").map PyData.str)), h5, ?_⟩
  have c4 : dS (G fl10) [] (.asg 9 eBent) [o0, some (1, d3), o2, o3, o4, some (0, .str T), o6, some (0, .int n), some (0, .str M), o9, o10, some (0, .int a), some (1, .list ((Txt.split T "\n").map PyData.str)), o13, o14] = .ok (.next, [o0, some (1, d3), o2, o3, o4, some (0, .str T), o6, some (0, .int n), some (0, .str M), some (1, .list (ss.map PyData.str)), o10, some (0, .int a), some (1, .list ((Txt.split T "\n").map PyData.str)), o13, o14]) := by
    simp only [dS]
    rw [e_asg, e4, bind_ok]
    rfl
  unfold eBl
  simp only [dSs]
  rw [e_seq, e1, seqR_next, e_seq, e2, seqR_next, e_seq, e3, seqR_next, e_seq, c4, seqR_next, e_seq, e5, seqR_next, e_seq, e6, seqR_next]
  rfl
end K57
end

section
set_option Elab.async false
set_option linter.all false
set_option maxRecDepth 100000
set_option maxHeartbeats 4000000
namespace K57
open PySem PySem.Spec PyProof.Rows L2 Mb TL
theorem take_i {o0 : Option Ent} {rest : Ev} {d : PyData} (m : Int) (hd : DrawOk d) (hm : 0 < m) (hl : m.natAbs.log2 < 9000) : ∃ (r : Int) (d' : PyData), DrawOk d' ∧ 0 ≤ r ∧ r < m ∧
    fCallO F__law_take (cOwn 1 (cVal (fLit (.int m)) cNil)) (o0 :: some (1, d) :: rest) = .ok ((0, .int r), o0 :: some (1, d') :: rest) := by
  obtain ⟨r, d', h1, h2, h3, tk⟩ := take_row (o0 := o0) (rest := rest) hd hm hl
  exact ⟨r, d', h1, h2, h3, tk (fLit (.int m)) ⟨0, rfl⟩⟩
def eLab : Ex := (.ite (.cmp .eq (.call 6 (.own 1 (.val (.int 3) .nil))) (.int 0)) (.sl (.str "abcdefgh") .no (.so (.bin .add (.int 1) (.call 6 (.own 1 (.val (.int 8) .nil)))))) (.idx (.str "abcxyz") (.call 6 (.own 1 (.val (.int 6) .nil)))))
theorem labs1 : ∀ n : Fin 8, isLab (cutS "abcdefgh" none (some (1 + (n.1 : Int)))) = true := by decide +kernel
theorem labs2 : ∀ n : Fin 6, ∃ x : Str, (atI ("abcxyz" : Str).cps.toList (n.1 : Int)).map (fun c => ((0, .str ⟨#[c]⟩) : Ent)) = some (0, .str x) ∧ isLab x = true := by
  intro n
  have : ∀ n : Fin 6, isLab (⟨#[(atI ("abcxyz" : Str).cps.toList (n.1 : Int)).getD 0]⟩ : Str) = true ∧ (atI ("abcxyz" : Str).cps.toList (n.1 : Int)).isSome = true := by decide +kernel
  obtain ⟨h1, h2⟩ := this n
  obtain ⟨c, hc⟩ := Option.isSome_iff_exists.mp h2
  rw [hc] at h1
  exact ⟨⟨#[c]⟩, by rw [hc]; rfl, h1⟩
theorem lab_ok {o0 : Option Ent} {rest : Ev} {d : PyData} (hd : DrawOk d) : ∃ (d' : PyData) (x : Str), DrawOk d' ∧ isLab x = true ∧ (den (G fl10) eLab).v (o0 :: some (1, d) :: rest) = .ok ((0, .str x), o0 :: some (1, d') :: rest) := by
  obtain ⟨r1, d1, h1, a1, b1, t1⟩ := take_i (o0 := o0) (rest := rest) 3 hd (by decide) (by decide)
  have s8 : ("abcdefgh" : Str).length ≤ LIM := by decide
  have s6 : ("abcxyz" : Str).length ≤ LIM := by decide
  by_cases c : r1 = 0
  · obtain ⟨r2, d2, h2, a2, b2, t2⟩ := take_i (o0 := o0) (rest := rest) 8 h1 (by decide) (by decide)
    obtain ⟨n, rfl⟩ := Int.eq_ofNat_of_zero_le a2
    refine ⟨d2, cutS "abcdefgh" none (some (1 + (n : Int))), h2, labs1 ⟨n, by omega⟩, ?_⟩
    unfold eLab
    simp only [dSs, dS, den, denV, denR, denC, denO, denG, denJ, denOw, Den.val, BOp.F, COp.F, Bi.F, Me.F, TgA.tgt, bind_ok, bind_exc, bind_bad, opR_some, getR_some, varR_some, e_ixV, ixVR_some, truR_some, boolR_bool, andR_some, orR_some, itR_some, itemsOf, partR_int, e_var, e_varB, e_lit, e_op, e_op2, e_cons, e_nil, e_frz, e_tru, e_bool, e_seq, e_asg, e_expr, e_ret, e_retN, e_and, e_or, e_not, e_andT, e_orT, e_notT, e_if, e_un, e_m1, e_noPart, e_part, e_sl, e_only0, e_chain, chR_bool, e_str, e_jnil, e_jcons, strR_str, e_comp, e_in, e_rng1, e_enum, enR_list, e_next, e_brk, e_cont, e_ifS, e_for, e_par, e_ocons, e_asgT, e_app, e_setL, e_rais, e_callV, callR_some, fresR_ok, fresR_exc, seqR_next, seqR_ret, seqR_exc, seqR_brk, seqR_cont, fin_ret, fin_next, fin_exc, List.getElem?_cons_zero, List.getElem?_cons_succ, List.set_cons_zero, List.set_cons_succ, List.map_cons, List.map_nil, List.nil_append, List.cons_append, List.all_cons, List.all_nil, List.contains_nil, Bool.or_self, Bool.and_self, Bool.or_false, Bool.false_or, Bool.or_true, Bool.true_or, Bool.and_true, Bool.true_and, Bool.and_false, Bool.false_and, Bool.not_true, Bool.not_false, or_true, true_or, and_true, true_and, if_true, if_false, ite_true, ite_false, Bool.false_eq_true, reduceCtorEq, isV, isS, get_nil, get_val, owns_n, owns_v, owns_o, Option.map_some, decide_true, decide_false, tru_bool, tru_list, tru_tup, ix_l, ix_t, int_i, abs_i, add_ii, len_l, len_t, lst_neg, tup_t, isi_str, isi_tup, isi_int, PyData.isStr, PyData.isTuple, PyData.isInt, PyData.plain, eq_ii, ne_ii, lt_ii, le_ii, gt_ii, ge_ii, eq_ss, ne_ss, le_ss, g10_6, t1, c, t2, sl_s, s8]
  · obtain ⟨r2, d2, h2, a2, b2, t2⟩ := take_i (o0 := o0) (rest := rest) 6 h1 (by decide) (by decide)
    obtain ⟨n, rfl⟩ := Int.eq_ofNat_of_zero_le a2
    obtain ⟨x, hx, lx⟩ := labs2 ⟨n, by omega⟩
    refine ⟨d2, x, h2, lx, ?_⟩
    have hx : ∀ m k, ixF [(m, .str "abcxyz"), (k, .int (n : Int))] = some (0, .str x) := fun m k => by rw [ix_s, if_pos s6]; exact hx
    unfold eLab
    simp only [dSs, dS, den, denV, denR, denC, denO, denG, denJ, denOw, Den.val, BOp.F, COp.F, Bi.F, Me.F, TgA.tgt, bind_ok, bind_exc, bind_bad, opR_some, getR_some, varR_some, e_ixV, ixVR_some, truR_some, boolR_bool, andR_some, orR_some, itR_some, itemsOf, partR_int, e_var, e_varB, e_lit, e_op, e_op2, e_cons, e_nil, e_frz, e_tru, e_bool, e_seq, e_asg, e_expr, e_ret, e_retN, e_and, e_or, e_not, e_andT, e_orT, e_notT, e_if, e_un, e_m1, e_noPart, e_part, e_sl, e_only0, e_chain, chR_bool, e_str, e_jnil, e_jcons, strR_str, e_comp, e_in, e_rng1, e_enum, enR_list, e_next, e_brk, e_cont, e_ifS, e_for, e_par, e_ocons, e_asgT, e_app, e_setL, e_rais, e_callV, callR_some, fresR_ok, fresR_exc, seqR_next, seqR_ret, seqR_exc, seqR_brk, seqR_cont, fin_ret, fin_next, fin_exc, List.getElem?_cons_zero, List.getElem?_cons_succ, List.set_cons_zero, List.set_cons_succ, List.map_cons, List.map_nil, List.nil_append, List.cons_append, List.all_cons, List.all_nil, List.contains_nil, Bool.or_self, Bool.and_self, Bool.or_false, Bool.false_or, Bool.or_true, Bool.true_or, Bool.and_true, Bool.true_and, Bool.and_false, Bool.false_and, Bool.not_true, Bool.not_false, or_true, true_or, and_true, true_and, if_true, if_false, ite_true, ite_false, Bool.false_eq_true, reduceCtorEq, isV, isS, get_nil, get_val, owns_n, owns_v, owns_o, Option.map_some, decide_true, decide_false, tru_bool, tru_list, tru_tup, ix_l, ix_t, int_i, abs_i, add_ii, len_l, len_t, lst_neg, tup_t, isi_str, isi_tup, isi_int, PyData.isStr, PyData.isTuple, PyData.isInt, PyData.plain, eq_ii, ne_ii, lt_ii, le_ii, gt_ii, ge_ii, eq_ss, ne_ss, le_ss, g10_6, t1, c, t2, hx]
end K57
end

section
set_option Elab.async false
set_option linter.all false
set_option maxRecDepth 100000
set_option maxHeartbeats 4000000
namespace K57
open PySem PySem.Spec PyProof.Rows L2 Mb TL
theorem asc_srt (xs : List Str) : Asc ((dedS xs).mergeSort leS) := by
  have pw := List.pairwise_mergeSort (le := leS) leS_trans leS_total (dedS xs)
  have nd : ((dedS xs).mergeSort leS).Nodup := (List.mergeSort_perm (dedS xs) leS).nodup_iff.mpr (nd_dedS xs)
  have both := List.Pairwise.and pw nd
  refine both.imp fun {a b} ⟨h1, h2⟩ => ?_
  cases h : leS b a with
  | false => rfl
  | true => exact absurd (leS_anti h1 h) h2
theorem mem_srt {xs : List Str} {x : Str} : x ∈ (dedS xs).mergeSort leS ↔ x ∈ xs := by
  rw [List.mem_mergeSort, mem_dedS]
theorem ded_len : ∀ xs : List Str, (dedS xs).length ≤ xs.length
  | [] => by unfold dedS; exact Nat.le_refl _
  | x :: r => by
    have := ded_len r
    unfold dedS
    split
    · rw [List.length_cons]; omega
    · rw [List.length_cons, List.length_cons]; omega
def sLab : Sm := (.asg 3 (.srt (.comp [("k", 6)] (.nm 6) (.rng1 (.bin .add (.int 1) (.call 6 (.own 1 (.val (.int 6) .nil))))) .no eLab)))
theorem paired_strs {its : List PyData} {xs : List PyData} (h : PySem.Paired (fun _ x => ∃ s : Str, x = .str s ∧ isLab s = true) its xs) : ∃ ss : List Str, xs = ss.map PyData.str ∧ (∀ s ∈ ss, isLab s = true) ∧ ss.length = its.length := by
  induction h with
  | nil => exact ⟨[], rfl, nofun, rfl⟩
  | cons h t ih =>
    obtain ⟨s, rfl, hs⟩ := h
    obtain ⟨ss, rfl, h2, h3⟩ := ih
    refine ⟨s :: ss, rfl, fun x hx => ?_, by simp [h3]⟩
    rcases List.mem_cons.mp hx with rfl | hx
    · exact hs
    · exact h2 x hx
theorem st_lab {o0 o2 o3 o4 o5 o6 o7 o8 o9 o10 o11 o12 o13 o14 : Option Ent} {d : PyData} (hd : DrawOk d) : ∃ (d' : PyData) (ls : List Str) (p6 : Option Ent), DrawOk d' ∧ Asc ls ∧ (∀ s ∈ ls, isLab s = true) ∧ ls ≠ [] ∧ ls.length ≤ 6 ∧
    dS (G fl10) [] sLab [o0, some (1, d), o2, o3, o4, o5, o6, o7, o8, o9, o10, o11, o12, o13, o14] =
      .ok (.next, [o0, some (1, d'), o2, some (1, .list (ls.map PyData.str)), o4, o5, p6, o7, o8, o9, o10, o11, o12, o13, o14]) := by
  obtain ⟨r, d1, h1, a1, b1, t1⟩ := take_i (o0 := o0) (rest := [o2, o3, o4, o5, o6, o7, o8, o9, o10, o11, o12, o13, o14]) 6 hd (by decide) (by decide)
  have big : 4000 ≤ LIM := by decide
  have b62 : (4000 : Int) < B62 := by decide
  obtain ⟨xs, ε', ce, pr, d2, h2, rfl⟩ := comp_inv (vs := [6]) (tg := tgName [] 6) (ts := fTrue) (f := (den (G fl10) eLab).v) (I := fun ε => ∃ d, DrawOk d ∧ ε = [o0, some (1, d), o2, o3, o4, o5, none, o7, o8, o9, o10, o11, o12, o13, o14])
    (V := fun _ x => ∃ s : Str, x = .str s ∧ isLab s = true) ((List.range (1 + r).toNat).map fun (k : Nat) => .int (k : Int)) [] [o0, some (1, d1), o2, o3, o4, o5, none, o7, o8, o9, o10, o11, o12, o13, o14]
    (by rw [List.length_nil, List.length_map, List.length_range]; omega)
    (fun x hx ε ⟨d, hd, e⟩ => by
      subst e
      obtain ⟨d', s, q1, q2, q3⟩ := lab_ok (o0 := o0) (rest := [o2, o3, o4, o5, some (0, x), o7, o8, o9, o10, o11, o12, o13, o14]) hd
      exact ⟨_, _, 0, .str s, _, rfl, rfl, q3, ⟨s, rfl, q2⟩, d', q1, rfl⟩)
    ⟨d1, h1, rfl⟩
  obtain ⟨ss, rfl, hs, hl⟩ := paired_strs pr
  rw [List.length_map, List.length_range] at hl
  have hsr : srtF (0, .list (ss.map PyData.str)) = some (1, .list (((dedS ss).mergeSort leS).map PyData.str)) := by
    unfold srtF
    dsimp only
    rw [if_pos ⟨by omega, by rw [List.length_map]; omega⟩, strs_of]
  refine ⟨d2, (dedS ss).mergeSort leS, keep0 o6, h2, asc_srt ss, fun s h => hs s (mem_srt.mp h), fun z => ?_, ?_, ?_⟩
  · have : ss = [] := by
      cases ss with
      | nil => rfl
      | cons a t =>
        have : a ∈ (dedS (a :: t)).mergeSort leS := mem_srt.mpr List.mem_cons_self
        rw [z] at this
        cases this
    rw [this] at hl
    simp at hl
    omega
  · rw [List.length_mergeSort]
    have := ded_len ss
    omega
  · have src : fRng1 (fOp2 addF true (frzR (fLit (.int 1))) (frzR (fCallO F__law_take (cOwn 1 (cVal (fLit (.int 6)) cNil))))) [o0, some (1, d), o2, o3, o4, o5, o6, o7, o8, o9, o10, o11, o12, o13, o14] = .ok ((List.range (1 + r).toNat).map fun (k : Nat) => .int (k : Int), [o0, some (1, d1), o2, o3, o4, o5, o6, o7, o8, o9, o10, o11, o12, o13, o14]) := by
      rw [e_rng1]
      simp only [dSs, dS, den, denV, denR, denC, denO, denG, denJ, denOw, Den.val, BOp.F, COp.F, Bi.F, Me.F, TgA.tgt, bind_ok, bind_exc, bind_bad, opR_some, getR_some, varR_some, e_ixV, ixVR_some, truR_some, boolR_bool, andR_some, orR_some, itR_some, itemsOf, partR_int, e_var, e_varB, e_lit, e_op, e_op2, e_cons, e_nil, e_frz, e_tru, e_bool, e_seq, e_asg, e_expr, e_ret, e_retN, e_and, e_or, e_not, e_andT, e_orT, e_notT, e_if, e_un, e_m1, e_noPart, e_part, e_sl, e_only0, e_chain, chR_bool, e_str, e_jnil, e_jcons, strR_str, e_comp, e_in, e_rng1, e_enum, enR_list, e_next, e_brk, e_cont, e_ifS, e_for, e_par, e_ocons, e_asgT, e_app, e_setL, e_rais, e_callV, callR_some, fresR_ok, fresR_exc, seqR_next, seqR_ret, seqR_exc, seqR_brk, seqR_cont, fin_ret, fin_next, fin_exc, List.getElem?_cons_zero, List.getElem?_cons_succ, List.set_cons_zero, List.set_cons_succ, List.map_cons, List.map_nil, List.nil_append, List.cons_append, List.all_cons, List.all_nil, List.contains_nil, Bool.or_self, Bool.and_self, Bool.or_false, Bool.false_or, Bool.or_true, Bool.true_or, Bool.and_true, Bool.true_and, Bool.and_false, Bool.false_and, Bool.not_true, Bool.not_false, or_true, true_or, and_true, true_and, if_true, if_false, ite_true, ite_false, Bool.false_eq_true, reduceCtorEq, isV, isS, get_nil, get_val, owns_n, owns_v, owns_o, Option.map_some, decide_true, decide_false, tru_bool, tru_list, tru_tup, ix_l, ix_t, int_i, abs_i, add_ii, len_l, len_t, lst_neg, tup_t, isi_str, isi_tup, isi_int, PyData.isStr, PyData.isTuple, PyData.isInt, PyData.plain, eq_ii, ne_ii, lt_ii, le_ii, gt_ii, ge_ii, eq_ss, ne_ss, le_ss, t1]
      rw [rngR_int _ _ ⟨by omega, by omega⟩]
    unfold sLab
    simp only [dS, e_asg]
    rw [show (den (G fl10) (.srt (.comp [("k", 6)] (.nm 6) (.rng1 (.bin .add (.int 1) (.call 6 (.own 1 (.val (.int 6) .nil))))) .no eLab))).v = fUn srtF (frzR (fComp [6] (tgName [] 6) (fRng1 (fOp2 addF true (frzR (fLit (.int 1))) (frzR (fCallO F__law_take (cOwn 1 (cVal (fLit (.int 6)) cNil)))))) fTrue (den (G fl10) eLab).v)) from rfl]
    rw [e_un, e_frz, e_comp, src, bind_ok]
    rw [show wipeE [o0, some (1, d1), o2, o3, o4, o5, o6, o7, o8, o9, o10, o11, o12, o13, o14] [6] = [o0, some (1, d1), o2, o3, o4, o5, none, o7, o8, o9, o10, o11, o12, o13, o14] from rfl, ce, bind_ok, bind_ok, bind_ok, List.nil_append, hsr]
    rfl
end K57
end

section
set_option Elab.async false
set_option linter.all false
set_option maxRecDepth 100000
set_option maxHeartbeats 4000000
namespace K57
open PySem PySem.Spec PyProof.Rows L2 Mb TL
def sDoc : Sm := (.asg 4 (.bi .tuple (.comp [("label", 13)] (.nm 13) (.inn (.var 3)) .no (.tup (.cons (.var 13) (.cons (.idx (.glob 0) (.call 6 (.own 1 (.val (.int 9) .nil)))) .nil))))))
theorem ks_at (r : Int) (h0 : 0 ≤ r) (h1 : r < 9) : ∃ k ∈ KS, ∀ n m, ixF [(n, .tuple [.str "counter", .str "last", .str "choices", .str "keeps", .str "drops", .str "flag", .str "map", .str "list", .str "tree"]), (m, .int r)] = some (0, .str k) := by
  obtain ⟨n, rfl⟩ := Int.eq_ofNat_of_zero_le h0
  have h : n = 0 ∨ n = 1 ∨ n = 2 ∨ n = 3 ∨ n = 4 ∨ n = 5 ∨ n = 6 ∨ n = 7 ∨ n = 8 := by omega
  rcases h with rfl | rfl | rfl | rfl | rfl | rfl | rfl | rfl | rfl
  · exact ⟨"counter", by decide +kernel, fun _ _ => rfl⟩
  · exact ⟨"last", by decide +kernel, fun _ _ => rfl⟩
  · exact ⟨"choices", by decide +kernel, fun _ _ => rfl⟩
  · exact ⟨"keeps", by decide +kernel, fun _ _ => rfl⟩
  · exact ⟨"drops", by decide +kernel, fun _ _ => rfl⟩
  · exact ⟨"flag", by decide +kernel, fun _ _ => rfl⟩
  · exact ⟨"map", by decide +kernel, fun _ _ => rfl⟩
  · exact ⟨"list", by decide +kernel, fun _ _ => rfl⟩
  · exact ⟨"tree", by decide +kernel, fun _ _ => rfl⟩
theorem paired_pds : ∀ {ls : List Str} {xs : List PyData}, PySem.Paired (fun d x => ∃ (s k : Str), d = PyData.str s ∧ x = pd (s, k) ∧ k ∈ KS) (ls.map PyData.str) xs → ∃ f : List (Str × Str), xs = f.map pd ∧ f.map (·.1) = ls ∧ ∀ p ∈ f, p.2 ∈ KS
  | [], _, .nil => ⟨[], rfl, rfl, nofun⟩
  | l :: ls, _, .cons h t => by
    obtain ⟨s, k, e1, rfl, hk⟩ := h
    obtain ⟨f, rfl, h2, h3⟩ := paired_pds t
    injection e1 with e1
    refine ⟨(s, k) :: f, rfl, by rw [List.map_cons, h2, e1], fun p hp => ?_⟩
    rcases List.mem_cons.mp hp with rfl | hp
    · exact hk
    · exact h3 p hp
theorem st_doc {o0 o2 o4 o5 o6 o7 o8 o9 o10 o11 o12 o13 o14 : Option Ent} {d : PyData} {ls : List Str} (hd : DrawOk d) (hl : ls.length ≤ 6) : ∃ (d' : PyData) (f : List (Str × Str)) (p3 p13 : Option Ent), DrawOk d' ∧ f.map (·.1) = ls ∧ (∀ p ∈ f, p.2 ∈ KS) ∧
    dS (G fl10) [] sDoc [o0, some (1, d), o2, some (1, .list (ls.map PyData.str)), o4, o5, o6, o7, o8, o9, o10, o11, o12, o13, o14] =
      .ok (.next, [o0, some (1, d'), o2, p3, some (0, .tuple (f.map pd)), o5, o6, o7, o8, o9, o10, o11, o12, p13, o14]) := by
  have big : 4000 ≤ LIM := by decide
  obtain ⟨xs, ε', ce, pr, d2, h2, rfl⟩ := comp_inv (vs := [13]) (tg := tgName [] 13) (ts := fTrue) (f := fOp tupD (fCons true (frzR (fVar 13)) (fCons false (frzR (only0 (fOp2 ixF true (frzR (fLit (.tuple [.str "counter", .str "last", .str "choices", .str "keeps", .str "drops", .str "flag", .str "map", .str "list", .str "tree"]))) (frzR (fCallO F__law_take (cOwn 1 (cVal (fLit (.int 9)) cNil))))))) fNil)))
    (I := fun ε => ∃ d, DrawOk d ∧ ε = [o0, some (1, d), o2, some (0, .list (ls.map PyData.str)), o4, o5, o6, o7, o8, o9, o10, o11, o12, none, o14])
    (V := fun d x => ∃ (s k : Str), d = PyData.str s ∧ x = pd (s, k) ∧ k ∈ KS) (ls.map PyData.str) [] [o0, some (1, d), o2, some (0, .list (ls.map PyData.str)), o4, o5, o6, o7, o8, o9, o10, o11, o12, none, o14]
    (by rw [List.length_nil, List.length_map]; omega)
    (fun x hx ε ⟨d, hd, e⟩ => by
      subst e
      obtain ⟨s, hs, rfl⟩ := List.mem_map.mp hx
      obtain ⟨r, d', q1, a1, b1, t1⟩ := take_i (o0 := o0) (rest := [o2, some (0, .list (ls.map PyData.str)), o4, o5, o6, o7, o8, o9, o10, o11, o12, some (0, .str s), o14]) 9 hd (by decide) (by decide)
      obtain ⟨k, hk, px⟩ := ks_at r a1 b1
      refine ⟨_, _, 0, pd (s, k), [o0, some (1, d'), o2, some (0, .list (ls.map PyData.str)), o4, o5, o6, o7, o8, o9, o10, o11, o12, some (0, .str s), o14], rfl, rfl, ?_, ⟨s, k, rfl, rfl, hk⟩, d', q1, rfl⟩
      simp only [dSs, dS, den, denV, denR, denC, denO, denG, denJ, denOw, Den.val, BOp.F, COp.F, Bi.F, Me.F, TgA.tgt, bind_ok, bind_exc, bind_bad, opR_some, getR_some, varR_some, e_ixV, ixVR_some, truR_some, boolR_bool, andR_some, orR_some, itR_some, itemsOf, partR_int, e_var, e_varB, e_lit, e_op, e_op2, e_cons, e_nil, e_frz, e_tru, e_bool, e_seq, e_asg, e_expr, e_ret, e_retN, e_and, e_or, e_not, e_andT, e_orT, e_notT, e_if, e_un, e_m1, e_noPart, e_part, e_sl, e_only0, e_chain, chR_bool, e_str, e_jnil, e_jcons, strR_str, e_comp, e_in, e_rng1, e_enum, enR_list, e_next, e_brk, e_cont, e_ifS, e_for, e_par, e_ocons, e_asgT, e_app, e_setL, e_rais, e_callV, callR_some, fresR_ok, fresR_exc, seqR_next, seqR_ret, seqR_exc, seqR_brk, seqR_cont, fin_ret, fin_next, fin_exc, List.getElem?_cons_zero, List.getElem?_cons_succ, List.set_cons_zero, List.set_cons_succ, List.map_cons, List.map_nil, List.nil_append, List.cons_append, List.all_cons, List.all_nil, List.contains_nil, Bool.or_self, Bool.and_self, Bool.or_false, Bool.false_or, Bool.or_true, Bool.true_or, Bool.and_true, Bool.true_and, Bool.and_false, Bool.false_and, Bool.not_true, Bool.not_false, or_true, true_or, and_true, true_and, if_true, if_false, ite_true, ite_false, Bool.false_eq_true, reduceCtorEq, isV, isS, get_nil, get_val, owns_n, owns_v, owns_o, Option.map_some, decide_true, decide_false, tru_bool, tru_list, tru_tup, ix_l, ix_t, int_i, abs_i, add_ii, len_l, len_t, lst_neg, tup_t, isi_str, isi_tup, isi_int, PyData.isStr, PyData.isTuple, PyData.isInt, PyData.plain, eq_ii, ne_ii, lt_ii, le_ii, gt_ii, ge_ii, eq_ss, ne_ss, le_ss, t1, px, tup2]
      rfl)
    ⟨d, hd, rfl⟩
  obtain ⟨f, rfl, h3, h4⟩ := paired_pds pr
  refine ⟨d2, f, some (0, .list (ls.map PyData.str)), keep0 o13, h2, h3, h4, ?_⟩
  unfold sDoc
  simp only [dS, e_asg]
  rw [show (den (G fl10) (.bi .tuple (.comp [("label", 13)] (.nm 13) (.inn (.var 3)) .no (.tup (.cons (.var 13) (.cons (.idx (.glob 0) (.call 6 (.own 1 (.val (.int 9) .nil)))) .nil)))))).v = fOp tupFn (fCons false (frzR (fComp [13] (tgName [] 13) (fIn (fVar 3)) fTrue (fOp tupD (fCons true (frzR (fVar 13)) (fCons false (frzR (only0 (fOp2 ixF true (frzR (fLit (.tuple [.str "counter", .str "last", .str "choices", .str "keeps", .str "drops", .str "flag", .str "map", .str "list", .str "tree"]))) (frzR (fCallO F__law_take (cOwn 1 (cVal (fLit (.int 9)) cNil))))))) fNil))))) fNil) from rfl]
  have src : fIn (fVar 3) [o0, some (1, d), o2, some (1, .list (ls.map PyData.str)), o4, o5, o6, o7, o8, o9, o10, o11, o12, o13, o14] = .ok (ls.map PyData.str, [o0, some (1, d), o2, some (0, .list (ls.map PyData.str)), o4, o5, o6, o7, o8, o9, o10, o11, o12, o13, o14]) := rfl
  rw [e_op, e_cons, e_frz, e_comp, src, bind_ok]
  rw [show wipeE [o0, some (1, d), o2, some (0, .list (ls.map PyData.str)), o4, o5, o6, o7, o8, o9, o10, o11, o12, o13, o14] [13] = [o0, some (1, d), o2, some (0, .list (ls.map PyData.str)), o4, o5, o6, o7, o8, o9, o10, o11, o12, none, o14] from rfl, ce]
  rfl
def sText : Sm := (.asg 5 (.me .join (.str "") (.comp [("label", 13), ("kind", 14)] (.tp [13, 14]) (.inn (.var 4)) .no (.bin .add (.bin .add (.bin .add (.var 13) (.str " ")) (.var 14)) (.str "\n")))))
theorem doc_len {f : List (Str × Str)} (g : ∀ p ∈ f, isLab p.1 = true ∧ p.2 ∈ KS) : (((f.map fun p => ln1 p ++ "\n")).map (·.length)).sum ≤ 18 * f.length := by
  induction f with
  | nil => simp
  | cons p f ih =>
    have i := ih fun q hq => g q (List.mem_cons_of_mem _ hq)
    have la := lab_len (g p List.mem_cons_self).1
    have lb := (ks_short p.2 (g p List.mem_cons_self).2).1
    have s1 : (" " : Str).length = 1 := rfl
    have s2 : ("\n" : Str).length = 1 := rfl
    simp only [List.map_cons, List.sum_cons, List.length_cons, ln1, app_len] at i ⊢
    omega
theorem docT_len {f : List (Str × Str)} (g : ∀ p ∈ f, isLab p.1 = true ∧ p.2 ∈ KS) (hl : f.length ≤ 6) : (docT f).length ≤ 200 := by
  have h := join_len "" (f.map fun p => ln1 p ++ "\n")
  have s := doc_len g
  have e : ("" : Str).length = 0 := rfl
  rw [e] at h
  unfold docT
  omega
theorem st_text {o0 o1 o2 o3 o5 o6 o7 o8 o9 o10 o11 o12 o13 o14 : Option Ent} {f : List (Str × Str)} (g : ∀ p ∈ f, isLab p.1 = true ∧ p.2 ∈ KS) (hl : f.length ≤ 6) : ∃ (p13 p14 : Option Ent),
    dS (G fl10) [] sText [o0, o1, o2, o3, some (0, .tuple (f.map pd)), o5, o6, o7, o8, o9, o10, o11, o12, o13, o14] =
      .ok (.next, [o0, o1, o2, o3, some (0, .tuple (f.map pd)), some (0, .str (docT f)), o6, o7, o8, o9, o10, o11, o12, p13, p14]) := by
  have big : 4000 ≤ LIM := by decide
  have cs := comp_fm (vs := [13, 14]) (tg := TgA.tgt [] (.tp [13, 14])) (ts := fTrue) (f := (den (G fl10) (.bin .add (.bin .add (.bin .add (.var 13) (.str " ")) (.var 14)) (.str "\n"))).v) (c := fun _ => true) (k := kD) (ε := [o0, o1, o2, o3, some (0, .tuple (f.map pd)), o5, o6, o7, o8, o9, o10, o11, o12, none, none])
    (f.map pd) [] (by rw [List.length_nil, List.length_map]; omega) (fun d hd => by
      obtain ⟨p, hp, rfl⟩ := List.mem_map.mp hd
      have la := lab_len (g p hp).1
      have lb := (ks_short p.2 (g p hp).2).1
      have s1 : (" " : Str).length = 1 := rfl
      have s2 : ("\n" : Str).length = 1 := rfl
      have b1 : p.1.length + (" " : Str).length ≤ LIM := by omega
      have b2 : (p.1 ++ " ").length + p.2.length ≤ LIM := by rw [app_len]; omega
      have b3 : (p.1 ++ " " ++ p.2).length + ("\n" : Str).length ≤ LIM := by simp only [app_len]; omega
      refine ⟨[o0, o1, o2, o3, some (0, .tuple (f.map pd)), o5, o6, o7, o8, o9, o10, o11, o12, some (0, .str p.1), some (0, .str p.2)], _, rfl, rfl, (fun z => nomatch z), fun _ => ⟨0, [o0, o1, o2, o3, some (0, .tuple (f.map pd)), o5, o6, o7, o8, o9, o10, o11, o12, some (0, .str p.1), some (0, .str p.2)], ?_, rfl⟩⟩
      simp only [dSs, dS, den, denV, denR, denC, denO, denG, denJ, denOw, Den.val, BOp.F, COp.F, Bi.F, Me.F, TgA.tgt, bind_ok, bind_exc, bind_bad, opR_some, getR_some, varR_some, e_ixV, ixVR_some, truR_some, boolR_bool, andR_some, orR_some, itR_some, itemsOf, partR_int, e_var, e_varB, e_lit, e_op, e_op2, e_cons, e_nil, e_frz, e_tru, e_bool, e_seq, e_asg, e_expr, e_ret, e_retN, e_and, e_or, e_not, e_andT, e_orT, e_notT, e_if, e_un, e_m1, e_noPart, e_part, e_sl, e_only0, e_chain, chR_bool, e_str, e_jnil, e_jcons, strR_str, e_comp, e_in, e_rng1, e_enum, enR_list, e_next, e_brk, e_cont, e_ifS, e_for, e_par, e_ocons, e_asgT, e_app, e_setL, e_rais, e_cnil, e_cval, e_cown, e_callV, e_callO, callR_some, fresR_ok, fresR_exc, seqR_next, seqR_ret, seqR_exc, seqR_brk, seqR_cont, fin_ret, fin_next, fin_exc, List.getElem?_cons_zero, List.getElem?_cons_succ, List.set_cons_zero, List.set_cons_succ, List.map_cons, List.map_nil, List.nil_append, List.cons_append, List.all_cons, List.all_nil, List.contains_nil, Bool.or_self, Bool.and_self, Bool.or_false, Bool.false_or, Bool.or_true, Bool.true_or, Bool.and_true, Bool.true_and, Bool.and_false, Bool.false_and, Bool.not_true, Bool.not_false, or_true, true_or, and_true, true_and, if_true, if_false, ite_true, ite_false, Bool.false_eq_true, reduceCtorEq, isV, isS, get_nil, get_val, owns_n, owns_v, owns_o, Option.map_some, decide_true, decide_false, tru_bool, tru_list, tru_tup, ix_l, ix_t, int_i, abs_i, add_ii, len_l, len_t, lst_neg, tup_t, isi_str, isi_tup, isi_int, PyData.isStr, PyData.isTuple, PyData.isInt, PyData.plain, eq_ii, ne_ii, lt_ii, le_ii, gt_ii, ge_ii, eq_ss, ne_ss, le_ss, add_ss, b1, b2, b3]
      rfl)
  have e1 : ((f.map pd).filter fun _ => true).map kD = (f.map fun p => ln1 p ++ "\n").map PyData.str := by
    rw [List.filter_eq_self.mpr fun _ _ => rfl, List.map_map, List.map_map]
    rfl
  rw [e1] at cs
  have sum := doc_len g
  have jn : ∀ n m, n ≤ 1 → joinF [(m, .str ""), (n, .list ((f.map fun p => ln1 p ++ "\n").map PyData.str))] = some (0, .str (docT f)) := by
    intro n m hn
    have s0 : ("" : Str).length = 0 := rfl
    exact jn_ok "" _ n m hn (by rw [s0, Nat.mul_zero]; omega)
  refine ⟨keep0 o13, keep0 o14, ?_⟩
  unfold sText
  simp only [dS, e_asg]
  rw [show (den (G fl10) (.me .join (.str "") (.comp [("label", 13), ("kind", 14)] (.tp [13, 14]) (.inn (.var 4)) .no (.bin .add (.bin .add (.bin .add (.var 13) (.str " ")) (.var 14)) (.str "\n"))))).v = fM1 joinF false (frzR (fLit (.str ""))) (frzR (fComp [13, 14] (TgA.tgt [] (.tp [13, 14])) (fIn (fVar 4)) fTrue (den (G fl10) (.bin .add (.bin .add (.bin .add (.var 13) (.str " ")) (.var 14)) (.str "\n"))).v)) from rfl]
  have src : fIn (fVar 4) [o0, o1, o2, o3, some (0, .tuple (f.map pd)), o5, o6, o7, o8, o9, o10, o11, o12, o13, o14] = .ok (f.map pd, [o0, o1, o2, o3, some (0, .tuple (f.map pd)), o5, o6, o7, o8, o9, o10, o11, o12, o13, o14]) := rfl
  rw [e_m1, e_frz, e_lit, bind_ok, bind_ok, if_pos ⟨rfl, .inl rfl⟩, e_frz, e_comp, src, bind_ok]
  rw [show wipeE [o0, o1, o2, o3, some (0, .tuple (f.map pd)), o5, o6, o7, o8, o9, o10, o11, o12, o13, o14] [13, 14] = [o0, o1, o2, o3, some (0, .tuple (f.map pd)), o5, o6, o7, o8, o9, o10, o11, o12, none, none] from rfl, cs, bind_ok, bind_ok, bind_ok, List.nil_append, jn 0 0 (Nat.zero_le 1)]
  rfl
end K57
end

section
set_option Elab.async false
set_option linter.all false
set_option maxRecDepth 100000
set_option maxHeartbeats 4000000
namespace K57
open PySem PySem.Spec PyProof.Rows L2 Mb TL
theorem docT_short {f : List (Str × Str)} (g : ∀ p ∈ f, isLab p.1 = true ∧ p.2 ∈ KS) : ∀ c ∈ (docT f).cps.toList, c < 16 ^ 8 := by
  have e : tl (docT f) = (docT f).cps.toList := rfl
  rw [← e, tl_docT]
  intro c hc
  obtain ⟨l, hl, hc⟩ := List.mem_flatten.mp hc
  obtain ⟨p, hp, rfl⟩ := List.mem_map.mp hl
  obtain ⟨h1, h2⟩ := g p hp
  unfold ln1 at hc
  rw [tl_append, tl_append, esp] at hc
  simp only [List.mem_append, List.mem_singleton] at hc
  rcases hc with ((hc | rfl) | hc) | rfl
  · exact letter_lt (lab_chars h1 c hc)
  · decide
  · exact (ks_short p.2 h2).2 c hc
  · decide
theorem pair_shows {f : List (Str × Str)} (g : ∀ p ∈ f, isLab p.1 = true ∧ p.2 ∈ KS) (hl : f.length ≤ 6) : Shows (.tuple [.str (docT f), .tuple (f.map pd)]) := by
  have s := tup_shows g (by omega)
  have dl := docT_len g hl
  have dp := deep_pds f
  have big : 2000000 ≤ LIM := by decide
  obtain ⟨i1, i2⟩ := pds_short f g
  have t := tupleText_len_le (PyData.shownAll (f.map pd))
  have r := PySem.StrLaws.reprText_len (docT f) (docT_short g)
  have t2 := tupleText_len_le [reprText (docT f), tupleText (PyData.shownAll (f.map pd))]
  rw [i1] at t
  simp only [List.map_cons, List.map_nil, List.sum_cons, List.sum_nil, List.length_cons, List.length_nil] at t2
  refine ⟨?_, ?_, ?_, ?_⟩
  · simp only [PyData.plain, PyData.plainAll, plain_pds f, Bool.and_self]
  · simp only [PyData.showable, PyData.showableAll, pds_show f, Bool.and_self]
  · simp only [PyData.depth, PyData.depthAll]; omega
  · rw [show (PyData.tuple [.str (docT f), .tuple (f.map pd)]).shown = tupleText [reprText (docT f), tupleText (PyData.shownAll (f.map pd))] from by simp only [PyData.shown, PyData.shownAll]]
    omega
def sSame : Sm := (.ite (.not (.call 7 (.val (.tup (.cons (.call 3 (.val (.var 4) .nil)) (.cons (.call 4 (.val (.var 5) .nil)) .nil))) (.val (.tup (.cons (.var 5) (.cons (.var 4) .nil))) .nil)))) (.cons (.ret (.bl false)) .nil) .nil)
theorem st_same {o0 o1 o2 o3 o6 o7 o8 o9 o10 o11 o12 o13 o14 : Option Ent} {f : List (Str × Str)} (g : Good f) (hn : f ≠ []) (hl : f.length ≤ 6) :
    dS (G fl10) [] sSame [o0, o1, o2, o3, some (0, .tuple (f.map pd)), some (0, .str (docT f)), o6, o7, o8, o9, o10, o11, o12, o13, o14] =
      .ok (.next, [o0, o1, o2, o3, some (0, .tuple (f.map pd)), some (0, .str (docT f)), o6, o7, o8, o9, o10, o11, o12, o13, o14]) := by
  have h3 := docF_F g.each (by omega)
  have dl := docT_len g.each hl
  have h4 := read_F (t := docT f) (by omega)
  have tt : told (docT f) = .inr f := told_docT g hn
  rw [tt] at h4
  have h4 : F_read_document [(0, .str (docT f))] = .ok (0, .tuple (f.map pd)) [none] := h4
  have h7 := same_F (pair_shows g.each hl)
  unfold sSame
  simp only [dSs, dS, den, denV, denR, denC, denO, denG, denJ, denOw, Den.val, BOp.F, COp.F, Bi.F, Me.F, TgA.tgt, bind_ok, bind_exc, bind_bad, opR_some, getR_some, varR_some, e_ixV, ixVR_some, truR_some, boolR_bool, andR_some, orR_some, itR_some, itemsOf, partR_int, e_var, e_varB, e_lit, e_op, e_op2, e_cons, e_nil, e_frz, e_tru, e_bool, e_seq, e_asg, e_expr, e_ret, e_retN, e_and, e_or, e_not, e_andT, e_orT, e_notT, e_if, e_un, e_m1, e_noPart, e_part, e_sl, e_only0, e_chain, chR_bool, e_str, e_jnil, e_jcons, strR_str, e_comp, e_in, e_rng1, e_enum, enR_list, e_next, e_brk, e_cont, e_ifS, e_for, e_par, e_ocons, e_asgT, e_app, e_setL, e_rais, e_cnil, e_cval, e_cown, e_callV, e_callO, callR_some, fresR_ok, fresR_exc, seqR_next, seqR_ret, seqR_exc, seqR_brk, seqR_cont, fin_ret, fin_next, fin_exc, List.getElem?_cons_zero, List.getElem?_cons_succ, List.set_cons_zero, List.set_cons_succ, List.map_cons, List.map_nil, List.nil_append, List.cons_append, List.all_cons, List.all_nil, List.contains_nil, Bool.or_self, Bool.and_self, Bool.or_false, Bool.false_or, Bool.or_true, Bool.true_or, Bool.and_true, Bool.true_and, Bool.and_false, Bool.false_and, Bool.not_true, Bool.not_false, or_true, true_or, and_true, true_and, if_true, if_false, ite_true, ite_false, Bool.false_eq_true, reduceCtorEq, isV, isS, get_nil, get_val, owns_n, owns_v, owns_o, Option.map_some, decide_true, decide_false, tru_bool, tru_list, tru_tup, ix_l, ix_t, int_i, abs_i, add_ii, len_l, len_t, lst_neg, tup_t, isi_str, isi_tup, isi_int, PyData.isStr, PyData.isTuple, PyData.isInt, PyData.plain, eq_ii, ne_ii, lt_ii, le_ii, gt_ii, ge_ii, eq_ss, ne_ss, le_ss, g10_7, g10_3, g10_4, h3, h4, tup2, h7]
def bTurn : Sms := (.cons sLab (.cons sDoc (.cons sText (.cons sSame (.cons (.forr (.nm 6) (.rng1 (.int 8)) eBl) .nil)))))
def Row (ε : Ev) : Prop := ∃ (o0 : Option Ent) (d : PyData) (o2 o3 o4 o5 o6 o7 o8 o9 o10 o11 o12 o13 o14 : Option Ent), DrawOk d ∧ ε = [o0, some (1, d), o2, o3, o4, o5, o6, o7, o8, o9, o10, o11, o12, o13, o14]
theorem outer_ok {ε : Ev} (h : Row ε) : ∃ ε', dSs (G fl10) [] bTurn ε = .ok (.next, ε') ∧ Row ε' := by
  obtain ⟨o0, d, o2, o3, o4, o5, o6, o7, o8, o9, o10, o11, o12, o13, o14, hd, rfl⟩ := h
  obtain ⟨d1, ls, p6, h1, asc, il, ne, l6, e1⟩ := st_lab (o0 := o0) (o2 := o2) (o3 := o3) (o4 := o4) (o5 := o5) (o6 := o6) (o7 := o7) (o8 := o8) (o9 := o9) (o10 := o10) (o11 := o11) (o12 := o12) (o13 := o13) (o14 := o14) hd
  obtain ⟨d2, f, p3, p13, h2, fl, fk, e2⟩ := st_doc (o0 := o0) (o2 := o2) (o4 := o4) (o5 := o5) (o6 := p6) (o7 := o7) (o8 := o8) (o9 := o9) (o10 := o10) (o11 := o11) (o12 := o12) (o13 := o13) (o14 := o14) h1 l6
  have g : Good f := ⟨by rw [fl]; exact asc, fun p hp => ⟨il p.1 (by rw [← fl]; exact List.mem_map_of_mem hp), fk p hp⟩⟩
  have hl : f.length ≤ 6 := by rw [← fl, List.length_map] at l6; exact l6
  have hn : f ≠ [] := fun z => by subst z; exact ne fl.symm
  obtain ⟨q13, q14, e3⟩ := st_text (o0 := o0) (o1 := some (1, d2)) (o2 := o2) (o3 := p3) (o5 := o5) (o6 := p6) (o7 := o7) (o8 := o8) (o9 := o9) (o10 := o10) (o11 := o11) (o12 := o12) (o13 := p13) (o14 := o14) g.each hl
  have e4 := st_same (o0 := o0) (o1 := some (1, d2)) (o2 := o2) (o3 := p3) (o6 := p6) (o7 := o7) (o8 := o8) (o9 := o9) (o10 := o10) (o11 := o11) (o12 := o12) (o13 := q13) (o14 := q14) g hn hl
  have dl := docT_len g.each hl
  obtain ⟨ε', e5, d3, p6', p7, p8, p9, p10, p11, p12, h3, rfl⟩ := loop_inv (tg := TgA.tgt [] (.nm 6)) (b := dSs (G fl10) [] eBl)
    (I := fun ε => ∃ (d : PyData) (p6 p7 p8 p9 p10 p11 p12 : Option Ent), DrawOk d ∧ ε = [o0, some (1, d), o2, p3, some (0, .tuple (f.map pd)), some (0, .str (docT f)), p6, p7, p8, p9, p10, p11, p12, q13, q14])
    ((List.range 8).map fun (k : Nat) => .int (0 + (k : Int))) [o0, some (1, d2), o2, p3, some (0, .tuple (f.map pd)), some (0, .str (docT f)), p6, o7, o8, o9, o10, o11, o12, q13, q14]
    (fun x hx ε ⟨d, p6, p7, p8, p9, p10, p11, p12, hd, e⟩ => by
      subst e
      obtain ⟨d', r7, r8, r9, r10, r11, r12, hd', e⟩ := turn_ok (o0 := o0) (o2 := o2) (o3 := p3) (o4 := some (0, .tuple (f.map pd))) (o6 := some (0, x)) (o7 := p7) (o8 := p8) (o9 := p9) (o10 := p10) (o11 := p11) (o12 := p12) (o13 := q13) (o14 := q14) hd dl
      exact ⟨_, _, rfl, e, d', some (0, x), r7, r8, r9, r10, r11, r12, hd', rfl⟩)
    ⟨d2, p6, o7, o8, o9, o10, o11, o12, h2, rfl⟩
  refine ⟨_, ?_, o0, d3, o2, p3, some (0, .tuple (f.map pd)), some (0, .str (docT f)), p6', p7, p8, p9, p10, p11, p12, q13, q14, h3, rfl⟩
  have e6 : dS (G fl10) [] (.forr (.nm 6) (.rng1 (.int 8)) eBl) [o0, some (1, d2), o2, p3, some (0, .tuple (f.map pd)), some (0, .str (docT f)), p6, o7, o8, o9, o10, o11, o12, q13, q14] = fLoop (TgA.tgt [] (.nm 6)) (dSs (G fl10) [] eBl) ((List.range 8).map fun (k : Nat) => .int (0 + (k : Int))) [o0, some (1, d2), o2, p3, some (0, .tuple (f.map pd)), some (0, .str (docT f)), p6, o7, o8, o9, o10, o11, o12, q13, q14] := rfl
  unfold bTurn
  simp only [dSs]
  rw [e_seq, e1, seqR_next, e_seq, e2, seqR_next, e_seq, e3, seqR_next, e_seq, e4, seqR_next, e_seq, e6, e5, seqR_next]
  rfl
theorem law_val (ns : List Int) (hl : ns.length ≤ 63) : ∃ ps, F_law [(0, .list (ns.map .int))] = .ok (0, .bool true) ps := by
  obtain ⟨d, ps, hd, ok⟩ := draw_F ns hl
  obtain ⟨ε', e2, o0, d', o2, o3, o4, o5, o6, o7, o8, o9, o10, o11, o12, o13, o14, ok', rfl⟩ := loop_inv (tg := TgA.tgt [] (.nm 2)) (b := dSs (G fl10) [] bTurn) (I := Row)
    ((List.range 5).map fun (k : Nat) => .int (0 + (k : Int))) [some (0, .list (ns.map .int)), some (1, d), none, none, none, none, none, none, none, none, none, none, none, none, none]
    (fun x hx ε ⟨o0, d, o2, o3, o4, o5, o6, o7, o8, o9, o10, o11, o12, o13, o14, hd, e⟩ => by
      subst e
      obtain ⟨ε', h1, h2⟩ := outer_ok (ε := [o0, some (1, d), some (0, x), o3, o4, o5, o6, o7, o8, o9, o10, o11, o12, o13, o14]) ⟨o0, d, some (0, x), o3, o4, o5, o6, o7, o8, o9, o10, o11, o12, o13, o14, hd, rfl⟩
      exact ⟨_, ε', rfl, h1, h2⟩)
    ⟨some (0, .list (ns.map .int)), d, none, none, none, none, none, none, none, none, none, none, none, none, none, ok, rfl⟩
  have t9 : ∀ (t : Str) (n : Nat), t.length < 3000 → told t = .inl n → ∃ ps, F__law_told [(0, .str t)] = .ok (0, .int (n : Int)) ps := fun t n h e => by
    obtain ⟨ps, h⟩ := told_F h
    rw [e] at h
    exact ⟨ps, h⟩
  obtain ⟨q1, c1⟩ := t9 "" 1 (by decide) t1
  obtain ⟨q2, c2⟩ := t9 "a map" 1 (by decide) t2
  obtain ⟨q3, c3⟩ := t9 "b map\na map\n" 2 (by decide) t3
  obtain ⟨q4, c4⟩ := t9 "a map\n\n" 2 (by decide) t4
  refine ⟨[none], ?_⟩
  have a1 : dS (G fl10) [] (.asg 1 (.call 5 (.val (.var 0) .nil))) [some (0, .list (ns.map .int)), none, none, none, none, none, none, none, none, none, none, none, none, none, none] = .ok (.next, [some (0, .list (ns.map .int)), some (1, d), none, none, none, none, none, none, none, none, none, none, none, none, none]) := by
    simp only [dSs, dS, den, denV, denR, denC, denO, denG, denJ, denOw, Den.val, BOp.F, COp.F, Bi.F, Me.F, TgA.tgt, bind_ok, bind_exc, bind_bad, opR_some, getR_some, varR_some, e_ixV, ixVR_some, truR_some, boolR_bool, andR_some, orR_some, itR_some, itemsOf, partR_int, e_var, e_varB, e_lit, e_op, e_op2, e_cons, e_nil, e_frz, e_tru, e_bool, e_seq, e_asg, e_expr, e_ret, e_retN, e_and, e_or, e_not, e_andT, e_orT, e_notT, e_if, e_un, e_m1, e_noPart, e_part, e_sl, e_only0, e_chain, chR_bool, e_str, e_jnil, e_jcons, strR_str, e_comp, e_in, e_rng1, e_enum, enR_list, e_next, e_brk, e_cont, e_ifS, e_for, e_par, e_ocons, e_asgT, e_app, e_setL, e_rais, e_cnil, e_cval, e_cown, e_callV, e_callO, callR_some, fresR_ok, fresR_exc, seqR_next, seqR_ret, seqR_exc, seqR_brk, seqR_cont, fin_ret, fin_next, fin_exc, List.getElem?_cons_zero, List.getElem?_cons_succ, List.set_cons_zero, List.set_cons_succ, List.map_cons, List.map_nil, List.nil_append, List.cons_append, List.all_cons, List.all_nil, List.contains_nil, Bool.or_self, Bool.and_self, Bool.or_false, Bool.false_or, Bool.or_true, Bool.true_or, Bool.and_true, Bool.true_and, Bool.and_false, Bool.false_and, Bool.not_true, Bool.not_false, or_true, true_or, and_true, true_and, if_true, if_false, ite_true, ite_false, Bool.false_eq_true, reduceCtorEq, isV, isS, get_nil, get_val, owns_n, owns_v, owns_o, Option.map_some, decide_true, decide_false, tru_bool, tru_list, tru_tup, ix_l, ix_t, int_i, abs_i, add_ii, len_l, len_t, lst_neg, tup_t, isi_str, isi_tup, isi_int, PyData.isStr, PyData.isTuple, PyData.isInt, PyData.plain, eq_ii, ne_ii, lt_ii, le_ii, gt_ii, ge_ii, eq_ss, ne_ss, le_ss, g10_5, hd]
  have a2 : dS (G fl10) [] (.forr (.nm 2) (.rng1 (.int 5)) bTurn) [some (0, .list (ns.map .int)), some (1, d), none, none, none, none, none, none, none, none, none, none, none, none, none] = fLoop (TgA.tgt [] (.nm 2)) (dSs (G fl10) [] bTurn) ((List.range 5).map fun (k : Nat) => .int (0 + (k : Int))) [some (0, .list (ns.map .int)), some (1, d), none, none, none, none, none, none, none, none, none, none, none, none, none] := rfl
  unfold F_law b_law
  simp only [e_run, List.length_cons, List.length_nil, if_true, List.map_cons, List.map_nil, List.cons_append, List.nil_append, List.replicate_succ, List.replicate_zero, Nat.reduceSub, Nat.reduceAdd]
  rw [← eLab, ← eBent, ← sPar, ← sN, ← eM, ← sM, ← sOwn, ← sLast, ← eBl, ← sLab, ← sDoc, ← sText, ← sSame, ← bTurn]
  simp only [dSs, e_seq]
  rw [a1, seqR_next]
  simp only [dSs, e_seq]
  rw [a2, e2, seqR_next]
  simp only [dSs, dS, den, denV, denR, denC, denO, denG, denJ, denOw, Den.val, BOp.F, COp.F, Bi.F, Me.F, TgA.tgt, bind_ok, bind_exc, bind_bad, opR_some, getR_some, varR_some, e_ixV, ixVR_some, truR_some, boolR_bool, andR_some, orR_some, itR_some, itemsOf, partR_int, e_var, e_varB, e_lit, e_op, e_op2, e_cons, e_nil, e_frz, e_tru, e_bool, e_seq, e_asg, e_expr, e_ret, e_retN, e_and, e_or, e_not, e_andT, e_orT, e_notT, e_if, e_un, e_m1, e_noPart, e_part, e_sl, e_only0, e_chain, chR_bool, e_str, e_jnil, e_jcons, strR_str, e_comp, e_in, e_rng1, e_enum, enR_list, e_next, e_brk, e_cont, e_ifS, e_for, e_par, e_ocons, e_asgT, e_app, e_setL, e_rais, e_cnil, e_cval, e_cown, e_callV, e_callO, callR_some, fresR_ok, fresR_exc, seqR_next, seqR_ret, seqR_exc, seqR_brk, seqR_cont, fin_ret, fin_next, fin_exc, List.getElem?_cons_zero, List.getElem?_cons_succ, List.set_cons_zero, List.set_cons_succ, List.map_cons, List.map_nil, List.nil_append, List.cons_append, List.all_cons, List.all_nil, List.contains_nil, Bool.or_self, Bool.and_self, Bool.or_false, Bool.false_or, Bool.or_true, Bool.true_or, Bool.and_true, Bool.true_and, Bool.and_false, Bool.false_and, Bool.not_true, Bool.not_false, or_true, true_or, and_true, true_and, if_true, if_false, ite_true, ite_false, Bool.false_eq_true, reduceCtorEq, isV, isS, get_nil, get_val, owns_n, owns_v, owns_o, Option.map_some, decide_true, decide_false, tru_bool, tru_list, tru_tup, ix_l, ix_t, int_i, abs_i, add_ii, len_l, len_t, lst_neg, tup_t, isi_str, isi_tup, isi_int, PyData.isStr, PyData.isTuple, PyData.isInt, PyData.plain, eq_ii, ne_ii, lt_ii, le_ii, gt_ii, ge_ii, eq_ss, ne_ss, le_ss, g10_9, c1, c2, c3, c4]
  rfl
end K57
end

section
namespace K57
open PySem PySem.Spec PyProof.Rows L2 Mb
abbrev PP : Program := PySem.Challenge.pw_meetsagain_k57_documents_in_writing
def dl : List He.DefD := [d_are_letters, d_is_label, d_is_document, d_document_text, d_read_document, d__law_draw, d__law_take, d__law_same, d__law_read, d__law_told, d_law]
def nms : List Str := ["are_letters", "is_label", "is_document", "document_text", "read_document", "_law_draw", "_law_take", "_law_same", "_law_read", "_law_told", "law"]
def rest (K : PySem.W.Frag) : Bool := badB PP K "BadForm"
def fi : List Str := ["BadForm"]
def clsBody : Stmt → List Stmt
  | .ClassDef (body := b) .. => b
  | _ => []
def ini : Stmt := (clsBody (top 2)).getD 0 (.Pass ⟨0, 0, 0, 0⟩)
def fv : List FnX := [fnXv "BadForm.__init__" (defArgs ini) (defBody ini) (defScope ini)]
def ex : PySem.W.Frag → Bool := exAll blts glbs nms rest
abbrev R : PySem.W.OpenRow := PySem.W.OpenLaw.row PySem.Challenge.rw_meetsagain_k57_documents_in_writing
abbrev hk : PySem.W.Hook := hookX 5 dl fi fv ex
def ob (s : PySem.W.SharedT) : AlX := obsX 5 dl fi ex (HandSHeadRun.getT s)
theorem ob_eq (s : PySem.W.SharedT) : ob s = hk.obs s.abs := obsX_eq (HandSHeadRun.getT_eq s)
def lo0 : List Str := ["MeetingError", "BadForm", "KINDS", "MAX_LABEL", "are_letters", "is_label", "is_document", "document_text", "read_document", "_law_draw", "_law_take", "_law_same", "_law_read", "_law_told"]
abbrev los : List Str := lo0
theorem run (w : World) : HandSHeadRun.RunEq R (PySem.W.view R.prog [18]) hk ob 3000 los w := by
  intro os
  kernel_rfl
section
variable {w : World} {K : PySem.W.Frag} {h : Heap} {mg : Str → Option Value} {base : Heap}
theorem bad_ok (X : K.In h) (G0 : h.Ns mainGlobals mg) (c : SaysX dl fi fv ex K) (hb : badB PP K "BadForm" = true) : ∃ q C f, BadTxt PP K mg "BadForm" q C f := by
  have e : fnXo K "BadForm" = fnXv "BadForm.__init__" (defArgs ini) (defBody ini) (defScope ini) := (List.cons.inj c.fx).1
  exact ⟨_, _, _, badB_ok X G0 hb e (by decide) (by decide) ⟨_, fun _ => rfl⟩⟩
theorem gm0 (X : K.In h) (G0 : h.Ns mainGlobals mg) (c : SaysX dl fi fv ex K) : GmOk PP w K mg base 0 (G fl0) := by
  have a := exAll_ok c.ex
  refine gm_nil (fun x hx => freeB_ok X G0 (a.blt x (by simpa using hx))) (fun q hq => glbB_ok X G0 (a.glb q hq)) fun q hq Y e1 e2 e3 e4 hr => ?_
  have r := a.rest
  simp only [rest, Bool.and_eq_true] at r
  simp only [exss, List.mem_cons, List.not_mem_nil, or_false] at hq
  subst hq
  · obtain ⟨q, C, f, T⟩ := bad_ok X G0 c r
    exact ex_line (k := 0) (p := ⟨K, mg⟩) (X := Y) (by rw [e1, e3, e4]; exact T) e3 e4 hr
theorem gm1 (X : K.In h) (G0 : h.Ns mainGlobals mg) (c : SaysX dl fi fv ex K) : GmOk PP w K mg base 1 (G fl1) := by
  obtain ⟨fd, D⟩ := c.def_ 0 (d := d_are_letters) rfl
  have a := exAll_ok c.ex
  exact gm_snoc (gm0 X G0 c) D s_are_letters c_are_letters (gloB_ok X G0 (a.fns "are_letters" (by simp [nms]))) (D.bindsN fun _ _ _ _ _ _ us hl => match us, hl with | [_, _], _ => rfl) rfl
theorem gm2 (X : K.In h) (G0 : h.Ns mainGlobals mg) (c : SaysX dl fi fv ex K) : GmOk PP w K mg base 2 (G fl2) := by
  obtain ⟨fd, D⟩ := c.def_ 1 (d := d_is_label) rfl
  have a := exAll_ok c.ex
  exact gm_snoc (gm1 X G0 c) D s_is_label c_is_label (gloB_ok X G0 (a.fns "is_label" (by simp [nms]))) (D.bindsN fun _ _ _ _ _ _ us hl => match us, hl with | [_], _ => rfl) rfl
theorem gm3 (X : K.In h) (G0 : h.Ns mainGlobals mg) (c : SaysX dl fi fv ex K) : GmOk PP w K mg base 3 (G fl3) := by
  obtain ⟨fd, D⟩ := c.def_ 2 (d := d_is_document) rfl
  have a := exAll_ok c.ex
  exact gm_snoc (gm2 X G0 c) D s_is_document c_is_document (gloB_ok X G0 (a.fns "is_document" (by simp [nms]))) (D.bindsN fun _ _ _ _ _ _ us hl => match us, hl with | [_], _ => rfl) rfl
theorem gm4 (X : K.In h) (G0 : h.Ns mainGlobals mg) (c : SaysX dl fi fv ex K) : GmOk PP w K mg base 4 (G fl4) := by
  obtain ⟨fd, D⟩ := c.def_ 3 (d := d_document_text) rfl
  have a := exAll_ok c.ex
  exact gm_snoc (gm3 X G0 c) D s_document_text c_document_text (gloB_ok X G0 (a.fns "document_text" (by simp [nms]))) (D.bindsN fun _ _ _ _ _ _ us hl => match us, hl with | [_], _ => rfl) rfl
theorem gm5 (X : K.In h) (G0 : h.Ns mainGlobals mg) (c : SaysX dl fi fv ex K) : GmOk PP w K mg base 5 (G fl5) := by
  obtain ⟨fd, D⟩ := c.def_ 4 (d := d_read_document) rfl
  have a := exAll_ok c.ex
  exact gm_snoc (gm4 X G0 c) D s_read_document c_read_document (gloB_ok X G0 (a.fns "read_document" (by simp [nms]))) (D.bindsN fun _ _ _ _ _ _ us hl => match us, hl with | [_], _ => rfl) rfl
theorem gm6 (X : K.In h) (G0 : h.Ns mainGlobals mg) (c : SaysX dl fi fv ex K) : GmOk PP w K mg base 6 (G fl6) := by
  obtain ⟨fd, D⟩ := c.def_ 5 (d := d__law_draw) rfl
  have a := exAll_ok c.ex
  exact gm_snoc (gm5 X G0 c) D s__law_draw c__law_draw (gloB_ok X G0 (a.fns "_law_draw" (by simp [nms]))) (D.bindsN fun _ _ _ _ _ _ us hl => match us, hl with | [_], _ => rfl) rfl
theorem gm7 (X : K.In h) (G0 : h.Ns mainGlobals mg) (c : SaysX dl fi fv ex K) : GmOk PP w K mg base 7 (G fl7) := by
  obtain ⟨fd, D⟩ := c.def_ 6 (d := d__law_take) rfl
  have a := exAll_ok c.ex
  exact gm_snoc (gm6 X G0 c) D s__law_take c__law_take (gloB_ok X G0 (a.fns "_law_take" (by simp [nms]))) (D.bindsN fun _ _ _ _ _ _ us hl => match us, hl with | [_, _], _ => rfl) rfl
theorem gm8 (X : K.In h) (G0 : h.Ns mainGlobals mg) (c : SaysX dl fi fv ex K) : GmOk PP w K mg base 8 (G fl8) := by
  obtain ⟨fd, D⟩ := c.def_ 7 (d := d__law_same) rfl
  have a := exAll_ok c.ex
  exact gm_snoc (gm7 X G0 c) D s__law_same c__law_same (gloB_ok X G0 (a.fns "_law_same" (by simp [nms]))) (D.bindsN fun _ _ _ _ _ _ us hl => match us, hl with | [_, _], _ => rfl) rfl
theorem gm9 (X : K.In h) (G0 : h.Ns mainGlobals mg) (c : SaysX dl fi fv ex K) : GmOk PP w K mg base 9 (G fl9) := by
  obtain ⟨fd, D⟩ := c.def_ 8 (d := d__law_read) rfl
  have a := exAll_ok c.ex
  exact gm_snoc (gm8 X G0 c) D s__law_read c__law_read (gloB_ok X G0 (a.fns "_law_read" (by simp [nms]))) (D.bindsN fun _ _ _ _ _ _ us hl => match us, hl with | [_], _ => rfl) rfl
theorem gm10 (X : K.In h) (G0 : h.Ns mainGlobals mg) (c : SaysX dl fi fv ex K) : GmOk PP w K mg base 10 (G fl10) := by
  obtain ⟨fd, D⟩ := c.def_ 9 (d := d__law_told) rfl
  have a := exAll_ok c.ex
  exact gm_snoc (gm9 X G0 c) D s__law_told c__law_told (gloB_ok X G0 (a.fns "_law_told" (by simp [nms]))) (D.bindsN fun _ _ _ _ _ _ us hl => match us, hl with | [_], _ => rfl) rfl
theorem law_fn (X : K.In h) (G0 : h.Ns mainGlobals mg) (c : SaysX dl fi fv ex K) : ∃ fd : FuncData, mg "law" = some (.ref (He.ga K "law")) ∧ (∀ (s : Shared) (u : Value), BindsTo s fd ⟨[u], []⟩ [("script", u)]) ∧ ∀ base : Heap, FnG PP w K mg base 11 (He.ga K "law") fd ["script"] (spF ⟨K, mg⟩ F_law) := by
  obtain ⟨fd, D⟩ := c.def_ 10 (d := d_law) rfl
  have a := exAll_ok c.ex
  have b := FunD.bindsA (ps := ["script"]) D fun _ _ _ _ _ _ us hl => match us, hl with | [_], _ => rfl
  refine ⟨fd, gloB_ok X G0 (a.fns "law" (by simp [nms])), fun s u => b s [u] rfl, fun base => ?_⟩
  exact fnG_d D s_law srtR (gm10 X G0 c) c_law
end
end K57
open PySem PySem.W PySem.Calls PyProof.Rows
theorem PySem.Challenge.cw_meetsagain_k57_documents_in_writing_holds : PySem.Challenge.rw_meetsagain_k57_documents_in_writing.Holds := by
  w_on; o_law
  refine HandSHeadRun.head_any (r := OpenLaw.row PySem.Challenge.rw_meetsagain_k57_documents_in_writing) (q := view (OpenLaw.row PySem.Challenge.rw_meetsagain_k57_documents_in_writing).prog [18]) (H := K57.hk) (ob := K57.ob) (M := 3000) (loose := K57.los) (d := HandSHeadRun.topDef (OpenLaw.row PySem.Challenge.rw_meetsagain_k57_documents_in_writing).prog 18) (kwd := []) K57.ob_eq
    (by kernel_rfl) (fun s => by kernel_rfl) K57.run (by kernel_rfl) (by kernel_rfl) (by kernel_rfl) (by rfl) (by first | assumption | decide +kernel) (by decide +kernel) ⟨rfl, rfl, rfl, rfl, rfl, by decide +kernel⟩ ?hw ?hc
  case hw => w_witness2
  case hc =>
    refine Mb.walkG (l := PySem.Challenge.rw_meetsagain_k57_documents_in_writing) (n := 63) (k := 11) (x := "script") rfl (by decide) (by kernel_rfl) ⟨rfl, by decide, by decide⟩ ?F
    intro w mg fa h Y G0 hmg0
    obtain ⟨K, KX, c⟩ := Y
    obtain ⟨fd, hm, hb, hF⟩ := K57.law_fn (w := w) KX G0 c
    have hmg : mg ("law" : PySem.Str) = some (.ref fa) := by
      have e : (HandSHeadRun.topDef (OpenLaw.row PySem.Challenge.rw_meetsagain_k57_documents_in_writing).prog 18).name = ("law" : PySem.Str) := by kernel_rfl
      rw [← e]
      exact hmg0
    have e := hm.symm.trans hmg
    cases e
    exact ⟨K, fd, K57.F_law, KX, Mb.notL_ok (Mb.exAll_ok c.ex).notL, hb, K57.law_val, fun base _ _ => hF base⟩
end
