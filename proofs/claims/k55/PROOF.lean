import PyProof.Rows.All
import Wide.All
import OpenK.AllK
import Wide.FinOn
import HandS.ForMost
import HandS.ForExc
import HandS.IsInst
import HandS.Flow
import HandS.Wide
import HandS.FStr
import KE.DataEq
import KE.SortData
import KE.DataCmp
import KE.DataIsa
import KE.DataMinMax
import KE.DataAny
import KE.DataFind
import HandS.Exc
import HandS.TupAny
import HandS.Text
import PyProof.StrBlock2
import HandS.List
import HandS.Style
import HandS.Iter
import HandS.Zip
import HandS.Comp
import HandS.TryOnly
import HandS.ExcField
import HandS.HeadEnd
import HandS.HeadHook2
import HandS.Head2
import HandS.Ends
import HandS.Set
import HandS.SetFor
import KE.KExcSuper
import HandS.ExcOwn
import HandS.RaiseMore
import KE.IntTextLaws
import PyProof.StrLawsRepr
import PySem.Challenge.RW_meetsagain_k55_dots_vectors_and_values_i
set_option Elab.async false
set_option linter.all false
set_option maxRecDepth 100000
set_option maxHeartbeats 4000000
section
set_option Elab.async false
set_option linter.all false
set_option maxRecDepth 100000
set_option maxHeartbeats 1000000
/-! Mb1: values as trees, owned variables, the relation between an environment and the machine's slots and heap -/
namespace Mb
open PySem PySem.Spec PyProof.Rows L2

abbrev D := PyData
abbrev Ent := Nat × D
abbrev Ev := List (Option Ent)

structure Exn where
  cls : Str
  fs : List (Str × D)

inductive Res (α : Type) where
  | ok (a : α)
  | exc (x : Exn) (e : Ev)
  | bad
def Res.bind {α β : Type} (r : Res α) (f : α → Res β) : Res β := match r with
  | .ok a => f a
  | .exc x e => .exc x e
  | .bad => .bad

def kD : Key → D
  | .inl i => .int i
  | .inr x => .str x

/-- the dict at a: its keys as data, its values -/
def DictAt (H : Hp) (a : Addr) (ks : List D) (vs : List V) : Prop :=
  (∃ kvs : List (Key × V), Rd H a (.dK kvs) ∧ kvs.map (fun p => kD p.1) = ks ∧ kvs.map (·.2) = vs)
  ∨ (∃ kvs : List (List Key × V), Rd H a (.dT kvs) ∧ kvs.map (fun p => PyData.tuple (p.1.map kD)) = ks ∧ kvs.map (·.2) = vs)

mutual
inductive Rz (K : PySem.W.Frag) (G : Hp) : V → D → Prop
  | non : Rz K G .non .none
  | bl (b : Bool) : Rz K G (.bl b) (.bool b)
  | int (i : Int) : Rz K G (.int i) (.int i)
  | str (x : Str) : Rz K G (.str x) (.str x)
  | lst {a : Addr} {xs : List V} {ds : List D} : Rd G a (.lst xs) → RzAll K G xs ds → Rz K G (.ref a) (.list ds)
  | tup {a : Addr} {xs : List V} {ds : List D} : SqT K G a xs → RzAll K G xs ds → Rz K G (.ref a) (.tuple ds)
  | dct {a : Addr} {ks : List D} {vs : List V} {ds : List D} {kvs : List (D × D)} : DictAt G a ks vs → RzAll K G vs ds → ks.length = ds.length → kvs = ks.zip ds → Rz K G (.ref a) (.dict kvs)
inductive RzAll (K : PySem.W.Frag) (G : Hp) : List V → List D → Prop
  | nil : RzAll K G [] []
  | cons {v : V} {vs : List V} {d : D} {ds : List D} : Rz K G v d → RzAll K G vs ds → RzAll K G (v :: vs) (d :: ds)
end

theorem same_rd {H H' : Hp} (e : Same H H') {a : Addr} {u : HO} (h : Rd H a u) : Rd H' a u := by
  rcases h with h | ⟨o, h⟩
  · exact .inl (e _ _ h)
  · exact .inr ⟨o, e _ _ h⟩
theorem same_sqt {K : PySem.W.Frag} {H H' : Hp} (e : Same H H') {a : Addr} {xs : List V} (h : SqT K H a xs) : SqT K H' a xs := by
  rcases h with h | h
  · exact .inl (same_rd e h)
  · exact .inr h
theorem same_dict {H H' : Hp} (e : Same H H') {a : Addr} {ks : List D} {vs : List V} (h : DictAt H a ks vs) : DictAt H' a ks vs := by
  rcases h with ⟨kvs, h, q⟩ | ⟨kvs, h, q⟩
  · exact .inl ⟨kvs, same_rd e h, q⟩
  · exact .inr ⟨kvs, same_rd e h, q⟩
mutual
theorem Rz.same {K : PySem.W.Frag} {H H' : Hp} (e : Same H H') : ∀ {v : V} {d : D}, Rz K H v d → Rz K H' v d
  | _, _, .non => .non
  | _, _, .bl b => .bl b
  | _, _, .int i => .int i
  | _, _, .str x => .str x
  | _, _, .lst h r => .lst (same_rd e h) (RzAll.same e r)
  | _, _, .tup h r => .tup (same_sqt e h) (RzAll.same e r)
  | _, _, .dct h r l q => .dct (same_dict e h) (RzAll.same e r) l q
theorem RzAll.same {K : PySem.W.Frag} {H H' : Hp} (e : Same H H') : ∀ {v : List V} {d : List D}, RzAll K H v d → RzAll K H' v d
  | _, _, .nil => .nil
  | _, _, .cons h r => .cons (Rz.same e h) (RzAll.same e r)
end
theorem RzAll.length {K : PySem.W.Frag} {G : Hp} : ∀ {vs : List V} {ds : List D}, RzAll K G vs ds → vs.length = ds.length
  | _, _, .nil => rfl
  | _, _, .cons _ r => by simp [RzAll.length r]
theorem RzAll.get {K : PySem.W.Frag} {G : Hp} : ∀ {vs : List V} {ds : List D} {i : Nat} {d : D}, RzAll K G vs ds → ds[i]? = some d → ∃ v, vs[i]? = some v ∧ Rz K G v d
  | _, _, _, _, .nil, h => by simp at h
  | _, _, 0, _, .cons r _, h => by simp at h; subst h; exact ⟨_, rfl, r⟩
  | _, _, i + 1, _, .cons _ t, h => by
    obtain ⟨v, h1, h2⟩ := RzAll.get (i := i) t (by simpa using h)
    exact ⟨v, by simpa using h1, h2⟩
theorem RzAll.get' {K : PySem.W.Frag} {G : Hp} : ∀ {vs : List V} {ds : List D} {i : Nat} {v : V}, RzAll K G vs ds → vs[i]? = some v → ∃ d, ds[i]? = some d ∧ Rz K G v d
  | _, _, _, _, .nil, h => by simp at h
  | _, _, 0, _, .cons r _, h => by simp at h; subst h; exact ⟨_, rfl, r⟩
  | _, _, i + 1, _, .cons _ t, h => by
    obtain ⟨v, h1, h2⟩ := RzAll.get' (i := i) t (by simpa using h)
    exact ⟨v, by simpa using h1, h2⟩
theorem RzAll.append {K : PySem.W.Frag} {G : Hp} : ∀ {vs ws : List V} {ds es : List D}, RzAll K G vs ds → RzAll K G ws es → RzAll K G (vs ++ ws) (ds ++ es)
  | _, _, _, _, .nil, s => s
  | _, _, _, _, .cons r t, s => .cons r (RzAll.append t s)
theorem RzAll.take {K : PySem.W.Frag} {G : Hp} : ∀ {vs : List V} {ds : List D} (n : Nat), RzAll K G vs ds → RzAll K G (vs.take n) (ds.take n)
  | _, _, 0, _ => .nil
  | _, _, _ + 1, .nil => .nil
  | _, _, n + 1, .cons r t => .cons r (RzAll.take n t)
theorem RzAll.drop {K : PySem.W.Frag} {G : Hp} : ∀ {vs : List V} {ds : List D} (n : Nat), RzAll K G vs ds → RzAll K G (vs.drop n) (ds.drop n)
  | _, _, 0, r => r
  | _, _, _ + 1, .nil => .nil
  | _, _, n + 1, .cons _ t => RzAll.drop n t

/-! ### plain data: the library's own relation -/
mutual
theorem Rz.dp {K : PySem.W.Frag} {G : Hp} : ∀ {v : V} {d : D}, Rz K G v d → d.plain = true → Dp K G v d
  | _, _, .non, _ => .non
  | _, _, .bl b, _ => .bl b
  | _, _, .int i, _ => .int i
  | _, _, .str x, _ => .str x
  | _, _, .lst h r, p => .lst (.inl h) (RzAll.dp r (by simpa [PyData.plain] using p))
  | _, _, .tup h r, p => .tup h (RzAll.dp r (by simpa [PyData.plain] using p))
  | _, _, .dct _ _ _ _, p => by simp [PyData.plain] at p
theorem RzAll.dp {K : PySem.W.Frag} {G : Hp} : ∀ {v : List V} {d : List D}, RzAll K G v d → PyData.plainAll d = true → DpAll K G v d
  | _, _, .nil, _ => .nil
  | _, _, .cons h r, p => by
    simp only [PyData.plainAll, Bool.and_eq_true] at p
    exact .cons (Rz.dp h p.1) (RzAll.dp r p.2)
end

/-! ### owned values -/
inductive All3 (R : V → D → List Addr → Prop) : List V → List D → List Addr → Prop
  | nil : All3 R [] [] []
  | cons {v : V} {vs : List V} {d : D} {ds : List D} {f fs : List Addr} : R v d f → All3 R vs ds fs → All3 R (v :: vs) (d :: ds) (f ++ fs)
def Ow (K : PySem.W.Frag) (G H : Hp) : Nat → V → D → List Addr → Prop
  | 0, v, d, fp => fp = [] ∧ Rz K G v d
  | n + 1, v, d, fp => ∃ (a : Addr) (fp' : List Addr), v = .ref a ∧ fp = a :: fp' ∧
      ((∃ (vs : List V) (ds : List D), d = .list ds ∧ H a = some (.lst vs) ∧ All3 (Ow K G H n) vs ds fp') ∨
       (∃ (ks : List D) (vs : List V) (ds : List D), d = .dict (ks.zip ds) ∧ ks.length = ds.length ∧ DictAt H a ks vs ∧ (∀ o u, H a ≠ some (.frz o u)) ∧ All3 (Ow K G H n) vs ds fp'))
theorem All3.mono {R R' : V → D → List Addr → Prop} : ∀ {vs : List V} {ds : List D} {fp : List Addr}, All3 R vs ds fp → (∀ v d f, (∀ a ∈ f, a ∈ fp) → R v d f → R' v d f) → All3 R' vs ds fp
  | _, _, _, .nil, _ => .nil
  | _, _, _, .cons r t, h => .cons (h _ _ _ (fun a ha => List.mem_append_left _ ha) r) (All3.mono t fun v d f hf x => h v d f (fun a ha => List.mem_append_right _ (hf a ha)) x)
/-- the owned objects stand as they stood, the ground has grown -/
theorem Ow.keep {K : PySem.W.Frag} {G G' H H' : Hp} (g : Same G G') : ∀ {n : Nat} {v : V} {d : D} {fp : List Addr}, (∀ a ∈ fp, H' a = H a) → Ow K G H n v d fp → Ow K G' H' n v d fp
  | 0, _, _, _, _, ⟨e, r⟩ => ⟨e, r.same g⟩
  | n + 1, _, _, _, k, ⟨a, fp', e1, e2, h⟩ => by
    subst e2
    have ka : H' a = H a := k a List.mem_cons_self
    have rest : ∀ {vs : List V} {ds : List D}, All3 (Ow K G H n) vs ds fp' → All3 (Ow K G' H' n) vs ds fp' := fun {vs ds} x =>
      x.mono fun v d f hf r => Ow.keep g (fun b hb => k b (List.mem_cons_of_mem _ (hf b hb))) r
    refine ⟨a, fp', e1, rfl, ?_⟩
    rcases h with ⟨vs, ds, ed, eh, r⟩ | ⟨ks, vs, ds, ed, el, eh, ef, r⟩
    · exact .inl ⟨vs, ds, ed, ka.trans eh, rest r⟩
    · refine .inr ⟨ks, vs, ds, ed, el, ?_, fun o u q => ef o u (ka.symm.trans q), rest r⟩
      rcases eh with ⟨kvs, h, q⟩ | ⟨kvs, h, q⟩
      · refine .inl ⟨kvs, ?_, q⟩
        rcases h with h | ⟨o, h⟩
        · exact .inl (ka.trans h)
        · exact absurd h (ef o _)
      · refine .inr ⟨kvs, ?_, q⟩
        rcases h with h | ⟨o, h⟩
        · exact .inl (ka.trans h)
        · exact absurd h (ef o _)
/-- read as data in any heap that bears both the ground and the owned objects -/
theorem Ow.rz {K : PySem.W.Frag} {G H J : Hp} (g : Same G J) : ∀ {n : Nat} {v : V} {d : D} {fp : List Addr}, (∀ a ∈ fp, J a = H a) → Ow K G H n v d fp → Rz K J v d
  | 0, _, _, _, _, ⟨_, r⟩ => r.same g
  | n + 1, _, _, _, k, ⟨a, fp', e1, e2, h⟩ => by
    subst e2
    have ka : J a = H a := k a List.mem_cons_self
    have rest : ∀ {vs : List V} {ds : List D} {fp'' : List Addr}, (∀ b ∈ fp'', J b = H b) → All3 (Ow K G H n) vs ds fp'' → RzAll K J vs ds := fun {vs ds fp''} hk x => by
      induction x with
      | nil => exact .nil
      | cons r t ih => exact .cons (Ow.rz g (fun b hb => hk b (List.mem_append_left _ hb)) r) (ih fun b hb => hk b (List.mem_append_right _ hb))
    subst e1
    rcases h with ⟨vs, ds, ed, eh, r⟩ | ⟨ks, vs, ds, ed, el, eh, ef, r⟩
    · subst ed
      exact .lst (.inl (ka.trans eh)) (rest (fun b hb => k b (List.mem_cons_of_mem _ hb)) r)
    · subst ed
      refine .dct (ks := ks) (vs := vs) (ds := ds) ?_ (rest (fun b hb => k b (List.mem_cons_of_mem _ hb)) r) el rfl
      rcases eh with ⟨kvs, h, q⟩ | ⟨kvs, h, q⟩
      · refine .inl ⟨kvs, ?_, q⟩
        rcases h with h | ⟨o, h⟩
        · exact .inl (ka.trans h)
        · exact absurd h (ef o _)
      · refine .inr ⟨kvs, ?_, q⟩
        rcases h with h | ⟨o, h⟩
        · exact .inl (ka.trans h)
        · exact absurd h (ef o _)
end Mb
end

section
set_option Elab.async false
set_option linter.all false
set_option maxRecDepth 100000
set_option maxHeartbeats 1000000
/-! Mb2: the relation of environment and machine, transitions, readings of pure functions -/
namespace Mb
open PySem PySem.Spec PyProof.Rows L2

abbrev Fps := Nat → List Addr
def Wf (fps : Fps) (fp : List Addr) : Addr → Prop := fun a => a ∈ fp ∨ ∃ i, a ∈ fps i

structure Rel (K : PySem.W.Frag) (ε : Ev) (σ : L2.St) (G H : Hp) (fps : Fps) (fp : List Addr) : Prop where
  len : σ.length = ε.length
  sub : Same G H
  off : ∀ a, Wf fps fp a → G a = none ∧ H a ≠ none
  nd : ∀ i, (fps i).Nodup
  dis : ∀ i j a, a ∈ fps i → a ∈ fps j → i = j
  tnd : fp.Nodup
  tdis : ∀ i a, a ∈ fp → a ∉ fps i
  at' : ∀ i e, ε[i]? = some (some e) → ∃ v, σ[i]? = some (some v) ∧ Ow K G H e.1 v e.2 (fps i)

structure Tr (G H : Hp) (W : Addr → Prop) (G' H' : Hp) (W' : Addr → Prop) : Prop where
  keep : ∀ a o, H a = some o → ¬ W a → H' a = some o
  there : ∀ a, H a ≠ none → H' a ≠ none
  grow : Same G G'
  new : ∀ a, G' a ≠ none → G a ≠ none ∨ H a = none ∨ W a
  wnew : ∀ a, W' a → W a ∨ H a = none

theorem Tr.refl {G H : Hp} {W : Addr → Prop} : Tr G H W G H W := ⟨fun _ _ h _ => h, fun _ h => h, Same.refl G, fun _ h => .inl h, fun _ h => .inl h⟩
theorem Tr.trans {G H G1 H1 G2 H2 : Hp} {W W1 W2 : Addr → Prop} (a : Tr G H W G1 H1 W1) (b : Tr G1 H1 W1 G2 H2 W2) : Tr G H W G2 H2 W2 where
  keep := fun x o h n => b.keep x o (a.keep x o h n) fun w => (a.wnew x w).elim n fun e => by rw [h] at e; cases e
  there := fun x h => b.there x (a.there x h)
  grow := a.grow.trans b.grow
  new := fun x h => by
    have back : H1 x = none → H x = none := fun e => Classical.byContradiction fun n => a.there x n e
    rcases b.new x h with h | h | h
    · exact a.new x h
    · exact .inr (.inl (back h))
    · rcases a.wnew x h with h | h
      · exact .inr (.inr h)
      · exact .inr (.inl h)
  wnew := fun x h => by
    have back : H1 x = none → H x = none := fun e => Classical.byContradiction fun n => a.there x n e
    rcases b.wnew x h with h | h
    · exact a.wnew x h
    · exact .inr (back h)

/-! ### freezing what is owned -/
def frz (G H : Hp) (fp : List Addr) : Hp := fun a => if a ∈ fp then H a else G a
theorem frz_in {G H : Hp} {fp : List Addr} {a : Addr} (h : a ∈ fp) : frz G H fp a = H a := by unfold frz; rw [if_pos h]
theorem frz_out {G H : Hp} {fp : List Addr} {a : Addr} (h : a ∉ fp) : frz G H fp a = G a := by unfold frz; rw [if_neg h]
theorem frz_same {G H : Hp} {fp : List Addr} (h : ∀ a ∈ fp, G a = none) : Same G (frz G H fp) := fun a o e => by
  have n : a ∉ fp := fun q => by rw [h a q] at e; cases e
  rw [frz_out n]; exact e
theorem frz_sub {G H : Hp} {fp : List Addr} (s : Same G H) : Same (frz G H fp) H := fun a o e => by
  by_cases h : a ∈ fp
  · rw [frz_in h] at e; exact e
  · rw [frz_out h] at e; exact s a o e

def setF (fps : Fps) (i : Nat) (fp : List Addr) : Fps := fun j => if j = i then fp else fps j
theorem setF_same {fps : Fps} {i : Nat} {fp : List Addr} : setF fps i fp i = fp := by unfold setF; rw [if_pos rfl]
theorem setF_ne {fps : Fps} {i j : Nat} {fp : List Addr} (h : j ≠ i) : setF fps i fp j = fps j := by unfold setF; rw [if_neg h]

section
variable {K : PySem.W.Frag} {ε : Ev} {σ : L2.St} {G H : Hp} {fps : Fps} {fp : List Addr}
/-- the result is frozen -/
theorem Rel.freeze (r : Rel K ε σ G H fps fp) : Rel K ε σ (frz G H fp) H fps [] where
  len := r.len
  sub := frz_sub r.sub
  off := fun a w => by
    rcases w with w | ⟨i, w⟩
    · cases w
    · have n : a ∉ fp := fun q => r.tdis i a q w
      rw [frz_out n]
      exact r.off a (.inr ⟨i, w⟩)
  nd := r.nd
  dis := r.dis
  tnd := .nil
  tdis := fun _ _ h => nomatch h
  at' := fun i e he => by
    obtain ⟨v, h1, h2⟩ := r.at' i e he
    exact ⟨v, h1, h2.keep (frz_same fun a q => (r.off a (.inl q)).1) fun _ _ => rfl⟩
theorem Tr.freeze {G0 H0 : Hp} {W0 : Addr → Prop} (t : Tr G0 H0 W0 G H (Wf fps fp)) (r : Rel K ε σ G H fps fp) : Tr G0 H0 W0 (frz G H fp) H (Wf fps []) where
  keep := t.keep
  there := t.there
  grow := t.grow.trans (frz_same fun a q => (r.off a (.inl q)).1)
  new := fun a h => by
    by_cases q : a ∈ fp
    · rcases t.wnew a (.inl q) with z | z
      · exact .inr (.inr z)
      · exact .inr (.inl z)
    · rw [frz_out q] at h
      exact t.new a h
  wnew := fun a h => t.wnew a (h.elim (fun z => nomatch z) Or.inr)
theorem Ow.freeze {n : Nat} {v : V} {d : D} (r : Rel K ε σ G H fps fp) (o : Ow K G H n v d fp) : Rz K (frz G H fp) v d :=
  o.rz (frz_same fun a q => (r.off a (.inl q)).1) fun a q => frz_in q

/-- the i-th variable's own is frozen -/
theorem Rel.freezeVar {i : Nat} {n : Nat} {d : D} (r : Rel K ε σ G H fps []) (h : ε[i]? = some (some (n, d))) :
    Rel K (ε.set i (some (0, d))) σ (frz G H (fps i)) H (setF fps i []) [] ∧ Tr G H (Wf fps []) (frz G H (fps i)) H (Wf (setF fps i []) []) ∧ ∃ v, σ[i]? = some (some v) ∧ Rz K (frz G H (fps i)) v d := by
  have og : ∀ a ∈ fps i, G a = none := fun a q => (r.off a (.inr ⟨i, q⟩)).1
  have gs := frz_same (H := H) og
  obtain ⟨v, h1, h2⟩ := r.at' i _ h
  have hz : Rz K (frz G H (fps i)) v d := h2.rz gs fun a q => frz_in q
  have hi : i < ε.length := by
    by_cases hi : i < ε.length
    · exact hi
    · rw [List.getElem?_eq_none (by omega)] at h; cases h
  refine ⟨⟨by rw [List.length_set]; exact r.len, frz_sub r.sub, fun a w => ?_, fun j => ?_, fun j k a h1 h2 => ?_, .nil, (fun _ _ h => nomatch h), fun j e he => ?_⟩, ⟨fun _ _ h _ => h, fun _ h => h, gs, fun a h => ?_, fun a h => ?_⟩, v, h1, hz⟩
  · rcases w with w | ⟨j, w⟩
    · cases w
    · by_cases e : j = i
      · subst e; rw [setF_same] at w; cases w
      · rw [setF_ne e] at w
        have n : a ∉ fps i := fun q => e (r.dis j i a w q)
        rw [frz_out n]
        exact r.off a (.inr ⟨j, w⟩)
  · by_cases e : j = i
    · subst e; rw [setF_same]; exact .nil
    · rw [setF_ne e]; exact r.nd j
  · by_cases e : j = i
    · subst e; rw [setF_same] at h1; cases h1
    · rw [setF_ne e] at h1
      by_cases e' : k = i
      · subst e'; rw [setF_same] at h2; cases h2
      · rw [setF_ne e'] at h2; exact r.dis j k a h1 h2
  · by_cases e' : j = i
    · subst e'
      rw [List.getElem?_set_self hi] at he
      cases he
      rw [setF_same]
      exact ⟨v, h1, rfl, hz⟩
    · rw [List.getElem?_set_ne (Ne.symm e')] at he
      obtain ⟨u, q1, q2⟩ := r.at' j e he
      rw [setF_ne e']
      exact ⟨u, q1, q2.keep gs fun _ _ => rfl⟩
  · by_cases q : a ∈ fps i
    · exact .inr (.inr (.inr ⟨i, q⟩))
    · rw [frz_out q] at h; exact .inl h
  · rcases h with h | ⟨j, h⟩
    · cases h
    · by_cases e : j = i
      · subst e; rw [setF_same] at h; cases h
      · rw [setF_ne e] at h; exact .inl (.inr ⟨j, h⟩)
end

/-! ### what is borrowed -/
def Bo (K : PySem.W.Frag) (G H : Hp) : Nat → V → D → Prop
  | 0, v, d => Rz K G v d
  | n + 1, v, d => ∃ a : Addr, v = .ref a ∧
      ((∃ (vs : List V) (ds : List D), d = .list ds ∧ Rd H a (.lst vs) ∧ PySem.Paired (Bo K G H n) vs ds) ∨
       (∃ (ks : List D) (vs : List V) (ds : List D), d = .dict (ks.zip ds) ∧ ks.length = ds.length ∧ DictAt H a ks vs ∧ PySem.Paired (Bo K G H n) vs ds))
end Mb
end

section
set_option Elab.async false
set_option linter.all false
set_option maxRecDepth 100000
set_option maxHeartbeats 1000000
/-! Mb3: readings -/
namespace Mb
open PySem PySem.Spec PyProof.Rows L2

abbrev BoAll (K : PySem.W.Frag) (G H : Hp) (vs : List V) (as : List Ent) : Prop := PySem.Paired (fun v (a : Ent) => Bo K G H a.1 v a.2) vs as

theorem dictAt_same {H H' : Hp} (s : Same H H') {a : Addr} {ks : List D} {vs : List V} (h : DictAt H a ks vs) : DictAt H' a ks vs := same_dict s h
mutual
theorem Bo.same {K : PySem.W.Frag} {G G' H H' : Hp} (g : Same G G') : ∀ {n : Nat} {v : V} {d : D}, (n = 0 ∨ Same H H') → Bo K G H n v d → Bo K G' H' n v d
  | 0, _, _, _, h => Rz.same g h
  | n + 1, _, _, s, ⟨a, e, h⟩ => by
    have s' : Same H H' := s.resolve_left (Nat.succ_ne_zero n)
    have all : ∀ {vs : List V} {ds : List D}, PySem.Paired (Bo K G H n) vs ds → PySem.Paired (Bo K G' H' n) vs ds := fun x => Paired.mapP x fun _ _ => Bo.same g (.inr s')
    refine ⟨a, e, ?_⟩
    rcases h with ⟨vs, ds, ed, eh, r⟩ | ⟨ks, vs, ds, ed, el, eh, r⟩
    · exact .inl ⟨vs, ds, ed, same_rd s' eh, all r⟩
    · exact .inr ⟨ks, vs, ds, ed, el, dictAt_same s' eh, all r⟩
end
theorem rzAll_of {K : PySem.W.Frag} {G : Hp} : ∀ {vs : List V} {ds : List D}, PySem.Paired (fun v d => Rz K G v d) vs ds → RzAll K G vs ds
  | _, _, .nil => .nil
  | _, _, .cons r t => .cons r (rzAll_of t)
theorem of_rzAll {K : PySem.W.Frag} {G : Hp} : ∀ {vs : List V} {ds : List D}, RzAll K G vs ds → PySem.Paired (fun v d => Rz K G v d) vs ds
  | _, _, .nil => .nil
  | _, _, .cons r t => .cons r (of_rzAll t)
theorem Bo.rz {K : PySem.W.Frag} {G H : Hp} (g : Same G H) : ∀ {n : Nat} {v : V} {d : D}, Bo K G H n v d → Rz K H v d
  | 0, _, _, h => Rz.same g h
  | n + 1, _, _, ⟨a, e, h⟩ => by
    have all : ∀ {vs : List V} {ds : List D}, PySem.Paired (Bo K G H n) vs ds → RzAll K H vs ds := fun x => rzAll_of (Paired.mapP x fun _ _ => Bo.rz g)
    subst e
    rcases h with ⟨vs, ds, ed, eh, r⟩ | ⟨ks, vs, ds, ed, el, eh, r⟩
    · subst ed
      exact .lst eh (all r)
    · subst ed
      exact .dct eh (all r) el rfl
theorem all3_pair {R : V → D → List Addr → Prop} {R' : V → D → Prop} (h : ∀ v d f, R v d f → R' v d) : ∀ {vs : List V} {ds : List D} {fp : List Addr}, All3 R vs ds fp → PySem.Paired R' vs ds
  | _, _, _, .nil => .nil
  | _, _, _, .cons r t => .cons (h _ _ _ r) (all3_pair h t)
theorem Ow.bo {K : PySem.W.Frag} {G H : Hp} : ∀ {n : Nat} {v : V} {d : D} {fp : List Addr}, Ow K G H n v d fp → Bo K G H n v d
  | 0, _, _, _, ⟨_, r⟩ => r
  | n + 1, _, _, _, ⟨a, fp', e1, _, h⟩ => by
    refine ⟨a, e1, ?_⟩
    rcases h with ⟨vs, ds, ed, eh, r⟩ | ⟨ks, vs, ds, ed, el, eh, _, r⟩
    · exact .inl ⟨vs, ds, ed, .inl eh, all3_pair (R' := Bo K G H n) (fun _ _ _ q => Ow.bo q) r⟩
    · exact .inr ⟨ks, vs, ds, ed, el, eh, all3_pair (R' := Bo K G H n) (fun _ _ _ q => Ow.bo q) r⟩

/-! ### exceptions -/
structure Pm where
  K : PySem.W.Frag
  mg : Str → Option Value
def ExcAt (p : Pm) (x : Exn) (cls : Value) (d : Option Addr) (H : Hp) : Prop :=
  ∃ C : Addr, p.mg x.cls = some (.ref C) ∧ cls = .ref C ∧
    ((x.fs = [] ∧ d = none) ∨ ∃ (dx : Addr) (fs : List (Str × V)), d = some dx ∧ H dx = some (.xd fs) ∧ PySem.Paired (fun (a : Str × V) (b : Str × D) => a.1 = b.1 ∧ Rz p.K (fun _ => none) a.2 b.2) fs x.fs)

/-! ### readings -/
section
variable (p : Pm) (Wx : WX) (m : Bool)
def After {α β : Type} (σ : L2.St) (G H : Hp) (fps : Fps) (rel : α → β → Hp → Hp → List Addr → Prop) (r : Res (β × Ev)) (Q : α → Hp → Prop) : Prop := match r with
  | .ok (e, ε') => ∀ (v : α) (G' H' : Hp) (fps' : Fps) (fp : List Addr), Rel p.K ε' σ G' H' fps' fp → rel v e G' H' fp → Tr G H (Wf fps []) G' H' (Wf fps' fp) → (m = false → Same H H') → Q v H'
  | .exc x ε' => ∀ (cls : Value) (d : Option Addr) (G' H' : Hp) (fps' : Fps), Rel p.K ε' σ G' H' fps' [] → Tr G H (Wf fps []) G' H' (Wf fps' []) → ExcAt p x cls d H' → Wx cls d σ H'
  | .bad => False
def relE : V → Ent → Hp → Hp → List Addr → Prop := fun v e G H fp => Ow p.K G H e.1 v e.2 fp
def relB : V → Ent → Hp → Hp → List Addr → Prop := fun v e G H fp => fp = [] ∧ Bo p.K G H e.1 v e.2
def relA : List V → List Ent → Hp → Hp → List Addr → Prop := fun vs es G H fp => fp = [] ∧ BoAll p.K G H vs es
def relT : Bool → Bool → Hp → Hp → List Addr → Prop := fun b c G H fp => fp = [] ∧ b = c
def tR {α β : Type} (rel : α → β → Hp → Hp → List Addr → Prop) (f : Ev → Res (β × Ev)) : L2.St → Hp → (α → Hp → Prop) → Prop := fun σ H Q =>
  ∃ (ε : Ev) (G : Hp) (fps : Fps), Rel p.K ε σ G H fps [] ∧ After p Wx m σ G H fps rel (f ε) Q
abbrev tE (f : Ev → Res (Ent × Ev)) : TE := tR p Wx m (relE p) f
abbrev tB (f : Ev → Res (Ent × Ev)) : TE := tR p Wx m (relB p) f
abbrev tA (f : Ev → Res (List Ent × Ev)) : TA := tR p Wx m (relA p) f
abbrev tT (f : Ev → Res (Bool × Ev)) : TT := tR p Wx m (relT) f
end

theorem PE.imp {X : Cx} {e : Expr} {t t' : TE} (h : PE X e t) (i : ∀ σ H Q, t' σ H Q → t σ H Q) : PE X e t' := ⟨fun pins s σ H Q I q => h.run pins s σ H Q I (i σ H Q q)⟩
theorem PT.imp {X : Cx} {e : Expr} {t t' : TT} (h : PT X e t) (i : ∀ σ H Q, t' σ H Q → t σ H Q) : PT X e t' := ⟨fun pins s σ H Q I q => h.run pins s σ H Q I (i σ H Q q)⟩
theorem PA.imp {X : Cx} {e : List Expr} {t t' : TA} (h : PA X e t) (i : ∀ σ H Q, t' σ H Q → t σ H Q) : PA X e t' := ⟨fun pos pins s σ H Q I q => h.run pos pins s σ H Q I (i σ H Q q)⟩

section
variable {p : Pm} {Wx : WX} {m m1 m2 : Bool} {α β α' β' : Type} {rel : α → β → Hp → Hp → List Addr → Prop} {rel' : α' → β' → Hp → Hp → List Addr → Prop}

/-- one behind the other: what comes of the first is a value (or borrowed), the second goes on -/
theorem tR.bind {σ : L2.St} {H : Hp} {f : Ev → Res (β × Ev)} {g : β → Ev → Res (β' × Ev)} {Q : α' → Hp → Prop} {R : α → Hp → Prop}
    (hfp : ∀ v e G H fp, rel v e G H fp → fp = [])
    (h : tR p Wx (m1 || m2) rel' (fun ε => (f ε).bind fun q => g q.1 q.2) σ H Q)
    (k : ∀ (b : β) (v : α) (ε1 : Ev) (G G1 H1 : Hp) (fps fps1 : Fps), Rel p.K ε1 σ G1 H1 fps1 [] → rel v b G1 H1 [] → Tr G H (Wf fps []) G1 H1 (Wf fps1 []) → (m1 = false → Same H H1) →
      After p Wx (m1 || m2) σ G H fps rel' (g b ε1) Q → R v H1) : tR p Wx m1 rel f σ H R := by
  obtain ⟨ε, G, fps, r, a⟩ := h
  dsimp only at a
  refine ⟨ε, G, fps, r, ?_⟩
  cases e : f ε with
  | ok q =>
    obtain ⟨b, ε1⟩ := q
    rw [e] at a
    intro v G1 H1 fps1 fp r1 rl t s
    have := hfp _ _ _ _ _ rl
    subst this
    exact k b v ε1 G G1 H1 fps fps1 r1 rl t s a
  | exc x ε1 =>
    rw [e] at a
    exact a
  | bad =>
    rw [e] at a
    exact a
/-- the second's own reading, from where the first came to -/
theorem After.next {σ : L2.St} {G H G1 H1 : Hp} {fps fps1 : Fps} {g : Ev → Res (β' × Ev)} {ε1 : Ev} {Q : α' → Hp → Prop} (r1 : Rel p.K ε1 σ G1 H1 fps1 []) (t : Tr G H (Wf fps []) G1 H1 (Wf fps1 [])) (s : m1 = false → Same H H1)
    (a : After p Wx (m1 || m2) σ G H fps rel' (g ε1) Q) : tR p Wx m2 rel' g σ H1 Q := by
  refine ⟨ε1, G1, fps1, r1, ?_⟩
  cases e : g ε1 with
  | ok q =>
    obtain ⟨b, ε2⟩ := q
    rw [e] at a
    intro v G2 H2 fps2 fp r2 rl t2 s2
    refine a v G2 H2 fps2 fp r2 rl (t.trans t2) fun z => ?_
    simp only [Bool.or_eq_false_iff] at z
    exact (s z.1).trans (s2 z.2)
  | exc x ε2 =>
    rw [e] at a
    intro cls d G2 H2 fps2 r2 t2 x2
    exact a cls d G2 H2 fps2 r2 (t.trans t2) x2
  | bad =>
    rw [e] at a
    exact a
end
end Mb
end

section
set_option Elab.async false
set_option linter.all false
set_option maxRecDepth 100000
set_option maxHeartbeats 1000000
/-! Mb4: names, arguments, operations on data -/
namespace Mb
open PySem PySem.Spec PyProof.Rows L2

def LIM : Nat := 16777216
theorem lim_line : LIM = sizeLine := by rw [sizeLine_eq]; rfl

/-- what an operation leaves: new objects alone -/
def PRes (K : PySem.W.Frag) (G H : Hp) (e : Ent) (v : V) (H' : Hp) : Prop :=
  ∃ (G' : Hp) (fp : List Addr), Same H H' ∧ Same G G' ∧ Same G' H' ∧ (∀ a, G' a ≠ none → G a ≠ none ∨ H a = none) ∧ fp.Nodup ∧ (∀ a ∈ fp, H a = none ∧ G' a = none ∧ H' a ≠ none) ∧ Ow K G' H' e.1 v e.2 fp
theorem PRes.here {K : PySem.W.Frag} {G H : Hp} (g : Same G H) {v : V} {d : D} (h : Rz K G v d) : PRes K G H (0, d) v H :=
  ⟨G, [], Same.refl H, Same.refl G, g, fun _ h => .inl h, .nil, (fun _ h => nomatch h), rfl, h⟩
theorem sUpd {H : Hp} {a : Addr} {o : HO} (h : H a = none) : Same H (upd H a o) := fun b u e => by
  rw [upd_ne (ne_of_none e h)]; exact e
theorem free_sub {G H : Hp} (g : Same G H) {a : Addr} (h : H a = none) : G a = none := by
  cases e : G a with
  | none => rfl
  | some o => rw [g a o e] at h; cases h
theorem sBoth {G H : Hp} (g : Same G H) {a : Addr} {o : HO} : Same (upd G a o) (upd H a o) := fun b u e => by
  by_cases q : b = a
  · subst q; rw [upd_same] at e ⊢; exact e
  · rw [upd_ne q] at e ⊢; exact g b u e
theorem all3_zero {K : PySem.W.Frag} {G H : Hp} : ∀ {vs : List V} {ds : List D}, RzAll K G vs ds → All3 (Ow K G H 0) vs ds []
  | _, _, .nil => .nil
  | _, _, .cons r t => .cons (f := []) (fs := []) ⟨rfl, r⟩ (all3_zero t)
/-- a new list of values of the ground -/
theorem PRes.lst {K : PySem.W.Frag} {G H : Hp} (g : Same G H) {a : Addr} (h : H a = none) {vs : List V} {ds : List D} (r : RzAll K G vs ds) : PRes K G H (1, .list ds) (.ref a) (upd H a (.lst vs)) := by
  refine ⟨G, [a], sUpd h, Same.refl G, g.trans (sUpd h), fun _ h => .inl h, by simp, fun b hb => ?_, a, [], rfl, rfl, .inl ⟨vs, ds, rfl, upd_same, ?_⟩⟩
  · have e : b = a := by simpa using hb
    subst e
    exact ⟨h, free_sub g h, by rw [upd_same]; exact fun z => nomatch z⟩
  · exact all3_zero r
/-- a new tuple -/
theorem PRes.tup {K : PySem.W.Frag} {G H : Hp} (g : Same G H) {a : Addr} (h : H a = none) {vs : List V} {ds : List D} (r : RzAll K G vs ds) : PRes K G H (0, .tuple ds) (.ref a) (upd H a (.tup vs)) := by
  refine ⟨upd G a (.tup vs), [], sUpd h, sUpd (free_sub g h), sBoth g, fun b hb => ?_, .nil, (fun _ h => nomatch h), rfl, ?_⟩
  · by_cases q : b = a
    · subst q; exact .inr h
    · rw [upd_ne q] at hb; exact .inl hb
  · exact .tup (SqT.of upd_same) (r.same (sUpd (free_sub g h)))

section
variable {p : Pm} {Wx : WX} {m m1 m2 : Bool} {σ : L2.St} {G H : Hp} {fps : Fps} {ε : Ev}
theorem PRes.rel (r : Rel p.K ε σ G H fps []) {e : Ent} {v : V} {H' : Hp} (q : PRes p.K G H e v H') :
    ∃ (G' : Hp) (fp : List Addr), Rel p.K ε σ G' H' fps fp ∧ Ow p.K G' H' e.1 v e.2 fp ∧ Tr G H (Wf fps []) G' H' (Wf fps fp) ∧ Same H H' := by
  obtain ⟨G', fp, sH, sG, sub, new, nd, fr, ow⟩ := q
  have hH : ∀ a, H a ≠ none → H' a = H a := fun a h => by
    cases e : H a with
    | none => exact absurd e h
    | some o => exact sH a o e
  refine ⟨G', fp, ⟨r.len, sub, fun a w => ?_, r.nd, r.dis, nd, fun i a ha hi => ?_, fun i e he => ?_⟩, ow, ⟨fun a o h _ => sH a o h, fun a h => ?_, sG, fun a h => ?_, fun a w => ?_⟩, sH⟩
  · rcases w with w | ⟨i, w⟩
    · exact ⟨(fr a w).2.1, (fr a w).2.2⟩
    · obtain ⟨g, h⟩ := r.off a (.inr ⟨i, w⟩)
      refine ⟨?_, by rw [hH a h]; exact h⟩
      cases e : G' a with
      | none => rfl
      | some o => rcases new a (by rw [e]; exact fun z => nomatch z) with z | z
                  · exact absurd g z
                  · exact absurd z h
  · exact (r.off a (.inr ⟨i, hi⟩)).2 (fr a ha).1
  · obtain ⟨v, h1, h2⟩ := r.at' i e he
    exact ⟨v, h1, h2.keep sG fun a ha => hH a (r.off a (.inr ⟨i, ha⟩)).2⟩
  · rw [hH a h]; exact h
  · rcases new a h with z | z
    · exact .inl z
    · exact .inr (.inl z)
  · rcases w with w | w
    · exact .inr (fr a w).1
    · exact .inl (.inr w)

/-- an operation on borrowed data -/
def OkL (K : PySem.W.Frag) (r : List V → Hp → VK → Prop) (F : List Ent → Option Ent) : Prop :=
  ∀ (G H : Hp) (vs : List V) (as : List Ent) (e : Ent) (Q : VK), Same G H → BoAll K G H vs as → F as = some e → (∀ v H', PRes K G H e v H' → Q v H') → r vs H Q
def fOp (F : List Ent → Option Ent) (g : Ev → Res (List Ent × Ev)) : Ev → Res (Ent × Ev) := fun ε => (g ε).bind fun q => match F q.1 with
  | some e => .ok (e, q.2)
  | none => .bad
theorem tE_op {r : List V → Hp → VK → Prop} {F : List Ent → Option Ent} (ok : OkL p.K r F) {g : Ev → Res (List Ent × Ev)} {Q : VK} (h : tE p Wx m (fOp F g) σ H Q) : tA p Wx m g σ H fun vs H1 => r vs H1 Q := by
  have h : tR p Wx (m || false) (relE p) (fOp F g) σ H Q := by rw [Bool.or_false]; exact h
  refine tR.bind (m2 := false) (g := fun as ε => match F as with | some e => .ok (e, ε) | none => .bad) (fun _ _ _ _ _ h => h.1) h fun as vs ε1 G G1 H1 fps fps1 r1 rl t s a => ?_
  cases e : F as with
  | none => rw [e] at a; exact a.elim
  | some e' =>
    rw [e] at a
    refine ok G1 H1 vs as e' Q r1.sub rl.2 e fun v H' pr => ?_
    obtain ⟨G', fp, r2, ow, t2, sH⟩ := pr.rel r1
    exact a v G' H' fps1 fp r2 ow (t.trans t2) fun z => (s (by simpa using z)).trans sH

/-! ### arguments -/
def fNil : Ev → Res (List Ent × Ev) := fun ε => .ok ([], ε)
def fCons (m2 : Bool) (f : Ev → Res (Ent × Ev)) (g : Ev → Res (List Ent × Ev)) : Ev → Res (List Ent × Ev) := fun ε => (f ε).bind fun q =>
  if q.1.1 = 0 ∨ m2 = false then (g q.2).bind fun r => .ok (q.1 :: r.1, r.2) else .bad
theorem tA_nil {Q : List V → Hp → Prop} (h : tA p Wx m fNil σ H Q) : Q [] H := by
  obtain ⟨ε, G, fps, r, a⟩ := h
  exact a [] G H fps [] r ⟨rfl, .nil⟩ Tr.refl fun _ => Same.refl H
theorem tA_cons {f : Ev → Res (Ent × Ev)} {g : Ev → Res (List Ent × Ev)} {Q : List V → Hp → Prop} (h : tA p Wx (m1 || m2) (fCons m2 f g) σ H Q) :
    tB p Wx m1 f σ H fun x H1 => tA p Wx m2 g σ H1 fun xs H2 => Q (x :: xs) H2 := by
  refine tR.bind (g := fun a ε => if a.1 = 0 ∨ m2 = false then (g ε).bind fun r => .ok (a :: r.1, r.2) else .bad) (fun _ _ _ _ _ h => h.1) h fun b x ε1 G G1 H1 fps fps1 r1 rl t s a => ?_
  by_cases c : b.1 = 0 ∨ m2 = false
  · rw [if_pos c] at a
    have h2 := After.next (p := p) (rel' := relA p) (g := fun ε => (g ε).bind fun r => .ok (b :: r.1, r.2)) r1 t s a
    have h2 : tR p Wx (m2 || false) (relA p) (fun ε => (g ε).bind fun r => .ok (b :: r.1, r.2)) σ H1 Q := by rw [Bool.or_false]; exact h2
    -- the rest
    obtain ⟨ε', G', fps', r', a'⟩ := h2
    refine ⟨ε1, G1, fps1, r1, ?_⟩
    clear a' r' fps' G' ε'
    cases e : g ε1 with
    | ok q =>
      obtain ⟨as, ε2⟩ := q
      rw [e] at a
      intro vs G2 H2 fps2 fp r2 rl2 t2 s2
      obtain ⟨rfl, rl2⟩ := rl2
      refine a (x :: vs) G2 H2 fps2 [] r2 ⟨rfl, .cons ?_ rl2⟩ (t.trans t2) fun z => ?_
      · exact Bo.same t2.grow (c.imp_right fun z => s2 z) rl.2
      · simp only [Bool.or_eq_false_iff] at z
        exact (s z.1).trans (s2 z.2)
    | exc x' ε2 =>
      rw [e] at a
      intro cls d G2 H2 fps2 r2 t2 x2
      exact a cls d G2 H2 fps2 r2 (t.trans t2) x2
    | bad => rw [e] at a; exact a
  · rw [if_neg c] at a; exact a.elim
theorem tB_of {f : Ev → Res (Ent × Ev)} {Q : VK} (h : tB p Wx m (fun ε => (f ε).bind fun q => .ok ((0, q.1.2), q.2)) σ H Q) : tE p Wx m f σ H Q := by
  obtain ⟨ε, G, fps, r, a⟩ := h
  dsimp only at a
  refine ⟨ε, G, fps, r, ?_⟩
  cases e : f ε with
  | ok q =>
    obtain ⟨b, ε1⟩ := q
    rw [e] at a
    intro v G' H' fps' fp r' ow t s
    exact a v (frz G' H' fp) H' fps' [] r'.freeze ⟨rfl, ow.freeze r'⟩ (t.freeze r') s
  | exc x ε1 => rw [e] at a; exact a
  | bad => rw [e] at a; exact a
end

/-! ### names and constants -/
section
variable {X : Cx} {p : Pm} {Wx : WX} {pos : Pos}
def fVar (i : Nat) : Ev → Res (Ent × Ev) := fun ε => match ε[i]? with
  | some (some (n, d)) => .ok ((0, d), ε.set i (some (0, d)))
  | _ => .bad
def fVarB (i : Nat) : Ev → Res (Ent × Ev) := fun ε => match ε[i]? with
  | some (some e) => .ok (e, ε)
  | _ => .bad
theorem den_var {i : Nat} {x : Str} (h : PE X (.Name x pos) (tVar i)) : PE X (.Name x pos) (tE p Wx false (fVar i)) := by
  refine PE.imp h fun σ H Q ⟨ε, G, fps, r, a⟩ => ?_
  unfold fVar at a
  cases e : ε[i]? with
  | none => rw [e] at a; exact a.elim
  | some o =>
    cases o with
    | none => rw [e] at a; exact a.elim
    | some en =>
      obtain ⟨n, d⟩ := en
      rw [e] at a
      obtain ⟨r2, t2, v, hv, hz⟩ := r.freezeVar e
      exact ⟨v, hv, a v _ H _ [] r2 ⟨rfl, hz⟩ t2 fun _ => Same.refl H⟩
theorem den_varB {i : Nat} {x : Str} (h : PE X (.Name x pos) (tVar i)) : PE X (.Name x pos) (tB p Wx false (fVarB i)) := by
  refine PE.imp h fun σ H Q ⟨ε, G, fps, r, a⟩ => ?_
  unfold fVarB at a
  cases e : ε[i]? with
  | none => rw [e] at a; exact a.elim
  | some o =>
    cases o with
    | none => rw [e] at a; exact a.elim
    | some en =>
      rw [e] at a
      obtain ⟨v, hv, ho⟩ := r.at' i _ e
      exact ⟨v, hv, a v G H fps [] r ⟨rfl, ho.bo⟩ Tr.refl fun _ => Same.refl H⟩
def fLit (d : D) : Ev → Res (Ent × Ev) := fun ε => .ok ((0, d), ε)
theorem den_const {e : Expr} {v : V} {d : D} (h : PE X e (tC v)) (z : ∀ G, Rz p.K G v d) : PE X e (tE p Wx false (fLit d)) :=
  PE.imp h fun σ H Q ⟨ε, G, fps, r, a⟩ => a v G H fps [] r ⟨rfl, z G⟩ Tr.refl fun _ => Same.refl H
end
end Mb
end

section
set_option Elab.async false
set_option linter.all false
set_option maxRecDepth 100000
set_option maxHeartbeats 1000000
/-! Mb5: expressions -/
namespace Mb
open PySem PySem.Spec PyProof.Rows L2

def tru : D → Option Bool
  | .none => some false
  | .bool b => some b
  | .int i => some (i != 0)
  | .str s => if s.length ≤ LIM then some ((s.length : Int) != 0) else none
  | .list xs => some (!xs.isEmpty)
  | .tuple xs => some (!xs.isEmpty)
  | .dict _ => none
theorem isEmpty_rz {K : PySem.W.Frag} {G : Hp} {vs : List V} {ds : List D} (h : RzAll K G vs ds) : (!vs.isEmpty) = !ds.isEmpty := by
  cases h <;> rfl
theorem tru_rz {K : PySem.W.Frag} {G : Hp} {v : V} {d : D} {b : Bool} (h : Rz K G v d) (e : tru d = some b) : TruV K v G b := by
  cases h with
  | non => exact (Option.some.inj e).symm
  | bl b' => exact (Option.some.inj e).symm
  | int i => exact (Option.some.inj e).symm
  | str x =>
    simp only [tru] at e
    split at e
    · rename_i hz
      exact ⟨by rw [← lim_line]; exact hz, (Option.some.inj e).symm⟩
    · cases e
  | lst hs r => exact .inl ⟨_, .inl hs, by rw [isEmpty_rz r]; exact (Option.some.inj e).symm⟩
  | tup hs r => exact .inr (.inl ⟨_, hs, by rw [isEmpty_rz r]; exact (Option.some.inj e).symm⟩)
  | dct _ _ _ _ => cases e

section
variable {p : Pm} {Wx : WX} {m m1 m2 : Bool} {σ : L2.St} {G H : Hp} {fps : Fps} {ε : Ev}

/-! ### a value asked by truth -/
def fTru (f : Ev → Res (Ent × Ev)) : Ev → Res (Bool × Ev) := fun ε => (f ε).bind fun q => match tru q.1.2 with
  | some b => .ok (b, q.2)
  | none => .bad
theorem tT_tru {f : Ev → Res (Ent × Ev)} {Q : Bool → Hp → Prop} (h : tT p Wx m (fTru f) σ H Q) : tB p Wx m f σ H fun x H' => ∃ k, TruV p.K x H' k ∧ Q k H' := by
  have h : tR p Wx (m || false) relT (fTru f) σ H Q := by rw [Bool.or_false]; exact h
  refine tR.bind (m2 := false) (g := fun a ε => match tru a.2 with | some b => .ok (b, ε) | none => .bad) (fun _ _ _ _ _ h => h.1) h fun b v ε1 G G1 H1 fps fps1 r1 rl t s a => ?_
  cases e : tru b.2 with
  | none => rw [e] at a; exact a.elim
  | some k =>
    rw [e] at a
    exact ⟨k, tru_rz (rl.2.rz r1.sub) e, a k G1 H1 fps1 [] r1 ⟨rfl, rfl⟩ t fun z => s (by simpa using z)⟩
/-- a bool as a test -/
def fBool (f : Ev → Res (Ent × Ev)) : Ev → Res (Bool × Ev) := fun ε => (f ε).bind fun q => match q.1.2 with
  | .bool b => .ok (b, q.2)
  | _ => .bad
theorem bo_bool {K : PySem.W.Frag} {G H : Hp} {n : Nat} {v : V} {b : Bool} (h : Bo K G H n v (.bool b)) : v = .bl b := by
  cases n with
  | zero => cases h; rfl
  | succ n =>
    obtain ⟨a, _, h⟩ := h
    rcases h with ⟨_, _, e, _⟩ | ⟨_, _, _, e, _⟩ <;> cases e
theorem tT_bool {f : Ev → Res (Ent × Ev)} {Q : Bool → Hp → Prop} (h : tT p Wx m (fBool f) σ H Q) : tB p Wx m f σ H fun x H' => ∃ k, x = .bl k ∧ Q k H' := by
  have h : tR p Wx (m || false) relT (fBool f) σ H Q := by rw [Bool.or_false]; exact h
  refine tR.bind (m2 := false) (g := fun a ε => match a.2 with | .bool b => .ok (b, ε) | _ => .bad) (fun _ _ _ _ _ h => h.1) h fun b v ε1 G G1 H1 fps fps1 r1 rl t s a => ?_
  obtain ⟨n, d⟩ := b
  cases d with
  | bool k => exact ⟨k, bo_bool rl.2, a k G1 H1 fps1 [] r1 ⟨rfl, rfl⟩ t fun z => s (by simpa using z)⟩
  | _ => exact a.elim
def frzR (f : Ev → Res (Ent × Ev)) : Ev → Res (Ent × Ev) := fun ε => (f ε).bind fun q => .ok ((0, q.1.2), q.2)
theorem tB_frz {f : Ev → Res (Ent × Ev)} {Q : VK} (h : tB p Wx m (frzR f) σ H Q) : tE p Wx m f σ H Q := tB_of h

/-! ### and, or, not, if -/
def fAndT (f g : Ev → Res (Bool × Ev)) : Ev → Res (Bool × Ev) := fun ε => (f ε).bind fun q => if q.1 = true then g q.2 else .ok (false, q.2)
def fOrT (f g : Ev → Res (Bool × Ev)) : Ev → Res (Bool × Ev) := fun ε => (f ε).bind fun q => if q.1 = true then .ok (true, q.2) else g q.2
def fNotT (f : Ev → Res (Bool × Ev)) : Ev → Res (Bool × Ev) := fun ε => (f ε).bind fun q => .ok (!q.1, q.2)
theorem tT_and {f g : Ev → Res (Bool × Ev)} {Q : Bool → Hp → Prop} (h : tT p Wx (m1 || m2) (fAndT f g) σ H Q) : tAnd (tT p Wx m1 f) (tT p Wx m2 g) σ H Q := by
  refine tR.bind (g := fun a ε => if a = true then g ε else .ok (false, ε)) (fun _ _ _ _ _ h => h.1) h fun b v ε1 G G1 H1 fps fps1 r1 rl t s a => ?_
  obtain rfl : v = b := rl.2
  cases v with
  | true => rw [if_pos rfl] at a ⊢; exact After.next r1 t s a
  | false =>
    rw [if_neg Bool.false_ne_true] at a ⊢
    exact a false G1 H1 fps1 [] r1 ⟨rfl, rfl⟩ t fun z => s (by simp only [Bool.or_eq_false_iff] at z; exact z.1)
theorem tT_or {f g : Ev → Res (Bool × Ev)} {Q : Bool → Hp → Prop} (h : tT p Wx (m1 || m2) (fOrT f g) σ H Q) : tOr (tT p Wx m1 f) (tT p Wx m2 g) σ H Q := by
  refine tR.bind (g := fun a ε => if a = true then .ok (true, ε) else g ε) (fun _ _ _ _ _ h => h.1) h fun b v ε1 G G1 H1 fps fps1 r1 rl t s a => ?_
  obtain rfl : v = b := rl.2
  cases v with
  | false => rw [if_neg Bool.false_ne_true] at a ⊢; exact After.next r1 t s a
  | true =>
    rw [if_pos rfl] at a ⊢
    exact a true G1 H1 fps1 [] r1 ⟨rfl, rfl⟩ t fun z => s (by simp only [Bool.or_eq_false_iff] at z; exact z.1)
theorem tT_not {f : Ev → Res (Bool × Ev)} {Q : Bool → Hp → Prop} (h : tT p Wx m (fNotT f) σ H Q) : tNot (tT p Wx m f) σ H Q := by
  have h : tR p Wx (m || false) relT (fNotT f) σ H Q := by rw [Bool.or_false]; exact h
  refine tR.bind (m2 := false) (g := fun a ε => .ok (!a, ε)) (fun _ _ _ _ _ h => h.1) h fun b v ε1 G G1 H1 fps fps1 r1 rl t s a => ?_
  obtain rfl : v = b := rl.2
  exact a _ G1 H1 fps1 [] r1 ⟨rfl, rfl⟩ t fun z => s (by simpa using z)
/-- as values -/
def fAnd (f g : Ev → Res (Ent × Ev)) : Ev → Res (Ent × Ev) := fun ε => (frzR f ε).bind fun q => match tru q.1.2 with
  | some true => g q.2
  | some false => .ok (q.1, q.2)
  | none => .bad
def fOr (f g : Ev → Res (Ent × Ev)) : Ev → Res (Ent × Ev) := fun ε => (frzR f ε).bind fun q => match tru q.1.2 with
  | some true => .ok (q.1, q.2)
  | some false => g q.2
  | none => .bad
theorem frz_zero {f : Ev → Res (Ent × Ev)} {ε ε1 : Ev} {b : Ent} (h : frzR f ε = .ok (b, ε1)) : b.1 = 0 := by
  unfold frzR at h
  cases e : f ε with
  | ok q => rw [e] at h; cases h; rfl
  | exc x e' => rw [e] at h; cases h
  | bad => rw [e] at h; cases h
/-- the first is frozen -/
theorem tR.bind0 {β' α' : Type} {rel' : α' → β' → Hp → Hp → List Addr → Prop} {f : Ev → Res (Ent × Ev)} {g : Ent → Ev → Res (β' × Ev)} {Q : α' → Hp → Prop} {R : VK}
    (h : tR p Wx (m1 || m2) rel' (fun ε => (frzR f ε).bind fun q => g q.1 q.2) σ H Q)
    (k : ∀ (d : D) (v : V) (ε1 : Ev) (G G1 H1 : Hp) (fps fps1 : Fps), Rel p.K ε1 σ G1 H1 fps1 [] → Rz p.K G1 v d → Tr G H (Wf fps []) G1 H1 (Wf fps1 []) → (m1 = false → Same H H1) →
      After p Wx (m1 || m2) σ G H fps rel' (g (0, d) ε1) Q → R v H1) : tE p Wx m1 f σ H R := by
  refine tB_frz ?_
  obtain ⟨ε, G, fps, r, a⟩ := h
  dsimp only at a
  refine ⟨ε, G, fps, r, ?_⟩
  cases e : frzR f ε with
  | ok q =>
    obtain ⟨⟨n, d⟩, ε1⟩ := q
    have hn : n = 0 := frz_zero e
    subst hn
    rw [e] at a
    intro v G1 H1 fps1 fp r1 rl t s
    obtain ⟨rfl, rl⟩ := rl
    exact k d v ε1 G G1 H1 fps fps1 r1 rl t s a
  | exc x ε1 => rw [e] at a; exact a
  | bad => rw [e] at a; exact a
theorem After.val {σ : L2.St} {G0 G H0 H : Hp} {fps0 fps : Fps} {ε : Ev} {v : V} {d : D} {Q : VK} (a : After p Wx m σ G0 H0 fps0 (relE p) (.ok ((0, d), ε)) Q) (r : Rel p.K ε σ G H fps []) (h : Rz p.K G v d) (t : Tr G0 H0 (Wf fps0 []) G H (Wf fps []))
    (s : m = false → Same H0 H) : Q v H := a v G H fps [] r ⟨rfl, h⟩ t s
theorem tE_and {f g : Ev → Res (Ent × Ev)} {Q : VK} (h : tE p Wx (m1 || m2) (fAnd f g) σ H Q) : tAndT p.K (tE p Wx m1 f) (tE p Wx m2 g) σ H Q := by
  refine tR.bind0 (g := fun q ε => match tru q.2 with | some true => g ε | some false => .ok (q, ε) | none => .bad) h fun d v ε1 G G1 H1 fps fps1 r1 rz t s a => ?_
  dsimp only at a
  cases e : tru d with
  | none => rw [e] at a; exact a.elim
  | some k =>
    rw [e] at a
    refine ⟨k, tru_rz (rz.same r1.sub) e, ?_⟩
    cases k with
    | true => rw [if_pos rfl]; exact After.next r1 t s a
    | false => rw [if_neg Bool.false_ne_true]; exact a.val r1 rz t fun z => s (by simp only [Bool.or_eq_false_iff] at z; exact z.1)
theorem tE_or {f g : Ev → Res (Ent × Ev)} {Q : VK} (h : tE p Wx (m1 || m2) (fOr f g) σ H Q) : tOrT p.K (tE p Wx m1 f) (tE p Wx m2 g) σ H Q := by
  refine tR.bind0 (g := fun q ε => match tru q.2 with | some true => .ok (q, ε) | some false => g ε | none => .bad) h fun d v ε1 G G1 H1 fps fps1 r1 rz t s a => ?_
  dsimp only at a
  cases e : tru d with
  | none => rw [e] at a; exact a.elim
  | some k =>
    rw [e] at a
    refine ⟨k, tru_rz (rz.same r1.sub) e, ?_⟩
    cases k with
    | false => rw [if_neg Bool.false_ne_true]; exact After.next r1 t s a
    | true => rw [if_pos rfl]; exact a.val r1 rz t fun z => s (by simp only [Bool.or_eq_false_iff] at z; exact z.1)
def fNot (f : Ev → Res (Ent × Ev)) : Ev → Res (Ent × Ev) := fun ε => (f ε).bind fun q => match tru q.1.2 with
  | some b => .ok ((0, .bool (!b)), q.2)
  | none => .bad
theorem tE_not {f : Ev → Res (Ent × Ev)} {Q : VK} (h : tE p Wx m (fNot f) σ H Q) : tNotT p.K (tB p Wx m f) σ H Q := by
  have h : tR p Wx (m || false) (relE p) (fNot f) σ H Q := by rw [Bool.or_false]; exact h
  refine tR.bind (m2 := false) (g := fun a ε => match tru a.2 with | some b => .ok ((0, PyData.bool (!b)), ε) | none => .bad) (fun _ _ _ _ _ h => h.1) h fun b v ε1 G G1 H1 fps fps1 r1 rl t s a => ?_
  cases e : tru b.2 with
  | none => rw [e] at a; exact a.elim
  | some k =>
    rw [e] at a
    exact ⟨k, tru_rz (rl.2.rz r1.sub) e, a.val r1 (.bl _) t fun z => s (by simpa using z)⟩
/-- a if c else b, of any reading -/
def fIf {β : Type} (c : Ev → Res (Bool × Ev)) (f g : Ev → Res (β × Ev)) : Ev → Res (β × Ev) := fun ε => (c ε).bind fun q => if q.1 = true then f q.2 else g q.2
theorem tR_if {α β : Type} {rel : α → β → Hp → Hp → List Addr → Prop} {c : Ev → Res (Bool × Ev)} {f g : Ev → Res (β × Ev)} {Q : α → Hp → Prop} (h : tR p Wx (m1 || m2) rel (fIf c f g) σ H Q) :
    tT p Wx m1 c σ H fun b H1 => if b = true then tR p Wx m2 rel f σ H1 Q else tR p Wx m2 rel g σ H1 Q := by
  refine tR.bind (g := fun a ε => if a = true then f ε else g ε) (fun _ _ _ _ _ h => h.1) h fun b v ε1 G G1 H1 fps fps1 r1 rl t s a => ?_
  obtain rfl : v = b := rl.2
  cases v with
  | true => rw [if_pos rfl] at a ⊢; exact After.next r1 t s a
  | false => rw [if_neg Bool.false_ne_true] at a ⊢; exact After.next r1 t s a
/-- more may be said to have changed -/
theorem tR.weak {α β : Type} {rel : α → β → Hp → Hp → List Addr → Prop} {f : Ev → Res (β × Ev)} {Q : α → Hp → Prop} (hm : m = false → m1 = false) (h : tR p Wx m rel f σ H Q) : tR p Wx m1 rel f σ H Q := by
  obtain ⟨ε, G, fps, r, a⟩ := h
  refine ⟨ε, G, fps, r, ?_⟩
  cases e : f ε with
  | ok q => rw [e] at a; exact fun v G' H' fps' fp r' rl t s => a v G' H' fps' fp r' rl t fun z => s (hm z)
  | exc x ε1 => rw [e] at a; exact a
  | bad => rw [e] at a; exact a
end
end Mb
end

section
set_option Elab.async false
set_option linter.all false
set_option maxRecDepth 100000
set_option maxHeartbeats 1000000
/-! Mb6: operators, calls of built-ins, displays -/
namespace Mb
open PySem PySem.Spec PyProof.Rows L2

section
variable {p : Pm} {Wx : WX} {m m1 m2 : Bool} {σ : L2.St} {G H : Hp} {fps : Fps} {ε : Ev}
theorem tR.mono {α β : Type} {rel : α → β → Hp → Hp → List Addr → Prop} {f : Ev → Res (β × Ev)} {Q Q' : α → Hp → Prop} (h : tR p Wx m rel f σ H Q) (i : ∀ a H, Q a H → Q' a H) : tR p Wx m rel f σ H Q' := by
  obtain ⟨ε, G, fps, r, a⟩ := h
  refine ⟨ε, G, fps, r, ?_⟩
  cases e : f ε with
  | ok q => rw [e] at a; exact fun v G' H' fps' fp r' rl t s => i _ _ (a v G' H' fps' fp r' rl t s)
  | exc x ε1 => rw [e] at a; exact a
  | bad => rw [e] at a; exact a

def b2 (r : R2) : List V → Hp → VK → Prop := fun vs H Q => ∀ x y, vs = [x, y] → r x y H Q
def fOp2 (F : List Ent → Option Ent) (m2 : Bool) (f g : Ev → Res (Ent × Ev)) : Ev → Res (Ent × Ev) := fOp F (fCons m2 f (fCons false g fNil))
theorem tE_op2 {r : R2} {F : List Ent → Option Ent} (ok : OkL p.K (b2 r) F) {f g : Ev → Res (Ent × Ev)} {Q : VK} (h : tE p Wx (m1 || m2) (fOp2 F m2 f g) σ H Q) : tOp r (tB p Wx m1 f) (tB p Wx m2 g) σ H Q := by
  have h1 := tE_op ok h
  refine tR.mono (tA_cons h1) fun x H1 h2 => ?_
  have h2 : tA p Wx (m2 || false) (fCons false g fNil) σ H1 (fun xs H2 => b2 r (x :: xs) H2 Q) := by rw [Bool.or_false]; exact h2
  refine tR.mono (tA_cons h2) fun y H2 h3 => ?_
  exact tA_nil h3 x y rfl
end

section
variable {X : Cx} {p : Pm} {Wx : WX} {m m1 m2 : Bool} {pos : Pos} {a b e o : Expr} {es : List Expr} {f g : Ev → Res (Ent × Ev)} {h : Ev → Res (List Ent × Ev)}
theorem den_frz (ha : PE X a (tE p Wx m f)) : PE X a (tB p Wx m (frzR f)) := PE.imp ha fun _ _ _ => tB_frz
theorem den_bin {op : Operator} {r : R2} {F : List Ent → Option Ent} (ho : OpR X (binaryOp op) r) (ok : OkL p.K (b2 r) F) (ha : PE X a (tB p Wx m1 f)) (hb : PE X b (tB p Wx m2 g)) :
    PE X (.BinOp a op b pos) (tE p Wx (m1 || m2) (fOp2 F m2 f g)) := PE.imp (pe_op ho ha hb) fun _ _ _ => tE_op2 ok
theorem den_cmp {op : CmpOp} {r : R2} {F : List Ent → Option Ent} (ho : OpR X (compareOp op) r) (ok : OkL p.K (b2 r) F) (ha : PE X a (tB p Wx m1 f)) (hb : PE X b (tB p Wx m2 g)) (hm : behindInMarks op b = false) :
    PE X (.Compare a [op] [b] pos) (tE p Wx (m1 || m2) (fOp2 F m2 f g)) := PE.imp (pe_cmpR ho ha hb hm) fun _ _ _ => tE_op2 ok
theorem tE_bool {σ : L2.St} {H : Hp} {Q : Bool → Hp → Prop} (h : tT p Wx m (fBool f) σ H Q) : tE p Wx m f σ H fun x H' => ∃ k, x = .bl k ∧ Q k H' := by
  have h : tR p Wx (m || false) relT (fun ε => (frzR f ε).bind fun q => match q.1.2 with | .bool b => .ok (b, q.2) | _ => .bad) σ H Q := by
    rw [Bool.or_false]
    obtain ⟨ε, G, fps, r, a⟩ := h
    refine ⟨ε, G, fps, r, ?_⟩
    unfold fBool at a
    unfold frzR
    dsimp only
    cases e : f ε with
    | ok q => rw [e] at a; exact a
    | exc x e' => rw [e] at a; exact a
    | bad => rw [e] at a; exact a
  refine tR.bind0 (m2 := false) (g := fun q ε => match q.2 with | .bool b => .ok (b, ε) | _ => .bad) h fun d v ε1 G G1 H1 fps fps1 r1 rz t s a => ?_
  cases d with
  | bool k => cases rz; exact ⟨k, rfl, a k G1 H1 fps1 [] r1 ⟨rfl, rfl⟩ t fun z => s (by simpa using z)⟩
  | _ => exact a.elim
theorem den_cmpT {op : CmpOp} {r : R2} {F : List Ent → Option Ent} (ho : OpR X (compareOp op) r) (ok : OkL p.K (b2 r) F) (ha : PE X a (tB p Wx m1 f)) (hb : PE X b (tB p Wx m2 g)) (hm : behindInMarks op b = false) :
    PT X (.Compare a [op] [b] pos) (tT p Wx (m1 || m2) (fBool (fOp2 F m2 f g))) := PT.imp (pt_cmpR ho ha hb hm) fun _ _ _ h => tR.mono (tE_bool h) (fun _ _ q => q) |> tE_op2 ok
theorem den_truth (hK : X.K = p.K) (ha : PE X a (tB p Wx m f)) (he : ∀ whole, isTrue a X.env whole = (do let v ← whole; standAt a.pos; holding [v] (truthy v))) : PT X a (tT p Wx m (fTru f)) := PT.imp (pt_truth ha he) fun _ _ _ h => by rw [hK]; exact tT_tru h
theorem den_if {c : Expr} {fc : Ev → Res (Bool × Ev)} (hc : PT X c (tT p Wx m1 fc)) (ha : PE X a (tE p Wx m2 f)) (hb : PE X b (tE p Wx m2 g)) : PE X (.IfExp c a b pos) (tE p Wx (m1 || m2) (fIf fc f g)) := PE.imp (pe_ifExp hc ha hb) fun _ _ _ => tR_if
theorem den_weak (hm : m = false → m1 = false) (ha : PE X a (tE p Wx m1 f)) : PE X a (tE p Wx m f) := PE.imp ha fun _ _ _ => tR.weak hm
theorem den_weakB (hm : m = false → m1 = false) (ha : PE X a (tB p Wx m1 f)) : PE X a (tB p Wx m f) := PE.imp ha fun _ _ _ => tR.weak hm
theorem den_weakT {f : Ev → Res (Bool × Ev)} (hm : m = false → m1 = false) (ha : PT X a (tT p Wx m1 f)) : PT X a (tT p Wx m f) := PT.imp ha fun _ _ _ => tR.weak hm
theorem den_nilA : PA X [] (tA p Wx m fNil) := PA.imp pa_nil fun _ _ _ h => tA_nil h
theorem den_consA (ha : PE X a (tB p Wx m1 f)) (hb : PA X es (tA p Wx m2 h)) (hs : starEach (a :: es) X.env = (false, eval a X.env) :: starEach es X.env) : PA X (a :: es) (tA p Wx (m1 || m2) (fCons m2 f h)) :=
  PA.imp (pa_cons ha hb hs) fun _ _ _ => tA_cons
theorem starEach_any {es : List Expr} {env : Env} {pos : Pos} (h : ∀ e ∈ es, ∀ r, starEach (e :: r) env = (false, eval e env) :: starEach r env) : (backTo pos (starEach es env)).any (·.1) = false := by
  have : ∀ x ∈ starEach es env, x.1 = false := by
    induction es with
    | nil => intro x hx; cases hx
    | cons e r ih =>
      rw [h e List.mem_cons_self r]
      intro x hx
      rcases List.mem_cons.mp hx with rfl | hx
      · rfl
      · exact ih (fun e' he' => h e' (List.mem_cons_of_mem _ he')) x hx
  unfold backTo
  rw [List.any_map, List.any_eq_false]
  intro x hx
  show ¬ x.1 = true
  rw [this x hx]
  exact Bool.false_ne_true
end
end Mb
end

section
set_option Elab.async false
set_option linter.all false
set_option maxRecDepth 100000
set_option maxHeartbeats 1000000
/-! Mb7: calls of built-ins, methods, slices, f-strings, displays -/
namespace Mb
open PySem PySem.Spec PyProof.Rows L2

section
variable {p : Pm} {Wx : WX} {m m1 m2 : Bool} {σ : L2.St} {G H : Hp} {fps : Fps} {ε : Ev}
/-- o.m(e): o a text -/
def isS : D → Bool
  | .str _ => true
  | _ => false
theorem bo_str {K : PySem.W.Frag} {G H : Hp} (g : Same G H) {n : Nat} {v : V} {d : D} (h : Bo K G H n v d) (e : isS d = true) : ∃ a, v = .str a := by
  have h := h.rz g
  cases h <;> first | exact ⟨_, rfl⟩ | (cases e)
def fM1 (F : List Ent → Option Ent) (m2 : Bool) (f g : Ev → Res (Ent × Ev)) : Ev → Res (Ent × Ev) := fun ε => (f ε).bind fun q =>
  if isS q.1.2 = true ∧ (q.1.1 = 0 ∨ m2 = false) then (g q.2).bind fun r => match F [q.1, r.1] with
    | some e => .ok (e, r.2)
    | none => .bad
  else .bad
theorem tE_m1 {r : V → List V → Hp → VK → Prop} {F : List Ent → Option Ent} (ok : OkL p.K (b2 fun x y H Q => r x [y] H Q) F) {f g : Ev → Res (Ent × Ev)} {Q : VK} (h : tE p Wx (m1 || m2) (fM1 F m2 f g) σ H Q) : tM1 r (tB p Wx m1 f) (tB p Wx m2 g) σ H Q := by
  refine tR.bind (g := fun q ε => if isS q.2 = true ∧ (q.1 = 0 ∨ m2 = false) then (g ε).bind fun r => match F [q, r.1] with | some e => .ok (e, r.2) | none => .bad else .bad) (fun _ _ _ _ _ h => h.1) h fun b v ε1 G G1 H1 fps fps1 r1 rl t s a => ?_
  by_cases c : isS b.2 = true ∧ (b.1 = 0 ∨ m2 = false)
  · rw [if_pos c] at a
    refine ⟨bo_str r1.sub rl.2 c.1, ?_⟩
    refine ⟨ε1, G1, fps1, r1, ?_⟩
    cases e : g ε1 with
    | ok q =>
      obtain ⟨b', ε2⟩ := q
      rw [e] at a
      intro w G2 H2 fps2 fp r2 rl2 t2 s2
      obtain ⟨rfl, rl2⟩ := rl2
      have a : After p Wx (m1 || m2) σ G H fps (relE p) (match F [b, b'] with | some e => .ok (e, ε2) | none => .bad) Q := a
      cases e2 : F [b, b'] with
      | none => rw [e2] at a; exact a.elim
      | some en =>
        rw [e2] at a
        refine ok G2 H2 [v, w] [b, b'] en Q r2.sub (.cons (Bo.same t2.grow (c.2.imp_right fun z => s2 z) rl.2) (.cons rl2 .nil)) e2 (fun v' H' pr => ?_) v w rfl
        obtain ⟨G', fp, r3, ow, t3, sH⟩ := pr.rel r2
        refine a v' G' H' fps2 fp r3 ow ((t.trans t2).trans t3) fun z => ?_
        simp only [Bool.or_eq_false_iff] at z
        exact ((s z.1).trans (s2 z.2)).trans sH
    | exc x' ε2 =>
      rw [e] at a
      intro cls d G2 H2 fps2 r2 t2 x2
      exact a cls d G2 H2 fps2 r2 (t.trans t2) x2
    | bad => rw [e] at a; exact a
  · rw [if_neg c] at a; exact a.elim

/-! ### slices -/
def relO : Option Int → Option Int → Hp → Hp → List Addr → Prop := fun a b _ _ fp => fp = [] ∧ a = b
def fNoPart : Ev → Res (Option Int × Ev) := fun ε => .ok (none, ε)
def fPart (f : Ev → Res (Ent × Ev)) : Ev → Res (Option Int × Ev) := fun ε => (f ε).bind fun q => match q.1.2 with
  | .int i => .ok (some i, q.2)
  | _ => .bad
abbrev tO (p : Pm) (Wx : WX) (m : Bool) (f : Ev → Res (Option Int × Ev)) : TO := tR p Wx m relO f
theorem tO_no {Q : Option Int → Hp → Prop} (h : tO p Wx m fNoPart σ H Q) : tNoPart σ H Q := by
  obtain ⟨ε, G, fps, r, a⟩ := h
  exact a none G H fps [] r ⟨rfl, rfl⟩ Tr.refl fun _ => Same.refl H
theorem tO_part {f : Ev → Res (Ent × Ev)} {Q : Option Int → Hp → Prop} (h : tO p Wx m (fPart f) σ H Q) : tPart (tB p Wx m f) σ H Q := by
  have h : tR p Wx (m || false) relO (fPart f) σ H Q := by rw [Bool.or_false]; exact h
  refine tR.bind (m2 := false) (g := fun a ε => match a.2 with | .int i => .ok (some i, ε) | _ => .bad) (fun _ _ _ _ _ h => h.1) h fun b v ε1 G G1 H1 fps fps1 r1 rl t s a => ?_
  obtain ⟨n, d⟩ := b
  cases d with
  | int i =>
    have hz := rl.2.rz r1.sub
    cases hz
    exact ⟨i, rfl, a _ G1 H1 fps1 [] r1 ⟨rfl, rfl⟩ t fun z => s (by simpa using z)⟩
  | _ => exact a.elim
def OkS (K : PySem.W.Frag) (r : V → Option Int → Option Int → Hp → VK → Prop) (F : Ent → Option Int → Option Int → Option Ent) : Prop :=
  ∀ (G H : Hp) (v : V) (a : Ent) (lo hi : Option Int) (e : Ent) (Q : VK), Same G H → Bo K G H a.1 v a.2 → F a lo hi = some e → (∀ v H', PRes K G H e v H' → Q v H') → r v lo hi H Q
def fSl (F : Ent → Option Int → Option Int → Option Ent) (m2 m3 : Bool) (f : Ev → Res (Ent × Ev)) (g h : Ev → Res (Option Int × Ev)) : Ev → Res (Ent × Ev) := fun ε => (f ε).bind fun q =>
  if q.1.1 = 0 ∨ (m2 || m3) = false then (g q.2).bind fun l => (h l.2).bind fun u => match F q.1 l.1 u.1 with
    | some e => .ok (e, u.2)
    | none => .bad
  else .bad
theorem tE_sl {m3 : Bool} {r : V → Option Int → Option Int → Hp → VK → Prop} {F : Ent → Option Int → Option Int → Option Ent} (ok : OkS p.K r F) {f : Ev → Res (Ent × Ev)} {g h : Ev → Res (Option Int × Ev)} {Q : VK} (hh : tE p Wx (m1 || (m2 || m3)) (fSl F m2 m3 f g h) σ H Q) :
    tSl r (tB p Wx m1 f) (tO p Wx m2 g) (tO p Wx m3 h) σ H Q := by
  refine tR.bind (g := fun q ε => if q.1 = 0 ∨ (m2 || m3) = false then (g ε).bind fun l => (h l.2).bind fun u => match F q l.1 u.1 with | some e => .ok (e, u.2) | none => .bad else .bad) (fun _ _ _ _ _ h => h.1) hh
    fun b v ε1 G G1 H1 fps fps1 r1 rl t s a => ?_
  by_cases c : b.1 = 0 ∨ (m2 || m3) = false
  · rw [if_pos c] at a
    refine ⟨ε1, G1, fps1, r1, ?_⟩
    cases e : g ε1 with
    | ok q =>
      obtain ⟨l, ε2⟩ := q
      rw [e] at a
      intro l' G2 H2 fps2 fp r2 rl2 t2 s2
      obtain ⟨rfl, rfl⟩ := rl2
      refine ⟨ε2, G2, fps2, r2, ?_⟩
      have a : After p Wx (m1 || (m2 || m3)) σ G H fps (relE p) ((h ε2).bind fun u => match F b l' u.1 with | some e => .ok (e, u.2) | none => .bad) Q := a
      cases e3 : h ε2 with
      | ok q =>
        obtain ⟨u, ε3⟩ := q
        rw [e3] at a
        intro u' G3 H3 fps3 fp r3 rl3 t3 s3
        obtain ⟨rfl, rfl⟩ := rl3
        have a : After p Wx (m1 || (m2 || m3)) σ G H fps (relE p) (match F b l' u' with | some e => .ok (e, ε3) | none => .bad) Q := a
        cases e2 : F b l' u' with
        | none => rw [e2] at a; exact a.elim
        | some en =>
          rw [e2] at a
          refine ok G3 H3 v b l' u' en Q r3.sub (Bo.same (t2.trans t3).grow (c.imp_right fun z => ?_) rl.2) e2 fun v' H' pr => ?_
          · simp only [Bool.or_eq_false_iff] at z
            exact (s2 z.1).trans (s3 z.2)
          · obtain ⟨G', fp, r4, ow, t4, sH⟩ := pr.rel r3
            refine a v' G' H' fps3 fp r4 ow (((t.trans t2).trans t3).trans t4) fun z => ?_
            simp only [Bool.or_eq_false_iff] at z
            exact (((s z.1).trans (s2 z.2.1)).trans (s3 z.2.2)).trans sH
      | exc x' ε3 =>
        rw [e3] at a
        intro cls d G3 H3 fps3 r3 t3 x3
        exact a cls d G3 H3 fps3 r3 ((t.trans t2).trans t3) x3
      | bad => rw [e3] at a; exact a
    | exc x' ε2 =>
      rw [e] at a
      intro cls d G2 H2 fps2 r2 t2 x2
      exact a cls d G2 H2 fps2 r2 (t.trans t2) x2
    | bad => rw [e] at a; exact a
  · rw [if_neg c] at a; exact a.elim

/-! ### f-strings -/
def fJ : List (Bool × (Ev → Res (Ent × Ev))) → Str → Ev → Res (Str × Ev)
  | [], acc, ε => .ok (acc, ε)
  | f :: fs, acc, ε => (f.2 ε).bind fun q => match q.1.2 with
    | .str y => if (acc ++ y).length ≤ LIM then fJ fs (acc ++ y) q.2 else .bad
    | _ => .bad
def relStr : Str → Str → Hp → Hp → List Addr → Prop := fun a b _ _ fp => fp = [] ∧ a = b
def anyM (fs : List (Bool × (Ev → Res (Ent × Ev)))) : Bool := fs.any (·.1)
theorem tJ_of : ∀ {fs : List (Bool × (Ev → Res (Ent × Ev)))} {acc : Str} {σ : L2.St} {H : Hp} {Q : Str → Hp → Prop}, tR p Wx (anyM fs) relStr (fJ fs acc) σ H Q → tJs (fs.map fun f => tB p Wx f.1 f.2) acc σ H Q
  | [], acc, σ, H, Q, h => by
    obtain ⟨ε, G, fps, r, a⟩ := h
    exact a acc G H fps [] r ⟨rfl, rfl⟩ Tr.refl fun _ => Same.refl H
  | f :: fs, acc, σ, H, Q, h => by
    have h : tR p Wx (f.1 || anyM fs) relStr (fun ε => (f.2 ε).bind fun q => match q.1.2 with | .str y => if (acc ++ y).length ≤ LIM then fJ fs (acc ++ y) q.2 else .bad | _ => .bad) σ H Q := h
    refine tR.bind (g := fun a ε => match a.2 with | .str y => if (acc ++ y).length ≤ LIM then fJ fs (acc ++ y) ε else .bad | _ => .bad) (fun _ _ _ _ _ h => h.1) h fun b v ε1 G G1 H1 fps fps1 r1 rl t s a => ?_
    obtain ⟨n, d⟩ := b
    cases d with
    | str y =>
      have hz := rl.2.rz r1.sub
      cases hz
      have a : After p Wx (f.1 || anyM fs) σ G H fps relStr (if (acc ++ y).length ≤ LIM then fJ fs (acc ++ y) ε1 else .bad) Q := a
      by_cases c : (acc ++ y).length ≤ LIM
      · rw [if_pos c] at a
        exact ⟨y, rfl, by rw [← lim_line]; exact c, tJ_of (After.next r1 t s a)⟩
      · rw [if_neg c] at a; exact a.elim
    | _ => exact a.elim
def fStr (fs : List (Bool × (Ev → Res (Ent × Ev)))) : Ev → Res (Ent × Ev) := fun ε => (fJ fs Str.empty ε).bind fun q => .ok ((0, .str q.1), q.2)
theorem tE_str {fs : List (Bool × (Ev → Res (Ent × Ev)))} {Q : VK} (h : tE p Wx (anyM fs) (fStr fs) σ H Q) : tR p Wx (anyM fs) relStr (fJ fs Str.empty) σ H fun out H1 => Q (.str out) H1 := by
  have h : tR p Wx (anyM fs || false) (relE p) (fStr fs) σ H Q := by rw [Bool.or_false]; exact h
  refine tR.bind (m2 := false) (g := fun a ε => .ok ((0, PyData.str a), ε)) (fun _ _ _ _ _ h => h.1) h fun b v ε1 G G1 H1 fps fps1 r1 rl t s a => ?_
  obtain rfl : v = b := rl.2
  exact a.val r1 (.str v) t fun z => s (by simpa using z)
end

section
variable {X : Cx} {p : Pm} {Wx : WX} {m m1 m2 : Bool} {pos apos cpos : Pos} {a b e o : Expr} {es : List Expr} {f g : Ev → Res (Ent × Ev)} {h : Ev → Res (List Ent × Ev)} {F : List Ent → Option Ent}
theorem den_callB {x : Str} {id : String} {r : List V → Hp → VK → Prop} {p' : Pos} (hc : CallR X (.builtin id) r) (ok : OkL p.K r F) (hg : Gl X x) (hm : X.mg x = none) (hv : bootBuiltins x = some (.builtin id)) (ha : PA X (e :: es) (tA p Wx m h))
    (hn : x ≠ "__name__") (hdb : (x == ("__debug__" : Str)) = false) (he : starEach (e :: es) X.env = (false, eval e X.env) :: starEach es X.env) (hpl : (backTo pos (starEach es X.env)).any (·.1) = false) :
    PE X (.Call (.Name x p') (e :: es) [] pos) (tE p Wx m (fOp F h)) := PE.imp (pe_callB hc hg hm hv ha hn hdb he hpl) fun _ _ _ => tE_op ok
theorem den_callTy {x : Str} {T : String} {r : List V → Hp → VK → Prop} {p' : Pos} (hc : CallR X (.type T) r) (ok : OkL p.K r F) (hg : Gl X x) (hm : X.mg x = none) (hv : bootBuiltins x = some (.type T)) (ha : PA X (e :: es) (tA p Wx m h))
    (hn : x ≠ "__name__") (hdb : (x == ("__debug__" : Str)) = false) (he : starEach (e :: es) X.env = (false, eval e X.env) :: starEach es X.env) (hpl : (backTo pos (starEach es X.env)).any (·.1) = false) :
    PE X (.Call (.Name x p') (e :: es) [] pos) (tE p Wx m (fOp F h)) := PE.imp (pe_callTy hc hg hm hv ha hn hdb he hpl) fun _ _ _ => tE_op ok
theorem den_m1 {id : String} {name : Str} {r : V → List V → Hp → VK → Prop} (slot : Slot "str" name id) (ty : typeOf (.builtin id) = pure (.type "method_descriptor")) (rule : MtR X id r) (ok : OkL p.K (b2 fun x y H Q => r x [y] H Q) F)
    (ho : PE X o (tB p Wx m1 f)) (he : PE X e (tB p Wx m2 g)) (hs : starEach [e] X.env = [(false, eval e X.env)]) (hbase : attributeBase o name X.env (eval o X.env) = eval o X.env) (hline : (apos.endLine == pos.line) = true) :
    PE X (.Call (.Attribute o name apos) [e] [] pos) (tE p Wx (m1 || m2) (fM1 F m2 f g)) := PE.imp (pe_m1 slot ty rule ho he hs hbase hline) fun _ _ _ => tE_m1 ok
theorem den_tup {x1} {F : List Ent → Option Ent} (ok : OkL p.K (fun xs H Q => xs.length ≤ sizeLine ∧ ∀ q, H q = none → Q (.ref q) (upd H q (.tup xs))) F) (ha : PA X es (tA p Wx m h)) : PE X (.Tuple es x1 pos) (tE p Wx m (fOp F h)) :=
  PE.imp (pe_tup ha) fun _ _ _ => tE_op ok
theorem den_lst {F : List Ent → Option Ent} (ok : OkL p.K (fun xs H Q => xs.length ≤ sizeLine ∧ ∀ q, H q = none → Q (.ref q) (upd H q (.lst xs))) F) (ha : PA X es (tA p Wx m h)) : PE X (.List es pos) (tE p Wx m (fOp F h)) :=
  PE.imp (pe_lst ha) fun _ _ _ => tE_op ok
theorem PO.imp {X : Cx} {e : Option Expr} {t t' : TO} (h : PO X e t) (i : ∀ σ H Q, t' σ H Q → t σ H Q) : PO X e t' := ⟨fun pins s σ H Q I q => h.run pins s σ H Q I (i σ H Q q)⟩
theorem den_noPart : PO X none (tO p Wx m fNoPart) := PO.imp po_none fun _ _ _ => tO_no
theorem den_part (ha : PE X a (tB p Wx m f)) : PO X (some a) (tO p Wx m (fPart f)) := PO.imp (po_some ha) fun _ _ _ => tO_part
theorem den_sl {m3 : Bool} {lo hi : Option Expr} {p2 : Pos} {r : V → Option Int → Option Int → Hp → VK → Prop} {F : Ent → Option Int → Option Int → Option Ent} {g h : Ev → Res (Option Int × Ev)} (hr : SlR X r) (ok : OkS p.K r F) (he : PE X a (tB p Wx m1 f)) (hl : PO X lo (tO p Wx m2 g)) (hu : PO X hi (tO p Wx m3 h)) :
    PE X (.Subscript a (.Slice lo hi none p2) pos) (tE p Wx (m1 || (m2 || m3)) (fSl F m2 m3 f g h)) := PE.imp (pe_slice hr he hl hu) fun _ _ _ => tE_sl ok
theorem den_fstr {v1 v2 : Expr} {rest : List Expr} {fs : List (Bool × (Ev → Res (Ent × Ev)))} (h : PJ X (v1 :: v2 :: rest) (fs.map fun f => tB p Wx f.1 f.2)) : PE X (.JoinedStr (v1 :: v2 :: rest) pos) (tE p Wx (anyM fs) (fStr fs)) :=
  PE.imp (pe_joined h) fun _ _ _ h => tJ_of (tE_str h)
end
end Mb
end

section
set_option Elab.async false
set_option linter.all false
set_option maxRecDepth 100000
set_option maxHeartbeats 1000000
/-! Mb8: what the operations do with data -/
namespace Mb
open PySem PySem.Spec PyProof.Rows L2

/-- the strongest reading of an operation F on data -/
def rD (K : PySem.W.Frag) (F : List Ent → Option Ent) : List V → Hp → VK → Prop := fun vs H Q =>
  ∃ (as : List Ent) (G : Hp) (e : Ent), Same G H ∧ BoAll K G H vs as ∧ F as = some e ∧ ∀ v H', PRes K G H e v H' → Q v H'
theorem okD {K : PySem.W.Frag} {F : List Ent → Option Ent} : OkL K (rD K F) F := fun G H vs as e Q g b h k => ⟨as, G, e, g, b, h, k⟩
def rD2 (K : PySem.W.Frag) (F : List Ent → Option Ent) : R2 := fun x y H Q => rD K F [x, y] H Q
theorem okD2 {K : PySem.W.Frag} {F : List Ent → Option Ent} : OkL K (b2 (rD2 K F)) F := fun G H vs as e Q g b h k x y ev => by
  subst ev
  exact ⟨as, G, e, g, b, h, k⟩

section
variable {K : PySem.W.Frag} {G H : Hp} {n : Nat} {v : V}
theorem bo_int (g : Same G H) {i : Int} (h : Bo K G H n v (.int i)) : v = .int i := by cases h.rz g; rfl
theorem bo_strv (g : Same G H) {i : Str} (h : Bo K G H n v (.str i)) : v = .str i := by cases h.rz g; rfl
theorem bo_none (g : Same G H) (h : Bo K G H n v .none) : v = .non := by cases h.rz g; rfl
theorem bo_list (g : Same G H) {ds : List D} (hn : n ≤ 1) (h : Bo K G H n v (.list ds)) : ∃ (a : Addr) (vs : List V), v = .ref a ∧ Rd H a (.lst vs) ∧ RzAll K G vs ds := by
  cases n with
  | zero => cases h with | lst s r => exact ⟨_, _, rfl, same_rd g s, r⟩
  | succ n =>
    obtain rfl : n = 0 := by omega
    obtain ⟨a, e, h⟩ := h
    rcases h with ⟨vs, ds', ed, eh, r⟩ | ⟨_, _, _, ed, _⟩
    · cases ed; exact ⟨a, vs, e, eh, rzAll_of r⟩
    · cases ed
theorem bo_listN (g : Same G H) {ds : List D} (h : Bo K G H n v (.list ds)) : ∃ (a : Addr) (vs : List V), v = .ref a ∧ Rd H a (.lst vs) ∧ PySem.Paired (Bo K G H (n - 1)) vs ds := by
  cases n with
  | zero => cases h with | lst s r => exact ⟨_, _, rfl, same_rd g s, of_rzAll r⟩
  | succ n =>
    obtain ⟨a, e, h⟩ := h
    rcases h with ⟨vs, ds', ed, eh, r⟩ | ⟨_, _, _, ed, _⟩
    · cases ed; exact ⟨a, vs, e, eh, r⟩
    · cases ed
theorem bo_tuple (g : Same G H) {ds : List D} (h : Bo K G H n v (.tuple ds)) : ∃ (a : Addr) (vs : List V), v = .ref a ∧ SqT K H a vs ∧ RzAll K G vs ds := by
  cases n with
  | zero => cases h with | tup s r => exact ⟨_, _, rfl, same_sqt g s, r⟩
  | succ n =>
    obtain ⟨a, e, h⟩ := h
    rcases h with ⟨vs, ds', ed, _⟩ | ⟨_, _, _, ed, _⟩ <;> cases ed
end

structure Cok (X : Cx) (p : Pm) : Prop where
  hK : X.K = p.K
  hmg : X.mg = p.mg
  calm : X.calm = true
  nd : X.N.Nodup
  un : X.A.units + 64 < cLine

section
variable {X : Cx} {p : Pm}
/-- borrowed data read by the machine -/
theorem reads_bo {pins : List (Addr × Obj)} {σ : L2.St} {s : Shared} {G H : Hp} {n : Nat} {v : V} {u : Value} {d : D} (c : Cok X p) (I : Inv X pins σ H s) (g : Same G H) (h : Bo p.K G H n v d) (r : RelV v u) (pl : d.plain = true) : ∃ as, Reads s.heap u d as := by
  have h := (h.rz g).dp pl
  rw [← c.hK] at h
  exact Dp.reads I d v u h r
theorem PRes.bl {K : PySem.W.Frag} {G H : Hp} (g : Same G H) {b : Bool} : PRes K G H (0, .bool b) (.bl b) H := PRes.here g (.bl b)
/-- two data compared -/
def cmpF (ok : D → D → Bool) (val : D → D → Bool) : List Ent → Option Ent
  | [a, b] => if ok a.2 b.2 = true then some (0, .bool (val a.2 b.2)) else none
  | _ => none
def okEq (a b : D) : Bool := a.plain && b.plain && decide (min a.depth b.depth ≤ 60)
def okLt (a b : D) : Bool := a.plain && b.plain && PySem.W.alike a b && decide (min a.depth b.depth ≤ 60) && (match a with | .none => false | _ => true)
theorem cmp_rule {op : CmpOp} {ok val : D → D → Bool} (c : Cok X p) (hp : ∀ a b, ok a b = true → a.plain = true ∧ b.plain = true)
    (rule : ∀ (E : Value → Shared → Prop) (s : Shared) (u w : Value) (a b : D) (as bs : List Addr) (Q : Value → Shared → Prop), Reads s.heap u a as → Reads s.heap w b bs → ok a b = true → Q (.bool (val a b)) s → wpAny (model X.prog X.w) X.A (compareOp op u w) Q E s) :
    OpR X (compareOp op) (rD2 p.K (cmpF ok val)) := by
  intro pins s σ H x y v u Q I rx ry h
  obtain ⟨as, G, e, g, b, hF, k⟩ := h
  cases b with
  | cons b1 t =>
    cases t with
    | cons b2 t =>
      cases t
      rename_i a1 a2
      simp only [cmpF] at hF
      split at hF
      · rename_i hok
        cases hF
        obtain ⟨p1, p2⟩ := hp _ _ hok
        obtain ⟨as, r1⟩ := reads_bo c I g b1 rx p1
        obtain ⟨bs, r2⟩ := reads_bo c I g b2 ry p2
        exact rule _ s v u _ _ as bs _ r1 r2 hok ⟨.bl _, H, I, rfl, k _ _ (PRes.bl g)⟩
      · cases hF
theorem okEq_plain (a b : D) (h : okEq a b = true) : a.plain = true ∧ b.plain = true ∧ min a.depth b.depth ≤ 60 := by
  simp only [okEq, Bool.and_eq_true, decide_eq_true_eq] at h
  exact ⟨h.1.1, h.1.2, h.2⟩
theorem okLt_plain (a b : D) (h : okLt a b = true) : a.plain = true ∧ b.plain = true ∧ PySem.W.alike a b = true ∧ min a.depth b.depth ≤ 60 ∧ a ≠ .none := by
  simp only [okLt, Bool.and_eq_true, decide_eq_true_eq] at h
  refine ⟨h.1.1.1.1, h.1.1.1.2, h.1.1.2, h.1.2, fun e => ?_⟩
  subst e
  exact absurd h.2 (by simp)
theorem op_eqP (c : Cok X p) : OpR X (compareOp .Eq) (rD2 p.K (cmpF okEq PyData.eqv)) :=
  cmp_rule c (fun a b h => ⟨(okEq_plain a b h).1, (okEq_plain a b h).2.1⟩) fun E s u w a b as bs Q ra rb h q => SeqAt.eq_plain ra rb (okEq_plain a b h).1 (okEq_plain a b h).2.1 (by have := c.un; have := (okEq_plain a b h).2.2; omega) q
theorem op_neP (c : Cok X p) : OpR X (compareOp .NotEq) (rD2 p.K (cmpF okEq fun a b => !PyData.eqv a b)) :=
  cmp_rule c (fun a b h => ⟨(okEq_plain a b h).1, (okEq_plain a b h).2.1⟩) fun E s u w a b as bs Q ra rb h q => SeqAt.ne_plain ra rb (okEq_plain a b h).1 (okEq_plain a b h).2.1 (by have := c.un; have := (okEq_plain a b h).2.2; omega) q
theorem op_ltP (c : Cok X p) : OpR X (compareOp .Lt) (rD2 p.K (cmpF okLt PySem.W.dataLt)) :=
  cmp_rule c (fun a b h => ⟨(okLt_plain a b h).1, (okLt_plain a b h).2.1⟩) fun E s u w a b as bs Q ra rb h q => by
    obtain ⟨_, _, h1, h2, h3⟩ := okLt_plain a b h
    exact PySem.W.lt_data ra rb h1 h3 (by have := c.un; omega) q
theorem op_gtP (c : Cok X p) : OpR X (compareOp .Gt) (rD2 p.K (cmpF okLt fun a b => PySem.W.dataLt b a)) :=
  cmp_rule c (fun a b h => ⟨(okLt_plain a b h).1, (okLt_plain a b h).2.1⟩) fun E s u w a b as bs Q ra rb h q => by
    obtain ⟨_, _, h1, h2, h3⟩ := okLt_plain a b h
    exact PySem.W.gt_data ra rb h1 h3 (by have := c.un; omega) q
theorem op_leP (c : Cok X p) : OpR X (compareOp .LtE) (rD2 p.K (cmpF okLt fun a b => !PySem.W.dataLt b a)) :=
  cmp_rule c (fun a b h => ⟨(okLt_plain a b h).1, (okLt_plain a b h).2.1⟩) fun E s u w a b as bs Q ra rb h q => by
    obtain ⟨_, _, h1, h2, h3⟩ := okLt_plain a b h
    exact PySem.W.le_data ra rb h1 h3 (by have := c.un; omega) q
theorem op_geP (c : Cok X p) : OpR X (compareOp .GtE) (rD2 p.K (cmpF okLt fun a b => !PySem.W.dataLt a b)) :=
  cmp_rule c (fun a b h => ⟨(okLt_plain a b h).1, (okLt_plain a b h).2.1⟩) fun E s u w a b as bs Q ra rb h q => by
    obtain ⟨_, _, h1, h2, h3⟩ := okLt_plain a b h
    exact PySem.W.ge_data ra rb h1 h3 (by have := c.un; omega) q
end
end Mb
end

section
set_option Elab.async false
set_option linter.all false
set_option maxRecDepth 100000
set_option maxHeartbeats 1000000
/-! Mb9: arithmetic, membership, calls of built-ins on data -/
namespace Mb
open PySem PySem.Spec PyProof.Rows L2

section
variable {X : Cx} {p : Pm}
theorem bo2 {K : PySem.W.Frag} {G H : Hp} {x y : V} {as : List Ent} (b : BoAll K G H [x, y] as) : ∃ a1 a2, as = [a1, a2] ∧ Bo K G H a1.1 x a1.2 ∧ Bo K G H a2.1 y a2.2 := by
  cases b with
  | cons b1 t =>
    cases t with
    | cons b2 t => cases t; exact ⟨_, _, rfl, b1, b2⟩
theorem bo1 {K : PySem.W.Frag} {G H : Hp} {x : V} {as : List Ent} (b : BoAll K G H [x] as) : ∃ a1, as = [a1] ∧ Bo K G H a1.1 x a1.2 := by
  cases b with
  | cons b1 t => cases t; exact ⟨_, rfl, b1⟩
theorem boOne {K : PySem.W.Frag} {G H : Hp} {xs : List V} {a : Ent} (b : BoAll K G H xs [a]) : ∃ x, xs = [x] ∧ Bo K G H a.1 x a.2 := by
  cases b with
  | cons b1 t => cases t; exact ⟨_, rfl, b1⟩
theorem boTwo {K : PySem.W.Frag} {G H : Hp} {xs : List V} {a b : Ent} (h : BoAll K G H xs [a, b]) : ∃ x y, xs = [x, y] ∧ Bo K G H a.1 x a.2 ∧ Bo K G H b.1 y b.2 := by
  cases h with
  | cons b1 t =>
    cases t with
    | cons b2 t => cases t; exact ⟨_, _, rfl, b1, b2⟩

theorem bo_tup0 {K : PySem.W.Frag} {G H : Hp} {n : Nat} {v : V} {ds : List D} (h : Bo K G H n v (.tuple ds)) : Rz K G v (.tuple ds) := by
  cases n with
  | zero => exact h
  | succ n =>
    obtain ⟨a, e, h⟩ := h
    rcases h with ⟨vs, ds', ed, _⟩ | ⟨_, _, _, ed, _⟩ <;> cases ed

/-! ### + - * // % -/
def intF (C : Int → Int → Bool) (g : Int → Int → Int) : List Ent → Option Ent
  | [(_, .int i), (_, .int j)] => if C i j = true then some (0, .int (g i j)) else none
  | _ => none
theorem int_rule {f : Value → Value → Sem Value} {C : Int → Int → Prop} {C' : Int → Int → Bool} {g : Int → Int → Int} (h : OpR X f (rI C fun i j => .int (g i j))) (hc : ∀ i j, C' i j = true → C i j) : OpR X f (rD2 p.K (intF C' g)) := by
  intro pins s σ H x y v u Q I rx ry q
  obtain ⟨as, G, e, gs, b, hF, k⟩ := q
  obtain ⟨⟨n1, d1⟩, ⟨n2, d2⟩, rfl, b1, b2⟩ := bo2 b
  unfold intF at hF
  split at hF
  · rename_i z1 i z2 j heq
    injection heq with h1 h2
    injection h2 with h2 _
    cases h1; cases h2
    split at hF
    · rename_i hcc
      cases hF
      have e1 := bo_int gs b1
      have e2 := bo_int gs b2
      exact h pins s σ H x y v u Q I rx ry ⟨i, j, e1, e2, hc _ _ hcc, k _ _ (PRes.here gs (.int _))⟩
    · cases hF
  · cases hF
def mulC (i j : Int) : Bool := decide (i.natAbs.log2 + j.natAbs.log2 < 1000000)
def divC (i j : Int) : Bool := decide (0 < j ∧ j.natAbs.log2 < 9000)
theorem op_subP : OpR X (binaryOp .Sub) (rD2 p.K (intF (fun _ _ => true) fun i j => i - j)) := by
  intro pins s σ H x y v u Q I rx ry q
  exact int_rule (X := X) (p := p) (f := binaryOp .Sub) (C := fun _ _ => True) (g := fun i j => i - j) (fun pins s σ H x y v u Q I rx ry ⟨i, j, e1, e2, _, q⟩ => op_sub pins s σ H x y v u Q I rx ry ⟨i, j, e1, e2, q⟩) (fun _ _ _ => trivial) pins s σ H x y v u Q I rx ry q
theorem op_mulI : OpR X (binaryOp .Mult) (rD2 p.K (intF mulC fun i j => i * j)) := int_rule op_mulW fun i j h => (of_decide_eq_true h : i.natAbs.log2 + j.natAbs.log2 < 1000000)
/-- a text so many times -/
def repC (x : Str) (n : Int) : Bool := decide (0 ≤ n ∧ n < 1000000 ∧ x.length * n.toNat ≤ LIM)
theorem repC_ok {x : Str} {n : Int} (h : repC x n = true) : MulOk x n := by
  unfold repC at h
  rw [decide_eq_true_eq] at h
  obtain ⟨h0, h1, h2⟩ := h
  have lim : LIM = 16777216 := rfl
  refine ⟨?_, fun h3 _ => ?_, fun _ _ => ?_⟩
  · simp only [Bool.or_eq_false_iff, decide_eq_false_iff_not]
    constructor <;> omega
  · have hp : 0 < n := by omega
    intro z
    have z : (2 ^ 63 - 1 : Int) / n < (x.length : Int) := z
    have := Int.lt_mul_of_ediv_lt hp z
    have e : ((x.length * n.toNat : Nat) : Int) = (x.length : Int) * n := by
      rw [Int.natCast_mul, Int.toNat_of_nonneg h0]
    have : ((x.length * n.toNat : Nat) : Int) ≤ 16777216 := by omega
    omega
  · have := h2
    rw [lim_line] at this
    show decide (x.length * n.toNat > sizeLine) = false
    exact decide_eq_false (Nat.not_lt.mpr this)
def mulF : List Ent → Option Ent
  | [(_, .int i), (_, .int j)] => if mulC i j = true then some (0, .int (i * j)) else none
  | [(_, .str x), (_, .int n)] => if repC x n = true then some (0, .str (Txt.mul x n)) else none
  | _ => none
theorem op_mulP : OpR X (binaryOp .Mult) (rD2 p.K mulF) := by
  intro pins s σ H x y v u Q I rx ry q
  obtain ⟨as, G, e, gs, b, hF, k⟩ := q
  obtain ⟨⟨n1, d1⟩, ⟨n2, d2⟩, rfl, b1, b2⟩ := bo2 b
  unfold mulF at hF
  split at hF
  · rename_i z1 i z2 j heq
    injection heq with h1 h2
    injection h2 with h2 _
    cases h1; cases h2
    exact op_mulI (p := p) pins s σ H x y v u Q I rx ry ⟨[(n1, .int i), (n2, .int j)], G, e, gs, b, hF, k⟩
  · rename_i z1 i z2 j heq
    injection heq with h1 h2
    injection h2 with h2 _
    cases h1; cases h2
    split at hF
    · rename_i hc
      cases hF
      have e1 := bo_strv gs b1
      have e2 := bo_int gs b2
      subst e1
      subst e2
      obtain ⟨t1, rfl⟩ : ∃ t, v = .str i t := rx
      obtain ⟨t2, rfl⟩ : ∃ t, u = .int j t := ry
      exact PySem.SB.mul (repC_ok hc) fun t' k' => ⟨.str _, H, I.tok _, ⟨_, rfl⟩, k _ _ (PRes.here gs (.str _))⟩
    · cases hF
  · cases hF
theorem op_divP : OpR X (binaryOp .FloorDiv) (rD2 p.K (intF divC fun i j => i / j)) := int_rule op_fdivW fun i j h => (of_decide_eq_true h : 0 < j ∧ j.natAbs.log2 < 9000)
theorem op_modP : OpR X (binaryOp .Mod) (rD2 p.K (intF (fun _ j => decide (0 < j)) fun i j => i % j)) := int_rule op_mod fun i j h => of_decide_eq_true h

def addF : List Ent → Option Ent
  | [(_, .int i), (_, .int j)] => some (0, .int (i + j))
  | [(_, .str i), (_, .str j)] => if i.length + j.length ≤ LIM then some (0, .str (i ++ j)) else none
  | [(n, .list i), (m, .list j)] => if n ≤ 1 ∧ m ≤ 1 ∧ i.length + j.length ≤ LIM then some (1, .list (i ++ j)) else none
  | [(_, .tuple i), (_, .tuple j)] => if i.length + j.length ≤ LIM then some (0, .tuple (i ++ j)) else none
  | _ => none
/-- what stands at a list that is read -/
theorem rdList {pins : List (Addr × Obj)} {σ : L2.St} {H : Hp} {s : Shared} {a : Addr} {vs : List V} (I : Inv X pins σ H s) (h : Rd H a (.lst vs)) :
    vs.length ≤ sizeLine ∧ ∃ (its : List Value) (n : Nat), Vals vs its ∧ s.heap.get? a = some { cls := .type "list", data := .seq its.toArray n } := h.ok I.hok
theorem op_addP (c : Cok X p) : OpR X (binaryOp .Add) (rD2 p.K addF) := by
  intro pins s σ H x y v u Q I rx ry q
  obtain ⟨as, G, e, gs, b, hF, k⟩ := q
  obtain ⟨⟨n1, d1⟩, ⟨n2, d2⟩, rfl, b1, b2⟩ := bo2 b
  unfold addF at hF
  split at hF
  · rename_i z1 i z2 j heq
    injection heq with h1 h2
    injection h2 with h2 _
    cases h1; cases h2; cases hF
    exact op_add pins s σ H x y v u Q I rx ry ⟨i, j, bo_int gs b1, bo_int gs b2, k _ _ (PRes.here gs (.int _))⟩
  · rename_i z1 i z2 j heq
    injection heq with h1 h2
    injection h2 with h2 _
    cases h1; cases h2
    split at hF
    · rename_i hc
      cases hF
      exact op_add_str pins s σ H x y v u Q I rx ry ⟨i, j, bo_strv gs b1, bo_strv gs b2, by rw [← lim_line]; exact hc, k _ _ (PRes.here gs (.str _))⟩
    · cases hF
  · rename_i z1 i z2 j heq
    injection heq with h1 h2
    injection h2 with h2 _
    cases h1; cases h2
    split at hF
    · rename_i hc
      cases hF
      obtain ⟨a, vs, rfl, ha, ra⟩ := bo_list gs hc.1 b1
      obtain ⟨a', vs', rfl, ha', ra'⟩ := bo_list gs hc.2.1 b2
      cases rx
      cases ry
      obtain ⟨z, its, m1, r1, e1⟩ := rdList I ha
      obtain ⟨z2, its2, m2, r2, e2⟩ := rdList I ha'
      have l1 := r1.length
      have l2 := r2.length
      have l3 := ra.length
      have l4 := ra'.length
      have hz := hc.2.2
      rw [lim_line] at hz
      refine PySem.P.add_list e1 e2 ?_ (by rw [List.size_toArray, List.size_toArray]; omega)
      rw [show its.toArray ++ its2.toArray = (its ++ its2).toArray by simp]
      exact ⟨.ref _, _, I.lnew (t' := s.toks) (r1.append r2) (by rw [List.length_append]; omega), rfl, k _ _ (PRes.lst gs I.fresh (ra.append ra'))⟩
    · cases hF
  · rename_i z1 i z2 j heq
    injection heq with h1 h2
    injection h2 with h2 _
    cases h1; cases h2
    split at hF
    · rename_i hc
      cases hF
      obtain ⟨a, vs, rfl, ha, ra⟩ := bo_tuple gs b1
      obtain ⟨a', vs', rfl, ha', ra'⟩ := bo_tuple gs b2
      have l3 := ra.length
      have l4 := ra'.length
      refine op_catA pins s σ H _ _ v u Q I rx ry ⟨a, a', vs, vs', rfl, rfl, by rw [c.hK]; exact ha, by rw [c.hK]; exact ha', by rw [← lim_line]; omega, fun h0 => ?_, fun _ h0 => ?_, fun _ _ q hq => k _ _ (PRes.tup gs hq (ra.append ra'))⟩
      · subst h0
        have : i = [] := by cases ra; rfl
        subst this
        exact k _ _ (PRes.here gs (bo_tup0 b2))
      · subst h0
        have : j = [] := by cases ra'; rfl
        subst this
        rw [List.append_nil] at k
        exact k _ _ (PRes.here gs (bo_tup0 b1))
    · cases hF
  · cases hF
end
end Mb
end

section
set_option Elab.async false
set_option linter.all false
set_option maxRecDepth 100000
set_option maxHeartbeats 1000000
/-! Mb10: membership, subscripts, slices, calls of built-ins on data -/
namespace Mb
open PySem PySem.Spec PyProof.Rows L2

section
variable {X : Cx} {p : Pm}
/-! ### in, not in -/
def inF (neg : Bool) : List Ent → Option Ent
  | [x, (_, .list ys)] => if x.2.plain && PyData.plainAll ys && decide (min (PyData.depthAll ys) x.2.depth ≤ 60) then some (0, .bool (xor neg (ys.any fun y => PyData.eqv y x.2))) else none
  | [x, (_, .tuple ys)] => if x.2.plain && PyData.plainAll ys && decide (min (PyData.depthAll ys) x.2.depth ≤ 60) then some (0, .bool (xor neg (ys.any fun y => PyData.eqv y x.2))) else none
  | [(_, .str i), (_, .str j)] => some (0, .bool (xor neg (!(Builtin.Str.occurrences j i 0 j.length 1).isEmpty)))
  | _ => none
theorem xt (b : Bool) : xor true b = !b := by cases b <;> rfl
theorem xf (b : Bool) : xor false b = b := by cases b <;> rfl
theorem op_inP (c : Cok X p) : OpR X (compareOp .In) (rD2 p.K (inF false)) := by
  intro pins s σ H x y v u Q I rx ry q
  obtain ⟨as, G, e, gs, b, hF, k⟩ := q
  obtain ⟨⟨n1, d1⟩, ⟨n2, d2⟩, rfl, b1, b2⟩ := bo2 b
  unfold inF at hF
  have un := c.un
  split at hF
  · rename_i z1 z2 ys heq
    injection heq with h1 h2
    injection h2 with h2 _
    cases h1; cases h2
    split at hF
    · rename_i hc
      cases hF
      simp only [Bool.and_eq_true, decide_eq_true_eq] at hc
      obtain ⟨as, r1⟩ := reads_bo c I gs b1 rx hc.1.1
      obtain ⟨bs, r2⟩ := reads_bo c I gs b2 ry (by simpa [PyData.plain] using hc.1.2)
      have h3 : min (PyData.depthAll ys) (PyData.depth d1) ≤ 60 := hc.2
      exact SeqAt.in_list_data r2 r1 hc.1.2 hc.1.1 (by show X.A.units + 1 + min (PyData.depthAll ys) (PyData.depth d1) < cLine; omega) ⟨.bl _, H, I, rfl, by rw [← xf (ys.any _)]; exact k _ _ (PRes.bl gs)⟩
    · cases hF
  · rename_i z1 z2 ys heq
    injection heq with h1 h2
    injection h2 with h2 _
    cases h1; cases h2
    split at hF
    · rename_i hc
      cases hF
      simp only [Bool.and_eq_true, decide_eq_true_eq] at hc
      obtain ⟨as, r1⟩ := reads_bo c I gs b1 rx hc.1.1
      obtain ⟨bs, r2⟩ := reads_bo c I gs b2 ry (by simpa [PyData.plain] using hc.1.2)
      have h3 : min (PyData.depthAll ys) (PyData.depth d1) ≤ 60 := hc.2
      exact SeqAt.in_tuple_data r2 r1 hc.1.2 hc.1.1 (by show X.A.units + 1 + min (PyData.depthAll ys) (PyData.depth d1) < cLine; omega) ⟨.bl _, H, I, rfl, by rw [← xf (ys.any _)]; exact k _ _ (PRes.bl gs)⟩
    · cases hF
  · rename_i z1 i z2 j heq
    injection heq with h1 h2
    injection h2 with h2 _
    cases h1; cases h2; cases hF
    exact op_in_str pins s σ H x y v u Q I rx ry ⟨i, j, bo_strv gs b1, bo_strv gs b2, by rw [← xf (!(Builtin.Str.occurrences j i 0 j.length 1).isEmpty)]; exact k _ _ (PRes.bl gs)⟩
  · cases hF
theorem op_ninP (c : Cok X p) : OpR X (compareOp .NotIn) (rD2 p.K (inF true)) := by
  intro pins s σ H x y v u Q I rx ry q
  obtain ⟨as, G, e, gs, b, hF, k⟩ := q
  obtain ⟨⟨n1, d1⟩, ⟨n2, d2⟩, rfl, b1, b2⟩ := bo2 b
  unfold inF at hF
  have un := c.un
  split at hF
  · rename_i z1 z2 ys heq
    injection heq with h1 h2
    injection h2 with h2 _
    cases h1; cases h2
    split at hF
    · rename_i hc
      cases hF
      simp only [Bool.and_eq_true, decide_eq_true_eq] at hc
      obtain ⟨as, r1⟩ := reads_bo c I gs b1 rx hc.1.1
      obtain ⟨bs, r2⟩ := reads_bo c I gs b2 ry (by simpa [PyData.plain] using hc.1.2)
      have h3 : min (PyData.depthAll ys) (PyData.depth d1) ≤ 60 := hc.2
      exact SeqAt.notIn_list_data r2 r1 hc.1.2 hc.1.1 (by show X.A.units + 1 + min (PyData.depthAll ys) (PyData.depth d1) < cLine; omega) ⟨.bl _, H, I, rfl, by rw [← xt (ys.any _)]; exact k _ _ (PRes.bl gs)⟩
    · cases hF
  · rename_i z1 z2 ys heq
    injection heq with h1 h2
    injection h2 with h2 _
    cases h1; cases h2
    split at hF
    · rename_i hc
      cases hF
      simp only [Bool.and_eq_true, decide_eq_true_eq] at hc
      obtain ⟨as, r1⟩ := reads_bo c I gs b1 rx hc.1.1
      obtain ⟨bs, r2⟩ := reads_bo c I gs b2 ry (by simpa [PyData.plain] using hc.1.2)
      have h3 : min (PyData.depthAll ys) (PyData.depth d1) ≤ 60 := hc.2
      exact SeqAt.notIn_tuple_data r2 r1 hc.1.2 hc.1.1 (by show X.A.units + 1 + min (PyData.depthAll ys) (PyData.depth d1) < cLine; omega) ⟨.bl _, H, I, rfl, by rw [← xt (ys.any _)]; exact k _ _ (PRes.bl gs)⟩
    · cases hF
  · rename_i z1 i z2 j heq
    injection heq with h1 h2
    injection h2 with h2 _
    cases h1; cases h2; cases hF
    exact op_notin_str pins s σ H x y v u Q I rx ry ⟨i, j, bo_strv gs b1, bo_strv gs b2, by rw [← xt (!(Builtin.Str.occurrences j i 0 j.length 1).isEmpty)]; exact k _ _ (PRes.bl gs)⟩
  · cases hF
/-- is None -/
def isN : D → Bool
  | .none => true
  | _ => false
def isF (neg : Bool) : List Ent → Option Ent
  | [x, (_, .none)] => some (0, .bool (xor neg (isN x.2)))
  | _ => none
theorem rz_isNone {K : PySem.W.Frag} {G : Hp} {v : V} {d : D} (h : Rz K G v d) : decide (v = .non) = isN d := by
  cases h <;> rfl
theorem op_isP : OpR X (compareOp .Is) (rD2 p.K (isF false)) := by
  intro pins s σ H x y v u Q I rx ry q
  obtain ⟨as, G, e, gs, b, hF, k⟩ := q
  obtain ⟨⟨n1, d1⟩, ⟨n2, d2⟩, rfl, b1, b2⟩ := bo2 b
  unfold isF at hF
  split at hF
  · rename_i z1 z2 heq
    injection heq with h1 h2
    injection h2 with h2 _
    cases h1; cases h2; cases hF
    refine op_isN pins s σ H x y v u Q I rx ry ⟨bo_none gs b2, ?_⟩
    rw [rz_isNone (b1.rz gs), ← xf (isN _)]
    exact k _ _ (PRes.bl gs)
  · cases hF
theorem op_isnP : OpR X (compareOp .IsNot) (rD2 p.K (isF true)) := by
  intro pins s σ H x y v u Q I rx ry q
  obtain ⟨as, G, e, gs, b, hF, k⟩ := q
  obtain ⟨⟨n1, d1⟩, ⟨n2, d2⟩, rfl, b1, b2⟩ := bo2 b
  unfold isF at hF
  split at hF
  · rename_i z1 z2 heq
    injection heq with h1 h2
    injection h2 with h2 _
    cases h1; cases h2; cases hF
    refine op_notN pins s σ H x y v u Q I rx ry ⟨bo_none gs b2, ?_⟩
    rw [rz_isNone (b1.rz gs), ← xt (isN _)]
    exact k _ _ (PRes.bl gs)
  · cases hF

/-! ### subscripts: the item, borrowed -/
def ixF : List Ent → Option Ent
  | [(n, .list ds), (_, .int i)] => (atI ds i).map fun d => (n - 1, d)
  | [(_, .tuple ds), (_, .int i)] => (atI ds i).map fun d => (0, d)
  | [(_, .str s), (_, .int i)] => if s.length ≤ LIM then (atI s.cps.toList i).map fun c => (0, .str ⟨#[c]⟩) else none
  | _ => none
def rB2 (K : PySem.W.Frag) (F : List Ent → Option Ent) : R2 := fun x y H Q =>
  ∃ (as : List Ent) (G : Hp) (e : Ent), Same G H ∧ BoAll K G H [x, y] as ∧ F as = some e ∧ ∀ v, Bo K G H e.1 v e.2 → Q v H
theorem pair_get {α β : Type} {R : α → β → Prop} : ∀ {xs : List α} {ys : List β} {j : Nat} {y : β}, PySem.Paired R xs ys → ys[j]? = some y → ∃ x, xs[j]? = some x ∧ R x y
  | _, _, _, _, .nil, e => by simp at e
  | _, _, 0, _, .cons r _, e => by simp at e; subst e; exact ⟨_, rfl, r⟩
  | _, _, j + 1, _, .cons _ t, e => by
    obtain ⟨x, h1, h2⟩ := pair_get (j := j) t (by simpa using e)
    exact ⟨x, by simpa using h1, h2⟩
theorem atI_pair {α β : Type} {R : α → β → Prop} {xs : List α} {ys : List β} {i : Int} {y : β} (h : PySem.Paired R xs ys) (e : atI ys i = some y) : ∃ x, atI xs i = some x ∧ R x y := by
  have hl := Paired.length h
  unfold atI at e ⊢
  rw [hl]
  cases q : ixN ys.length i with
  | none => rw [q] at e; cases e
  | some j =>
    rw [q] at e
    exact pair_get h e
theorem ix_rule (c : Cok X p) : IxR X (rB2 p.K ixF) := by
  intro value slice pins s σ H x y v u Q I rx ry q hs
  obtain ⟨as, G, e, gs, b, hF, k⟩ := q
  obtain ⟨⟨n1, d1⟩, ⟨n2, d2⟩, rfl, b1, b2⟩ := bo2 b
  unfold ixF at hF
  split at hF
  · rename_i z1 ds z2 i heq
    injection heq with h1 h2
    injection h2 with h2 _
    cases h1; cases h2
    obtain ⟨d, hd, rfl⟩ := Option.map_eq_some_iff.mp hF
    obtain ⟨a, vs, rfl, ha, r⟩ := bo_listN gs b1
    obtain ⟨w, hw, rw⟩ := atI_pair r hd
    exact ix_list value slice pins s σ H _ y v u Q I rx ry ⟨a, vs, i, w, rfl, bo_int gs b2, .inl ha, hw, k w rw⟩ hs
  · rename_i z1 ds z2 i heq
    injection heq with h1 h2
    injection h2 with h2 _
    cases h1; cases h2
    obtain ⟨d, hd, rfl⟩ := Option.map_eq_some_iff.mp hF
    obtain ⟨a, vs, rfl, ha, r⟩ := bo_tuple gs b1
    obtain ⟨w, hw, rw⟩ := atI_pair (of_rzAll r) hd
    exact ix_tup value slice pins s σ H _ y v u Q I rx ry ⟨a, vs, i, w, rfl, bo_int gs b2, by rw [c.hK]; exact ha, hw, k w rw⟩ hs
  · rename_i z1 z z2 i heq
    injection heq with h1 h2
    injection h2 with h2 _
    cases h1; cases h2
    split at hF
    · rename_i hz
      obtain ⟨d, hd, rfl⟩ := Option.map_eq_some_iff.mp hF
      exact ix_str value slice pins s σ H x y v u Q I rx ry ⟨z, i, d, bo_strv gs b1, bo_int gs b2, by rw [← lim_line]; exact hz, hd, k _ (.str _)⟩ hs
    · cases hF
  · cases hF
end

section
variable {p : Pm} {Wx : WX} {m m1 m2 : Bool} {σ : L2.St} {G H : Hp} {fps : Fps} {ε : Ev}
theorem tB_op2 {F : List Ent → Option Ent} {f g : Ev → Res (Ent × Ev)} {Q : VK} (h : tB p Wx (m1 || m2) (fOp2 F m2 f g) σ H Q) : tOp (rB2 p.K F) (tB p Wx m1 f) (tB p Wx m2 g) σ H Q := by
  have h : tR p Wx ((m1 || m2) || false) (relB p) (fOp2 F m2 f g) σ H Q := by rw [Bool.or_false]; exact h
  have h1 : tA p Wx (m1 || m2) (fCons m2 f (fCons false g fNil)) σ H fun vs H1 => b2 (rB2 p.K F) vs H1 Q := by
    refine tR.bind (m2 := false) (g := fun as ε => match F as with | some e => .ok (e, ε) | none => .bad) (fun _ _ _ _ _ h => h.1) h fun as vs ε1 G G1 H1 fps fps1 r1 rl t s a => ?_
    cases e : F as with
    | none => rw [e] at a; exact a.elim
    | some e' =>
      rw [e] at a
      intro x y ev
      subst ev
      exact ⟨as, G1, e', r1.sub, rl.2, e, fun v hb => a v G1 H1 fps1 [] r1 ⟨rfl, hb⟩ t fun z => s (by simpa using z)⟩
  refine tR.mono (tA_cons h1) fun x H1 h2 => ?_
  have h2 : tA p Wx (m2 || false) (fCons false g fNil) σ H1 (fun xs H2 => b2 (rB2 p.K F) (x :: xs) H2 Q) := by rw [Bool.or_false]; exact h2
  refine tR.mono (tA_cons h2) fun y H2 h3 => ?_
  exact tA_nil h3 x y rfl
/-- only values -/
def only0 (f : Ev → Res (Ent × Ev)) : Ev → Res (Ent × Ev) := fun ε => (f ε).bind fun q => if q.1.1 = 0 then .ok q else .bad
theorem tE_only0 {f : Ev → Res (Ent × Ev)} {Q : VK} (h : tE p Wx m (only0 f) σ H Q) : tB p Wx m f σ H Q := by
  obtain ⟨ε, G, fps, r, a⟩ := h
  unfold only0 at a
  refine ⟨ε, G, fps, r, ?_⟩
  cases e : f ε with
  | ok q =>
    obtain ⟨⟨n, d⟩, ε1⟩ := q
    rw [e] at a
    have a : After p Wx m σ G H fps (relE p) (if n = 0 then .ok ((n, d), ε1) else .bad) Q := a
    by_cases hn : n = 0
    · subst hn
      rw [if_pos rfl] at a
      intro v G' H' fps' fp r' rl t s
      obtain ⟨rfl, rl⟩ := rl
      exact a v G' H' fps' [] r' ⟨rfl, rl⟩ t s
    · rw [if_neg hn] at a; exact a.elim
  | exc x ε1 => rw [e] at a; exact a
  | bad => rw [e] at a; exact a
end
section
variable {X : Cx} {p : Pm} {Wx : WX} {m m1 m2 : Bool} {pos : Pos} {a b : Expr} {f g : Ev → Res (Ent × Ev)}
theorem den_ixB (c : Cok X p) (ha : PE X a (tB p Wx m1 f)) (hb : PE X b (tB p Wx m2 g)) (hs : PlainIx b) : PE X (.Subscript a b pos) (tB p Wx (m1 || m2) (fOp2 ixF m2 f g)) := PE.imp (pe_ix (ix_rule c) ha hb hs) fun _ _ _ => tB_op2
theorem den_only0 (ha : PE X a (tB p Wx m f)) : PE X a (tE p Wx m (only0 f)) := PE.imp ha fun _ _ _ => tE_only0
end
/-! a name, read behind an index that may change other names -/
def ixVR (F : List Ent → Option Ent) (q : Ent) (o : Option (Option Ent)) (ε : Ev) : Res (Ent × Ev) := match o with
  | some (some e) => match F [e, q] with
    | some e' => .ok (e', ε)
    | none => .bad
  | _ => .bad
def fIxV (i : Nat) (F : List Ent → Option Ent) (g : Ev → Res (Ent × Ev)) : Ev → Res (Ent × Ev) := fun ε => match ε[i]? with
  | some (some _) => (g ε).bind fun q => ixVR F q.1 q.2[i]? q.2
  | _ => .bad
section
variable {p : Pm} {Wx : WX} {m m1 m2 : Bool} {σ : L2.St} {G H : Hp} {fps : Fps} {ε : Ev}
theorem tB_ixV {i : Nat} {F : List Ent → Option Ent} {g : Ev → Res (Ent × Ev)} {Q : VK} (h : tB p Wx m (fIxV i F g) σ H Q) : tOp (rB2 p.K F) (tVar i) (tB p Wx m g) σ H Q := by
  obtain ⟨ε, G, fps, r, a⟩ := h
  unfold fIxV at a
  split at a
  · rename_i e he
    obtain ⟨v, hv, _⟩ := r.at' i _ he
    refine ⟨v, hv, ?_⟩
    have h : tR p Wx (m || false) (relB p) (fun ε => (g ε).bind fun q => ixVR F q.1 q.2[i]? q.2) σ H Q := by
      rw [Bool.or_false]
      exact ⟨ε, G, fps, r, a⟩
    refine tR.bind (m2 := false) (g := fun q ε => ixVR F q ε[i]? ε) (fun _ _ _ _ _ h => h.1) h fun b y ε1 G1' G1 H1 fps0 fps1 r1 rl t s a => ?_
    cases e1 : ε1[i]? with
    | none => rw [e1] at a; exact a.elim
    | some o =>
      cases o with
      | none => rw [e1] at a; exact a.elim
      | some e2 =>
        rw [e1] at a
        unfold ixVR at a
        dsimp only at a
        cases hF : F [e2, b] with
        | none => rw [hF] at a; exact a.elim
        | some e' =>
          rw [hF] at a
          obtain ⟨v', hv', ho⟩ := r1.at' i e2 e1
          rw [hv] at hv'
          cases hv'
          exact ⟨[e2, b], G1, e', r1.sub, .cons ho.bo (.cons rl.2 .nil), hF, fun w hw => a w G1 H1 fps1 [] r1 ⟨rfl, hw⟩ t fun z => s (by simpa using z)⟩
  · exact a.elim
end
section
variable {X : Cx} {p : Pm} {Wx : WX} {m m1 m2 : Bool} {pos pos' : Pos} {x : Str} {i : Nat} {b : Expr} {g : Ev → Res (Ent × Ev)}
theorem den_ixV (c : Cok X p) (ha : PE X (.Name x pos') (tVar i)) (hb : PE X b (tB p Wx m g)) (hs : PlainIx b) : PE X (.Subscript (.Name x pos') b pos) (tB p Wx m (fIxV i ixF g)) := PE.imp (pe_ix (ix_rule c) ha hb hs) fun _ _ _ => tB_ixV
end
end Mb
end

section
set_option Elab.async false
set_option linter.all false
set_option maxRecDepth 100000
set_option maxHeartbeats 1000000
/-! Mb11: calls of built-ins on data, slices -/
namespace Mb
open PySem PySem.Spec PyProof.Rows L2

section
variable {X : Cx} {p : Pm}
theorem rzAll_map {K : PySem.W.Frag} {G : Hp} : ∀ {vs : List V} {ds : List D}, RzAll K G vs ds → ∀ {α : Type} (f : α → D) (g : α → V) (h : ∀ v a, Rz K G v (f a) → v = g a) (as : List α), ds = as.map f → vs = as.map g
  | _, _, .nil, _, f, g, h, as, e => by cases as with | nil => rfl | cons a t => cases e
  | _, _, .cons r t, _, f, g, h, as, e => by
    cases as with
    | nil => cases e
    | cons a s =>
      injection e with e1 e2
      subst e1
      rw [h _ _ r, rzAll_map t f g h s e2]
      rfl
theorem map_rz {K : PySem.W.Frag} {G : Hp} {α : Type} (f : α → D) (g : α → V) (h : ∀ a, Rz K G (g a) (f a)) : ∀ as : List α, RzAll K G (as.map g) (as.map f)
  | [] => .nil
  | a :: t => .cons (h a) (map_rz f g h t)
/-- ints, texts, truth values of a row of data -/
def intsOf : List D → Option (List Int)
  | [] => some []
  | .int i :: t => (intsOf t).map (i :: ·)
  | _ :: _ => none
def strsOf : List D → Option (List Str)
  | [] => some []
  | .str i :: t => (strsOf t).map (i :: ·)
  | _ :: _ => none
def boolsOf : List D → Option (List Bool)
  | [] => some []
  | .bool i :: t => (boolsOf t).map (i :: ·)
  | _ :: _ => none
theorem intsOf_eq : ∀ {ds : List D} {ns : List Int}, intsOf ds = some ns → ds = ns.map PyData.int
  | [], _, h => by cases h; rfl
  | d :: t, ns, h => by
    cases d with
    | int i =>
      obtain ⟨r, h1, rfl⟩ := Option.map_eq_some_iff.mp h
      rw [intsOf_eq h1]; rfl
    | _ => cases h
theorem strsOf_eq : ∀ {ds : List D} {ns : List Str}, strsOf ds = some ns → ds = ns.map PyData.str
  | [], _, h => by cases h; rfl
  | d :: t, ns, h => by
    cases d with
    | str i =>
      obtain ⟨r, h1, rfl⟩ := Option.map_eq_some_iff.mp h
      rw [strsOf_eq h1]; rfl
    | _ => cases h
theorem boolsOf_eq : ∀ {ds : List D} {ns : List Bool}, boolsOf ds = some ns → ds = ns.map PyData.bool
  | [], _, h => by cases h; rfl
  | d :: t, ns, h => by
    cases d with
    | bool i =>
      obtain ⟨r, h1, rfl⟩ := Option.map_eq_some_iff.mp h
      rw [boolsOf_eq h1]; rfl
    | _ => cases h
theorem intsOf_map (ns : List Int) : intsOf (ns.map PyData.int) = some ns := by
  induction ns with
  | nil => rfl
  | cons a t ih => show (intsOf (t.map PyData.int)).map _ = _; rw [ih]; rfl
theorem strsOf_map (ns : List Str) : strsOf (ns.map PyData.str) = some ns := by
  induction ns with
  | nil => rfl
  | cons a t ih => show (strsOf (t.map PyData.str)).map _ = _; rw [ih]; rfl
theorem boolsOf_map (ns : List Bool) : boolsOf (ns.map PyData.bool) = some ns := by
  induction ns with
  | nil => rfl
  | cons a t ih => show (boolsOf (t.map PyData.bool)).map _ = _; rw [ih]; rfl
theorem rz_ints {K : PySem.W.Frag} {G : Hp} {vs : List V} {ds : List D} {ns : List Int} (r : RzAll K G vs ds) (e : intsOf ds = some ns) : vs = ns.map V.int :=
  rzAll_map r PyData.int V.int (fun v a h => by cases h; rfl) ns (intsOf_eq e)
theorem rz_strs {K : PySem.W.Frag} {G : Hp} {vs : List V} {ds : List D} {ns : List Str} (r : RzAll K G vs ds) (e : strsOf ds = some ns) : vs = ns.map V.str :=
  rzAll_map r PyData.str V.str (fun v a h => by cases h; rfl) ns (strsOf_eq e)
theorem rz_bools {K : PySem.W.Frag} {G : Hp} {vs : List V} {ds : List D} {ns : List Bool} (r : RzAll K G vs ds) (e : boolsOf ds = some ns) : vs = ns.map V.bl :=
  rzAll_map r PyData.bool V.bl (fun v a h => by cases h; rfl) ns (boolsOf_eq e)

/-- the items of a list or tuple -/
theorem bo_seq {K : PySem.W.Frag} {G H : Hp} {n : Nat} {v : V} {d : D} {ds : List D} (g : Same G H) (h : Bo K G H n v d) (e : (n ≤ 1 ∧ d = .list ds) ∨ d = .tuple ds) : ∃ (a : Addr) (vs : List V), v = .ref a ∧ (SqL K H a vs ∨ SqT K H a vs) ∧ RzAll K G vs ds := by
  rcases e with ⟨hn, rfl⟩ | rfl
  · obtain ⟨a, vs, e1, e2, e3⟩ := bo_list g hn h
    exact ⟨a, vs, e1, .inl (.inl e2), e3⟩
  · obtain ⟨a, vs, e1, e2, e3⟩ := bo_tuple g h
    exact ⟨a, vs, e1, .inr e2, e3⟩
def seqOf : Ent → Option (List D)
  | (n, .list ds) => if n ≤ 1 then some ds else none
  | (_, .tuple ds) => some ds
  | _ => none
theorem seqOf_eq {e : Ent} {ds : List D} (h : seqOf e = some ds) : (e.1 ≤ 1 ∧ e.2 = .list ds) ∨ e.2 = .tuple ds := by
  obtain ⟨n, d⟩ := e
  cases d with
  | list xs =>
    simp only [seqOf] at h
    split at h
    · cases h; rename_i hn; exact .inl ⟨hn, rfl⟩
    · cases h
  | tuple xs => cases h; exact .inr rfl
  | _ => cases h

def lenF : List Ent → Option Ent
  | [(_, .str s)] => if s.length ≤ LIM then some (0, .int s.length) else none
  | [(_, .list ds)] => some (0, .int ds.length)
  | [(_, .tuple ds)] => some (0, .int ds.length)
  | _ => none
theorem call_lenP (c : Cok X p) : CallR X (.builtin "len") (rD p.K lenF) := by
  intro pins s σ H xs us Q I r q
  obtain ⟨as, G, e, gs, b, hF, k⟩ := q
  unfold lenF at hF
  split at hF
  · rename_i n z
    obtain ⟨x, rfl, b1⟩ := boOne b
    split at hF
    · rename_i hz
      cases hF
      exact call_len_str pins s σ H _ us Q I r ⟨z, by rw [bo_strv gs b1], by rw [← lim_line]; exact hz, k _ _ (PRes.here gs (.int _))⟩
    · cases hF
  · rename_i n ds
    obtain ⟨x, rfl, b1⟩ := boOne b
    cases hF
    obtain ⟨a, vs, rfl, ha, rr⟩ := bo_listN gs b1
    exact call_len_seq pins s σ H _ us Q I r ⟨a, vs, rfl, .inl (.inl ha), by rw [Paired.length rr]; exact k _ _ (PRes.here gs (.int _))⟩
  · rename_i n ds
    obtain ⟨x, rfl, b1⟩ := boOne b
    cases hF
    obtain ⟨a, vs, rfl, ha, rr⟩ := bo_tuple gs b1
    exact call_len_seq pins s σ H _ us Q I r ⟨a, vs, rfl, .inr (by rw [c.hK]; exact ha), by rw [rr.length]; exact k _ _ (PRes.here gs (.int _))⟩
  · cases hF
def absF : List Ent → Option Ent
  | [(_, .int i)] => some (0, .int (if i < 0 then -i else i))
  | _ => none
theorem call_absP : CallR X (.builtin "abs") (rD p.K absF) := by
  intro pins s σ H xs us Q I r q
  obtain ⟨as, G, e, gs, b, hF, k⟩ := q
  unfold absF at hF
  split at hF
  · obtain ⟨x, rfl, b1⟩ := boOne b
    cases hF
    exact call_abs pins s σ H _ us Q I r ⟨_, by rw [bo_int gs b1], k _ _ (PRes.here gs (.int _))⟩
  · cases hF
def intFn : List Ent → Option Ent
  | [(_, .int i)] => some (0, .int i)
  | [(_, .str a)] => if a.length ≤ 640 then (PySem.intText? a).map fun n => (0, .int n) else none
  | _ => none
theorem call_intP : CallR X (.type "int") (rD p.K intFn) := by
  intro pins s σ H xs us Q I r q
  obtain ⟨as, G, e, gs, b, hF, k⟩ := q
  unfold intFn at hF
  split at hF
  · obtain ⟨x, rfl, b1⟩ := boOne b
    cases hF
    exact call_int1 pins s σ H _ us Q I r (.inl ⟨_, by rw [bo_int gs b1], k _ _ (PRes.here gs (.int _))⟩)
  · rename_i n z
    obtain ⟨x, rfl, b1⟩ := boOne b
    split at hF
    · rename_i hz
      obtain ⟨i, hi, rfl⟩ := Option.map_eq_some_iff.mp hF
      exact call_int_str pins s σ H _ us Q I r ⟨z, i, by rw [bo_strv gs b1], hi, hz, k _ _ (PRes.here gs (.int _))⟩
    · cases hF
  · cases hF
def strFn : List Ent → Option Ent
  | [(_, .int i)] => if i.natAbs.log2 < 1920 then some (0, .str (toString i)) else none
  | _ => none
theorem call_strP : CallR X (.type "str") (rD p.K strFn) := by
  intro pins s σ H xs us Q I r q
  obtain ⟨as, G, e, gs, b, hF, k⟩ := q
  unfold strFn at hF
  split at hF
  · obtain ⟨x, rfl, b1⟩ := boOne b
    split at hF
    · rename_i hz
      cases hF
      exact call_str_int pins s σ H _ us Q I r ⟨_, by rw [bo_int gs b1], hz, k _ _ (PRes.here gs (.str _))⟩
    · cases hF
  · cases hF
def tupFn : List Ent → Option Ent
  | [(n, .list ds)] => if n ≤ 1 then some (0, .tuple ds) else none
  | [(_, .tuple ds)] => some (0, .tuple ds)
  | _ => none
theorem call_tupP (c : Cok X p) : CallR X (.type "tuple") (rD p.K tupFn) := by
  intro pins s σ H xs us Q I r q
  obtain ⟨as, G, e, gs, b, hF, k⟩ := q
  unfold tupFn at hF
  split at hF
  · obtain ⟨x, rfl, b1⟩ := boOne b
    split at hF
    · rename_i hn
      cases hF
      obtain ⟨a, vs, rfl, ha, rr⟩ := bo_list gs hn b1
      exact call_tuple_of pins s σ H _ us Q I r ⟨a, vs, rfl, .inl ⟨.inl ha, fun l hl => k _ _ (PRes.tup gs hl rr)⟩⟩
    · cases hF
  · obtain ⟨x, rfl, b1⟩ := boOne b
    cases hF
    obtain ⟨a, vs, rfl, ha, rr⟩ := bo_tuple gs b1
    exact call_tuple_of pins s σ H _ us Q I r ⟨a, vs, rfl, .inr ⟨by rw [c.hK]; exact ha, k _ _ (PRes.here gs (bo_tup0 b1))⟩⟩
  · cases hF
def lstFn : List Ent → Option Ent
  | [a] => (seqOf a).map fun ds => (1, .list ds)
  | _ => none
theorem call_lstP (c : Cok X p) : CallR X (.type "list") (rD p.K lstFn) := by
  intro pins s σ H xs us Q I r q
  obtain ⟨as, G, e, gs, b, hF, k⟩ := q
  unfold lstFn at hF
  split at hF
  · obtain ⟨x, rfl, b1⟩ := boOne b
    obtain ⟨ds, hd, rfl⟩ := Option.map_eq_some_iff.mp hF
    obtain ⟨a, vs, rfl, ha, rr⟩ := bo_seq gs b1 (seqOf_eq hd)
    exact call_list_of pins s σ H _ us Q I r ⟨a, vs, rfl, by rw [c.hK]; exact ha, fun l hl => k _ _ (PRes.lst gs hl rr)⟩
  · cases hF
def sumFn : List Ent → Option Ent
  | [(n, .list ds)] => if n ≤ 1 then (intsOf ds).map fun ns => (0, .int ns.sum) else none
  | _ => none
theorem call_sumP (c : Cok X p) : CallR X (.builtin "sum") (rD p.K sumFn) := by
  intro pins s σ H xs us Q I r q
  obtain ⟨as, G, e, gs, b, hF, k⟩ := q
  unfold sumFn at hF
  split at hF
  · obtain ⟨x, rfl, b1⟩ := boOne b
    split at hF
    · rename_i hn
      obtain ⟨ns, hd, rfl⟩ := Option.map_eq_some_iff.mp hF
      obtain ⟨a, vs, rfl, ha, rr⟩ := bo_list gs hn b1
      have e := rz_ints rr hd
      subst e
      exact cr_sum c.calm pins s σ H _ us Q I r ⟨a, ns, rfl, .inl ha, k _ _ (PRes.here gs (.int _))⟩
    · cases hF
  · cases hF
def allFn (any : Bool) : List Ent → Option Ent
  | [(n, .list ds)] => if n ≤ 1 then (boolsOf ds).map fun bs => (0, .bool (if any then bs.any id else bs.all id)) else none
  | _ => none
theorem call_allP (c : Cok X p) : CallR X (.builtin "all") (rD p.K (allFn false)) := by
  intro pins s σ H xs us Q I r q
  obtain ⟨as, G, e, gs, b, hF, k⟩ := q
  unfold allFn at hF
  split at hF
  · obtain ⟨x, rfl, b1⟩ := boOne b
    split at hF
    · rename_i hn
      obtain ⟨ns, hd, rfl⟩ := Option.map_eq_some_iff.mp hF
      obtain ⟨a, vs, rfl, ha, rr⟩ := bo_list gs hn b1
      have e := rz_bools rr hd
      subst e
      exact cr_all c.calm pins s σ H _ us Q I r ⟨a, ns, rfl, .inl ha, k _ _ (PRes.bl gs)⟩
    · cases hF
  · cases hF
theorem call_anyP (c : Cok X p) : CallR X (.builtin "any") (rD p.K (allFn true)) := by
  intro pins s σ H xs us Q I r q
  obtain ⟨as, G, e, gs, b, hF, k⟩ := q
  unfold allFn at hF
  split at hF
  · obtain ⟨x, rfl, b1⟩ := boOne b
    split at hF
    · rename_i hn
      obtain ⟨ns, hd, rfl⟩ := Option.map_eq_some_iff.mp hF
      obtain ⟨a, vs, rfl, ha, rr⟩ := bo_list gs hn b1
      have e := rz_bools rr hd
      subst e
      exact cr_any c.calm pins s σ H _ us Q I r ⟨a, ns, rfl, .inl ha, k _ _ (PRes.bl gs)⟩
    · cases hF
  · cases hF
mutual
theorem noDict_of_plain : ∀ {d : D}, d.plain = true → d.hasDict = false
  | .none, _ => rfl
  | .bool _, _ => rfl
  | .int _, _ => rfl
  | .str _, _ => rfl
  | .list xs, h => noDictAll (xs := xs) (by simpa [PyData.plain] using h)
  | .tuple xs, h => noDictAll (xs := xs) (by simpa [PyData.plain] using h)
  | .dict _, h => by simp [PyData.plain] at h
theorem noDictAll : ∀ {xs : List D}, PyData.plainAll xs = true → PyData.hasDictAll xs = false
  | [], _ => rfl
  | x :: t, h => by
    simp only [PyData.plainAll, Bool.and_eq_true] at h
    show (PyData.hasDict x || PyData.hasDictAll t) = false
    rw [noDict_of_plain h.1, noDictAll h.2]; rfl
end
/-- repr of data -/
def reprFn : List Ent → Option Ent
  | [(_, d)] => if d.plain && d.showable && decide (d.depth ≤ 60) && decide (d.shown.length ≤ LIM) then some (0, .str d.shown) else none
  | _ => none
theorem call_reprP (c : Cok X p) (hg : X.A.guards = some []) : CallR X (.builtin "repr") (rD p.K reprFn) := by
  intro pins s σ H xs us Q I r q
  obtain ⟨as, G, e, gs, b, hF, k⟩ := q
  unfold reprFn at hF
  split at hF
  · rename_i n d
    obtain ⟨x, rfl, b1⟩ := boOne b
    split at hF
    · rename_i hc
      cases hF
      simp only [Bool.and_eq_true, decide_eq_true_eq] at hc
      obtain ⟨⟨⟨h1, h2⟩, h3⟩, h4⟩ := hc
      obtain ⟨u, rfl, rx⟩ := vals1 r
      obtain ⟨as, rd⟩ := reads_bo c I gs b1 rx h1
      have un := c.un
      have fin : ∀ (t : Nat), EP X pins σ Q (.str d.shown t) { s with toks := s.toks + 1 } := fun t => ⟨.str _, H, I.tok _, ⟨_, rfl⟩, k _ _ (PRes.here gs (.str _))⟩
      cases rd with
      | none => exact P.repr_of_none (fin _)
      | bool b => exact P.repr_of_bool (fin _)
      | int i t => exact P.repr_of_int (by simpa [PyData.showable] using h2) (fin _)
      | str x t => exact P.repr_of_str (fin _) (by rw [← lim_line]; exact h4)
      | list e1 e2 e3 e4 =>
        exact repr_of_reads' (Reads.list e1 e2 e3 e4) h2 (fun z => by rw [noDict_of_plain h1] at z; cases z) hg (by omega) (fun _ _ z => z) (fun h' u tk hk => ⟨.str _, H, I.kept hk, ⟨_, rfl⟩, k _ _ (PRes.here gs (.str _))⟩) (by rw [← lim_line]; exact h4)
      | tuple e1 e2 e3 e4 =>
        exact repr_of_reads' (Reads.tuple e1 e2 e3 e4) h2 (fun z => by rw [noDict_of_plain h1] at z; cases z) hg (by omega) (fun _ _ z => z) (fun h' u tk hk => ⟨.str _, H, I.kept hk, ⟨_, rfl⟩, k _ _ (PRes.here gs (.str _))⟩) (by rw [← lim_line]; exact h4)
      | dict _ _ _ _ _ => simp [PyData.plain] at h1
    · cases hF
  · cases hF
end
end Mb
end

section
set_option Elab.async false
set_option linter.all false
set_option maxRecDepth 100000
set_option maxHeartbeats 1000000
/-! Mb12: slices, methods of texts, isinstance, unary minus -/
namespace Mb
open PySem PySem.Spec PyProof.Rows L2

section
variable {X : Cx} {p : Pm}
def cutD (xs : List D) (lo hi : Option Int) : List D := (xs.drop (HT.sIx xs.length 0 lo)).take (HT.sIx xs.length xs.length hi - HT.sIx xs.length 0 lo)
theorem cut_rz {K : PySem.W.Frag} {G : Hp} {vs : List V} {ds : List D} (r : RzAll K G vs ds) (lo hi : Option Int) : RzAll K G (cutV vs lo hi) (cutD ds lo hi) := by
  unfold cutV cutD
  rw [r.length]
  exact (r.drop _).take _
def slF : Ent → Option Int → Option Int → Option Ent
  | (_, .str s), lo, hi => if s.length ≤ LIM then some (0, .str (cutS s lo hi)) else none
  | (n, .list ds), lo, hi => if n ≤ 1 then some (1, .list (cutD ds lo hi)) else none
  | (_, .tuple ds), lo, hi => some (0, .tuple (cutD ds lo hi))
  | _, _, _ => none
def rSlD (K : PySem.W.Frag) (F : Ent → Option Int → Option Int → Option Ent) : V → Option Int → Option Int → Hp → VK → Prop := fun v lo hi H Q =>
  ∃ (a : Ent) (G : Hp) (e : Ent), Same G H ∧ Bo K G H a.1 v a.2 ∧ F a lo hi = some e ∧ ∀ v H', PRes K G H e v H' → Q v H'
theorem okSlD {K : PySem.W.Frag} {F : Ent → Option Int → Option Int → Option Ent} : OkS K (rSlD K F) F := fun G H v a lo hi e Q g b h k => ⟨a, G, e, g, b, h, k⟩
theorem cutD_whole {ds : List D} {lo hi : Option Int} (h : HT.sIx ds.length 0 lo = 0 ∧ HT.sIx ds.length ds.length hi = ds.length) : cutD ds lo hi = ds := by
  unfold cutD
  rw [h.1, h.2]
  simp
theorem sl_rule (c : Cok X p) : SlR X (rSlD p.K slF) := by
  intro pins s σ H x v vl vu lo hi sl Q I rx hs pl pu q
  obtain ⟨a, G, e, gs, b, hF, k⟩ := q
  unfold slF at hF
  split at hF
  · rename_i z0 n z
    split at hF
    · rename_i hz
      cases hF
      exact sl_str pins s σ H x v vl vu _ _ sl Q I rx hs pl pu ⟨z, bo_strv gs b, by rw [← lim_line]; exact hz, k _ _ (PRes.here gs (.str _))⟩
    · cases hF
  · rename_i n ds lo hi
    split at hF
    · rename_i hn
      cases hF
      obtain ⟨a, vs, rfl, ha, rr⟩ := bo_list gs hn b
      exact sl_list pins s σ H _ v vl vu _ _ sl Q I rx hs pl pu ⟨a, vs, rfl, .inl ha, fun q hq => k _ _ (PRes.lst gs hq (cut_rz rr _ _))⟩
    · cases hF
  · rename_i n ds lo hi
    cases hF
    obtain ⟨a, vs, rfl, ha, rr⟩ := bo_tuple gs b
    refine sl_tupA pins s σ H _ v vl vu _ _ sl Q I rx hs pl pu ⟨a, vs, rfl, by rw [c.hK]; exact ha, fun hw => ?_, fun _ q hq => k _ _ (PRes.tup gs hq (cut_rz rr _ _))⟩
    rw [rr.length] at hw
    rw [cutD_whole hw] at k
    exact k _ _ (PRes.here gs (bo_tup0 b))
  · cases hF

/-! ### methods of texts -/
def rM (K : PySem.W.Frag) (F : List Ent → Option Ent) : V → List V → Hp → VK → Prop := fun x xs H Q => ∀ y, xs = [y] → rD K F [x, y] H Q
theorem okM {K : PySem.W.Frag} {F : List Ent → Option Ent} : OkL K (b2 fun x y H Q => rM K F x [y] H Q) F := fun G H vs as e Q g b h k x y ev y' ey => by
  cases ey
  subst ev
  exact ⟨as, G, e, g, b, h, k⟩
def splitF : List Ent → Option Ent
  | [(_, .str a), (_, .str b)] => if b.length ≠ 0 ∧ a.length + 2 ≤ LIM then some (1, .list ((Txt.split a b).map PyData.str)) else none
  | _ => none
theorem one_arg {xs : List V} {us : List Value} (h : Vals xs us) (hl : us.length = 1) : ∃ y, xs = [y] := by
  have := h.length
  cases xs with
  | nil => simp at this; omega
  | cons y t => cases t with
    | nil => exact ⟨y, rfl⟩
    | cons _ _ => simp at this; omega
def rM1 (K : PySem.W.Frag) (F : List Ent → Option Ent) : V → List V → Hp → VK → Prop := fun x xs H Q => ∃ y, xs = [y] ∧ rD K F [x, y] H Q
theorem okM1 {K : PySem.W.Frag} {F : List Ent → Option Ent} : OkL K (b2 fun x y H Q => rM1 K F x [y] H Q) F := fun G H vs as e Q g b h k x y ev => by
  subst ev
  exact ⟨y, rfl, as, G, e, g, b, h, k⟩
theorem mt_splitP : MtR X "str.split" (rM1 p.K splitF) := by
  intro pins s σ H x xs v us Q I rx rs q
  obtain ⟨y, rfl, as, G, e, gs, b, hF, k⟩ := q
  obtain ⟨⟨n1, d1⟩, ⟨n2, d2⟩, rfl, b1, b2⟩ := bo2 b
  unfold splitF at hF
  split at hF
  · rename_i z1 i z2 j heq
    injection heq with h1 h2
    injection h2 with h2 _
    cases h1; cases h2
    split at hF
    · rename_i hc
      cases hF
      exact mt_split pins s σ H x _ v us Q I rx rs ⟨i, j, bo_strv gs b1, by rw [bo_strv gs b2], by simpa using hc.1, by rw [← lim_line]; exact hc.2, fun q hq => k _ _ (PRes.lst gs hq (map_rz PyData.str V.str (fun a => .str a) _))⟩
    · cases hF
  · cases hF
def partF : List Ent → Option Ent
  | [(_, .str a), (_, .str b)] => if b.length ≠ 0 ∧ a.length ≤ LIM then some (0, .tuple [.str (Txt.partition a b).1, .str (Txt.partition a b).2.1, .str (Txt.partition a b).2.2]) else none
  | _ => none
theorem mt_partP : MtR X "str.partition" (rM1 p.K partF) := by
  intro pins s σ H x xs v us Q I rx rs q
  obtain ⟨y, rfl, as, G, e, gs, b, hF, k⟩ := q
  obtain ⟨⟨n1, d1⟩, ⟨n2, d2⟩, rfl, b1, b2⟩ := bo2 b
  unfold partF at hF
  split at hF
  · rename_i z1 i z2 j heq
    injection heq with h1 h2
    injection h2 with h2 _
    cases h1; cases h2
    split at hF
    · rename_i hc
      cases hF
      exact mt_partition pins s σ H x _ v us Q I rx rs ⟨i, j, bo_strv gs b1, by rw [bo_strv gs b2], by simpa using hc.1, by rw [← lim_line]; exact hc.2, fun q hq => k _ _ (PRes.tup gs hq (.cons (.str _) (.cons (.str _) (.cons (.str _) .nil))))⟩
    · cases hF
  · cases hF
def joinF : List Ent → Option Ent
  | [(_, .str a), b] => (seqOf b).bind fun ds => (strsOf ds).bind fun ys => if (ys.map (·.length)).sum + ys.length * a.length ≤ LIM then some (0, .str (Txt.join a ys)) else none
  | _ => none
theorem mt_joinP (c : Cok X p) : MtR X "str.join" (rM1 p.K joinF) := by
  intro pins s σ H x xs v us Q I rx rs q
  obtain ⟨y, rfl, as, G, e, gs, b, hF, k⟩ := q
  obtain ⟨⟨n1, d1⟩, a2, rfl, b1, b2⟩ := bo2 b
  unfold joinF at hF
  split at hF
  · rename_i z1 i b' heq
    injection heq with h1 h2
    injection h2 with h2 _
    cases h1; cases h2
    obtain ⟨ds, hd, hF⟩ := Option.bind_eq_some_iff.mp hF
    obtain ⟨ys, hy, hF⟩ := Option.bind_eq_some_iff.mp hF
    split at hF
    · rename_i hc
      cases hF
      obtain ⟨a, vs, rfl, ha, rr⟩ := bo_seq gs b2 (seqOf_eq hd)
      have ev := rz_strs rr hy
      subst ev
      exact mt_join pins s σ H x _ v us Q I rx rs ⟨i, a, ys, bo_strv gs b1, rfl, by rw [c.hK]; exact ha, hc, k _ _ (PRes.here gs (.str _))⟩
    · cases hF
  · cases hF
/-- -x -/
def negF : Ent → Option Ent
  | (_, .int i) => some (0, .int (-i))
  | _ => none
end

section
variable {X : Cx} {p : Pm} {Wx : WX} {m m1 m2 : Bool} {pos apos cpos : Pos} {a b e o : Expr} {es : List Expr} {f g : Ev → Res (Ent × Ev)} {σ : L2.St} {H : Hp}
def fUn (F : Ent → Option Ent) (f : Ev → Res (Ent × Ev)) : Ev → Res (Ent × Ev) := fun ε => (f ε).bind fun q => match F q.1 with
  | some e => .ok (e, q.2)
  | none => .bad
def OkU (K : PySem.W.Frag) (r : V → Hp → VK → Prop) (F : Ent → Option Ent) : Prop :=
  ∀ (G H : Hp) (v : V) (a e : Ent) (Q : VK), Same G H → Bo K G H a.1 v a.2 → F a = some e → (∀ v H', PRes K G H e v H' → Q v H') → r v H Q
theorem tE_un {r : V → Hp → VK → Prop} {F : Ent → Option Ent} (ok : OkU p.K r F) {Q : VK} (h : tE p Wx m (fUn F f) σ H Q) : tB p Wx m f σ H fun x H1 => r x H1 Q := by
  have h : tR p Wx (m || false) (relE p) (fUn F f) σ H Q := by rw [Bool.or_false]; exact h
  refine tR.bind (m2 := false) (g := fun a ε => match F a with | some e => .ok (e, ε) | none => .bad) (fun _ _ _ _ _ h => h.1) h fun b v ε1 G G1 H1 fps fps1 r1 rl t s a => ?_
  cases e2 : F b with
  | none => rw [e2] at a; exact a.elim
  | some en =>
    rw [e2] at a
    refine ok G1 H1 v b en Q r1.sub rl.2 e2 fun v' H' pr => ?_
    obtain ⟨G', fp, r3, ow, t3, sH⟩ := pr.rel r1
    exact a v' G' H' fps1 fp r3 ow (t.trans t3) fun z => (s (by simpa using z)).trans sH
theorem ok_neg {K : PySem.W.Frag} : OkU K (rU fun i => .int (-i)) negF := by
  intro G H v a e Q g b h k
  obtain ⟨n, d⟩ := a
  cases d with
  | int i => cases h; exact ⟨i, bo_int g b, k _ _ (PRes.here g (.int _))⟩
  | _ => cases h
theorem den_neg (ha : PE X a (tB p Wx m f)) : PE X (.UnaryOp .USub a pos) (tE p Wx m (fUn negF f)) := PE.imp (pe_un un_neg ha) fun _ _ _ => tE_un ok_neg
theorem den_not (hK : X.K = p.K) (ha : PE X a (tB p Wx m f)) : PE X (.UnaryOp .Not a pos) (tE p Wx m (fNot f)) := PE.imp (pe_notT ha) fun _ _ _ h => by rw [hK]; exact tE_not h
/-- f'{x}' -/
def fmtF : Ent → Option Ent
  | (_, .str s) => if s.length ≤ LIM then some (0, .str s) else none
  | (_, .int i) => if i.natAbs.log2 < 1920 then some (0, .str (toString i)) else none
  | _ => none
theorem ok_fmt {K : PySem.W.Frag} : OkU K (fun x H1 Q => (∃ y : Str, x = .str y ∧ y.length ≤ sizeLine ∧ Q (.str y) H1) ∨ ∃ i : Int, x = .int i ∧ i.natAbs.log2 < 1920 ∧ Q (.str (toString i)) H1) fmtF := by
  intro G H v a e Q g b h k
  obtain ⟨n, d⟩ := a
  cases d with
  | int i =>
    simp only [fmtF] at h
    split at h
    · rename_i hz; cases h; exact .inr ⟨i, bo_int g b, hz, k _ _ (PRes.here g (.str _))⟩
    · cases h
  | str i =>
    simp only [fmtF] at h
    split at h
    · rename_i hz; cases h; exact .inl ⟨i, bo_strv g b, by rw [← lim_line]; exact hz, k _ _ (PRes.here g (.str _))⟩
    · cases h
  | _ => cases h
theorem den_fmt (ha : PE X a (tB p Wx m f)) : PE X (.FormattedValue a (-1) none pos) (tE p Wx m (fUn fmtF f)) := PE.imp (pe_fmt ha) fun _ _ _ => tE_un ok_fmt
/-! ### isinstance -/
def isTy (T : String) (d : D) : Option Bool :=
  if T = "str" then some d.isStr else if T = "int" then some d.isInt else if T = "tuple" then some d.isTuple else if T = "bool" then some d.isBool else if T = "list" then some d.isList else none
def isiF (T : String) : Ent → Option Ent := fun a => if a.2.plain = true then (isTy T a.2).map fun b => (0, .bool b) else none
theorem call_isiP (c : Cok X p) (T : String) : CallR X (.builtin "isinstance") (fun xs H Q => ∃ (x : V) (a : Ent) (G : Hp) (e : Ent), xs = [x, .ty T] ∧ Same G H ∧ Bo p.K G H a.1 x a.2 ∧ isiF T a = some e ∧ ∀ v H', PRes p.K G H e v H' → Q v H') := by
  intro pins s σ H xs us Q I r q
  obtain ⟨x, a, G, e, rfl, gs, b, hF, k⟩ := q
  obtain ⟨u, u2, rfl, rx, r2⟩ := vals2 r
  obtain rfl : u2 = Value.type T := r2
  unfold isiF at hF
  split at hF
  · rename_i hp
    obtain ⟨k', hk, rfl⟩ := Option.map_eq_some_iff.mp hF
    obtain ⟨as, rd⟩ := reads_bo c I gs b rx hp
    have fin : ∀ tk, EP X pins σ Q (.bool k') { s with toks := tk } := fun tk => ⟨.bl k', H, I.tok tk, rfl, k _ _ (PRes.bl gs)⟩
    unfold isTy at hk
    split at hk
    · rename_i e; subst e; cases hk; exact PySem.W.isinstance_str_data rd fun tk _ => fin tk
    · split at hk
      · rename_i e; subst e; cases hk; exact PySem.W.isinstance_int_data rd fun tk _ => fin tk
      · split at hk
        · rename_i e; subst e; cases hk; exact PySem.W.isinstance_tuple_data rd fun tk _ => fin tk
        · split at hk
          · rename_i e; subst e; cases hk; exact PySem.W.isinstance_bool_data rd fun tk _ => fin tk
          · split at hk
            · rename_i e; subst e; cases hk; exact PySem.W.isinstance_list_data rd fun tk _ => fin tk
            · cases hk
  · cases hF
theorem den_isi {T : String} {x : Str} {p1 p2 : Pos} (c : Cok X p) (hg : Gl X "isinstance") (hm : X.mg "isinstance" = none) (hgT : Gl X x) (hmT : X.mg x = none) (hvT : bootBuiltins x = some (.type T)) (hv : bootBuiltins "isinstance" = some (.builtin "isinstance"))
    (hnT : x ≠ "__name__") (hdT : (x == ("__debug__" : Str)) = false) (ha : PE X a (tB p Wx m f)) (hs : starEach [a, .Name x p2] X.env = (false, eval a X.env) :: starEach [.Name x p2] X.env) :
    PE X (.Call (.Name "isinstance" p1) [a, .Name x p2] [] pos) (tE p Wx m (fUn (isiF T) f)) := by
  have hT : PE X (.Name x p2) (tC (.ty T)) := pe_bltn hgT hmT hvT rfl hnT hdT
  refine PE.imp (pe_callB (call_isiP c T) hg hm hv (pa_cons ha (pa_cons hT pa_nil) hs) (by decide) (by decide) hs) fun σ H Q h => ?_
  have h1 := tE_un (r := fun v H Q => ∃ (a : Ent) (G : Hp) (e : Ent), Same G H ∧ Bo p.K G H a.1 v a.2 ∧ isiF T a = some e ∧ ∀ v H', PRes p.K G H e v H' → Q v H') (fun G H v a e Q g b h k => ⟨a, G, e, g, b, h, k⟩) h
  refine tR.mono h1 fun x' H' ⟨a', G, e, h2, h3, h4, h5⟩ => ?_
  exact ⟨x', a', G, e, rfl, h2, h3, h4, h5⟩
end

/-! ### a < b < c -/
section
variable {X : Cx} {p : Pm} {Wx : WX} {m : Bool} {pos : Pos} {a b c : Expr} {σ : L2.St} {H : Hp}
def fChain (F F' : List Ent → Option Ent) (f g h : Ev → Res (Ent × Ev)) : Ev → Res (Ent × Ev) := fun ε => (f ε).bind fun x => (g x.2).bind fun y => match F [x.1, y.1] with
  | some (0, .bool k) => if k = true then (h y.2).bind fun w => match F' [y.1, w.1] with
      | some e => .ok (e, w.2)
      | none => .bad
    else .ok ((0, .bool false), y.2)
  | _ => .bad
theorem tE_chain {r r' : R2} {F F' : List Ent → Option Ent} (ok : OkL p.K (b2 r) F) (ok' : OkL p.K (b2 r') F') {f g h : Ev → Res (Ent × Ev)} {Q : VK} (hh : tE p Wx m (fChain F F' f g h) σ H Q) :
    tChain r r' (tB p Wx m f) (tB p Wx false g) (tB p Wx false h) σ H Q := by
  have hh : tR p Wx (m || false) (relE p) (fChain F F' f g h) σ H Q := by rw [Bool.or_false]; exact hh
  refine tR.bind (m2 := false) (g := fun x ε => (g ε).bind fun y => match F [x, y.1] with | some (0, .bool k) => (if k = true then (h y.2).bind fun w => (match F' [y.1, w.1] with | some e => .ok (e, w.2) | none => .bad) else .ok ((0, .bool false), y.2)) | _ => .bad) (fun _ _ _ _ _ h => h.1) hh
    fun x vx ε1 G G1 H1 fps fps1 r1 rlx t s a => ?_
  refine ⟨ε1, G1, fps1, r1, ?_⟩
  cases e : g ε1 with
  | exc z ε2 => rw [e] at a; exact fun cls d G2 H2 fps2 r2 t2 ex => a cls d G2 H2 fps2 r2 (t.trans t2) ex
  | bad => rw [e] at a; exact a
  | ok q =>
    obtain ⟨y, ε2⟩ := q
    rw [e] at a
    intro vy G2 H2 fps2 fp r2 rly t2 s2
    obtain ⟨rfl, rly⟩ := rly
    have bx : Bo p.K G2 H2 x.1 vx x.2 := Bo.same t2.grow (.inr (s2 rfl)) rlx.2
    replace a : After p Wx (m || false) σ G H fps (relE p) (match F [x, y] with | some (0, .bool k) => (if k = true then (h ε2).bind fun w => (match F' [y, w.1] with | some e => .ok (e, w.2) | none => .bad) else .ok ((0, .bool false), ε2)) | _ => .bad) Q := a
    split at a
    · rename_i k hF
      refine ok G2 H2 [vx, vy] [x, y] _ _ r2.sub (.cons bx (.cons rly .nil)) hF (fun z H3 pr => ?_) vx vy rfl
      obtain ⟨G3, fp3, r3, o3, t3, s3⟩ := pr.rel r2
      obtain ⟨rfl, o3⟩ := o3
      cases o3
      refine ⟨k, rfl, ?_⟩
      cases k with
      | false =>
        rw [if_neg Bool.false_ne_true] at a ⊢
        exact a.val r3 (.bl _) ((t.trans t2).trans t3) fun z => ((s (by simpa using z)).trans (s2 rfl)).trans s3
      | true =>
        rw [if_pos rfl] at a ⊢
        refine ⟨ε2, G3, fps2, r3, ?_⟩
        cases e3 : h ε2 with
        | exc z ε3 => rw [e3] at a; exact fun cls d G4 H4 fps4 r4 t4 ex => a cls d G4 H4 fps4 r4 (((t.trans t2).trans t3).trans t4) ex
        | bad => rw [e3] at a; exact a
        | ok q =>
          obtain ⟨w, ε3⟩ := q
          rw [e3] at a
          intro vw G4 H4 fps4 fp r4 rlw t4 s4
          obtain ⟨rfl, rlw⟩ := rlw
          have by' : Bo p.K G4 H4 y.1 vy y.2 := Bo.same (t3.trans t4).grow (.inr (s3.trans (s4 rfl))) rly
          replace a : After p Wx (m || false) σ G H fps (relE p) (match F' [y, w] with | some e => .ok (e, ε3) | none => .bad) Q := a
          split at a
          · rename_i en hF'
            refine ok' G4 H4 [vy, vw] [y, w] en Q r4.sub (.cons by' (.cons rlw .nil)) hF' (fun z H5 pr => ?_) vy vw rfl
            obtain ⟨G5, fp5, r5, o5, t5, s5⟩ := pr.rel r4
            exact a z G5 H5 fps4 fp5 r5 o5 ((((t.trans t2).trans t3).trans t4).trans t5) fun z => ((((s (by simpa using z)).trans (s2 rfl)).trans s3).trans (s4 rfl)).trans s5
          · exact a.elim
    · exact a.elim
theorem den_chain {op op' : CmpOp} {r r' : R2} {F F' : List Ent → Option Ent} {f g h : Ev → Res (Ent × Ev)} (ho : OpR X (compareOp op) r) (ho' : OpR X (compareOp op') r') (ok : OkL p.K (b2 r) F) (ok' : OkL p.K (b2 r') F') (ha : PE X a (tB p Wx m f)) (hb : PE X b (tB p Wx false g)) (hc : PE X c (tB p Wx false h))
    (hm : lastMarks [op, op'] [b, c] = false) : PE X (.Compare a [op, op'] [b, c] pos) (tE p Wx m (fChain F F' f g h)) := PE.imp (pe_chain ho ho' ha hb hc hm) fun _ _ _ => tE_chain ok ok'
theorem den_chainT {op op' : CmpOp} {r r' : R2} {F F' : List Ent → Option Ent} {f g h : Ev → Res (Ent × Ev)} (ho : OpR X (compareOp op) r) (ho' : OpR X (compareOp op') r') (ok : OkL p.K (b2 r) F) (ok' : OkL p.K (b2 r') F') (ha : PE X a (tB p Wx m f)) (hb : PE X b (tB p Wx false g)) (hc : PE X c (tB p Wx false h))
    (hm : lastMarks [op, op'] [b, c] = false) : PT X (.Compare a [op, op'] [b, c] pos) (tT p Wx m (fBool (fChain F F' f g h))) := PT.imp (pt_chain ho ho' ha hb hc hm) fun _ _ _ h => tE_chain ok ok' (tE_bool h)
end
end Mb
end

section
set_option Elab.async false
set_option linter.all false
set_option maxRecDepth 100000
set_option maxHeartbeats 1000000
/-! Mb13: statements -/
namespace Mb
open PySem PySem.Spec PyProof.Rows L2

inductive Fl where
  | next | brk | cont
  | ret (e : Ent)

section
variable {K : PySem.W.Frag} {ε : Ev} {σ : L2.St} {G H : Hp} {fps : Fps} {fp : List Addr}
/-- a temporary is let go -/
theorem Rel.drop (r : Rel K ε σ G H fps fp) : Rel K ε σ G H fps [] where
  len := r.len
  sub := r.sub
  off := fun a w => r.off a (w.elim (fun z => nomatch z) Or.inr)
  nd := r.nd
  dis := r.dis
  tnd := .nil
  tdis := fun _ _ h => nomatch h
  at' := r.at'
theorem Wf.drop {a : Addr} (h : Wf fps [] a) : Wf fps fp a := h.elim (fun z => nomatch z) Or.inr
theorem Tr.drop {G0 H0 : Hp} {W0 : Addr → Prop} (t : Tr G0 H0 W0 G H (Wf fps fp)) : Tr G0 H0 W0 G H (Wf fps []) := ⟨t.keep, t.there, t.grow, t.new, fun a w => t.wnew a w.drop⟩
/-- a temporary becomes a variable's -/
theorem Rel.assign (r : Rel K ε σ G H fps fp) (i : Nat) {e : Ent} {v : V} (o : Ow K G H e.1 v e.2 fp) : Rel K (ε.set i (some e)) (σ.set i (some v)) G H (setF fps i fp) [] where
  len := by rw [List.length_set, List.length_set]; exact r.len
  sub := r.sub
  off := fun a w => by
    rcases w with w | ⟨j, w⟩
    · cases w
    · by_cases e : j = i
      · subst e; rw [setF_same] at w; exact r.off a (.inl w)
      · rw [setF_ne e] at w; exact r.off a (.inr ⟨j, w⟩)
  nd := fun j => by
    by_cases e : j = i
    · subst e; rw [setF_same]; exact r.tnd
    · rw [setF_ne e]; exact r.nd j
  dis := fun j k a h1 h2 => by
    by_cases e : j = i
    · by_cases e' : k = i
      · rw [e, e']
      · subst e; rw [setF_same] at h1; rw [setF_ne e'] at h2; exact absurd h2 (r.tdis k a h1)
    · rw [setF_ne e] at h1
      by_cases e' : k = i
      · subst e'; rw [setF_same] at h2; exact absurd h1 (r.tdis j a h2)
      · rw [setF_ne e'] at h2; exact r.dis j k a h1 h2
  tnd := .nil
  tdis := fun _ _ h => nomatch h
  at' := fun j e' he => by
    by_cases q : j = i
    · subst q
      have hj : j < ε.length := by
        by_cases hj : j < ε.length
        · exact hj
        · rw [List.getElem?_eq_none (by rw [List.length_set]; omega)] at he; cases he
      rw [List.getElem?_set_self hj] at he
      cases he
      rw [setF_same]
      exact ⟨v, List.getElem?_set_self (by rw [r.len]; exact hj), o⟩
    · rw [List.getElem?_set_ne (Ne.symm q)] at he
      obtain ⟨u, h1, h2⟩ := r.at' j e' he
      rw [setF_ne q, List.getElem?_set_ne (Ne.symm q)]
      exact ⟨u, h1, h2⟩
theorem Wf.assign {i : Nat} {a : Addr} (h : Wf (setF fps i fp) [] a) : Wf fps fp a := by
  rcases h with h | ⟨j, h⟩
  · cases h
  · by_cases e : j = i
    · subst e; rw [setF_same] at h; exact .inl h
    · rw [setF_ne e] at h; exact .inr ⟨j, h⟩
theorem Tr.assign {G0 H0 : Hp} {W0 : Addr → Prop} {i : Nat} (t : Tr G0 H0 W0 G H (Wf fps fp)) : Tr G0 H0 W0 G H (Wf (setF fps i fp) []) := ⟨t.keep, t.there, t.grow, t.new, fun a w => t.wnew a w.assign⟩
/-- a variable is forgotten -/
theorem Rel.forget (r : Rel K ε σ G H fps fp) (i : Nat) (o : Option V) : Rel K (ε.set i none) (σ.set i o) G H (setF fps i []) fp where
  len := by rw [List.length_set, List.length_set]; exact r.len
  sub := r.sub
  off := fun a w => by
    rcases w with w | ⟨j, w⟩
    · exact r.off a (.inl w)
    · by_cases e : j = i
      · subst e; rw [setF_same] at w; cases w
      · rw [setF_ne e] at w; exact r.off a (.inr ⟨j, w⟩)
  nd := fun j => by
    by_cases e : j = i
    · subst e; rw [setF_same]; exact .nil
    · rw [setF_ne e]; exact r.nd j
  dis := fun j k a h1 h2 => by
    by_cases e : j = i
    · subst e; rw [setF_same] at h1; cases h1
    · rw [setF_ne e] at h1
      by_cases e' : k = i
      · subst e'; rw [setF_same] at h2; cases h2
      · rw [setF_ne e'] at h2; exact r.dis j k a h1 h2
  tnd := r.tnd
  tdis := fun j a h => by
    by_cases e : j = i
    · subst e; rw [setF_same]; exact fun z => nomatch z
    · rw [setF_ne e]; exact r.tdis j a h
  at' := fun j e' he => by
    by_cases q : j = i
    · subst q
      by_cases hj : j < ε.length
      · rw [List.getElem?_set_self hj] at he; cases he
      · rw [List.getElem?_eq_none (by rw [List.length_set]; omega)] at he; cases he
    · rw [List.getElem?_set_ne (Ne.symm q)] at he
      obtain ⟨u, h1, h2⟩ := r.at' j e' he
      rw [setF_ne q, List.getElem?_set_ne (Ne.symm q)]
      exact ⟨u, h1, h2⟩
theorem Wf.forget {i : Nat} {a : Addr} (h : Wf (setF fps i []) fp a) : Wf fps fp a := by
  rcases h with h | ⟨j, h⟩
  · exact .inl h
  · by_cases e : j = i
    · subst e; rw [setF_same] at h; cases h
    · rw [setF_ne e] at h; exact .inr ⟨j, h⟩
end

/-! ### readings of statements -/
section
variable (p : Pm) (Wx : WX) (fx : List Nat)
def Fixed (fx : List Nat) (σ σ' : L2.St) : Prop := ∀ i ∈ fx, σ'[i]? = σ[i]?
def AfterS (σ : L2.St) (G H : Hp) (fps : Fps) (r : Res (Fl × Ev)) (D : Ends) : Prop := match r with
  | .ok (.next, ε') => ∀ (σ' : L2.St) (G' H' : Hp) (fps' : Fps), Rel p.K ε' σ' G' H' fps' [] → Tr G H (Wf fps []) G' H' (Wf fps' []) → Fixed fx σ σ' → D.nx σ' H'
  | .ok (.brk, ε') => ∀ (σ' : L2.St) (G' H' : Hp) (fps' : Fps), Rel p.K ε' σ' G' H' fps' [] → Tr G H (Wf fps []) G' H' (Wf fps' []) → Fixed fx σ σ' → D.bk σ' H'
  | .ok (.cont, ε') => ∀ (σ' : L2.St) (G' H' : Hp) (fps' : Fps), Rel p.K ε' σ' G' H' fps' [] → Tr G H (Wf fps []) G' H' (Wf fps' []) → Fixed fx σ σ' → D.ct σ' H'
  | .ok (.ret e, ε') => ∀ (v : V) (σ' : L2.St) (G' H' : Hp) (fps' : Fps) (fp : List Addr), Rel p.K ε' σ' G' H' fps' fp → Ow p.K G' H' e.1 v e.2 fp → Tr G H (Wf fps []) G' H' (Wf fps' fp) → Fixed fx σ σ' → D.rt v H'
  | .exc x ε' => ∀ (cls : Value) (d : Option Addr) (σ' : L2.St) (G' H' : Hp) (fps' : Fps), Rel p.K ε' σ' G' H' fps' [] → Tr G H (Wf fps []) G' H' (Wf fps' []) → Fixed fx σ σ' → ExcAt p x cls d H' → Wx cls d σ' H'
  | .bad => False
def tS (g : Ev → Res (Fl × Ev)) : TS := fun D σ H => ∃ (ε : Ev) (G : Hp) (fps : Fps), Rel p.K ε σ G H fps [] ∧ AfterS p Wx fx σ G H fps (g ε) D
end
theorem PS.imp {X : Cx} {st : Stmt} {t t' : TS} (h : PS X st t) (i : ∀ D σ H, t' D σ H → t D σ H) : PS X st t' := ⟨fun pins s σ H D I q => h.run pins s σ H D I (i D σ H q)⟩
theorem PSs.imp {X : Cx} {st : List Stmt} {t t' : TS} (h : PSs X st t) (i : ∀ D σ H, t' D σ H → t D σ H) : PSs X st t' := ⟨fun pins s σ H D I q => h.run pins s σ H D I (i D σ H q)⟩
section
variable {p : Pm} {Wx : WX} {m m1 m2 : Bool} {σ σ1 : L2.St} {G H G1 H1 : Hp} {fps fps1 : Fps} {ε : Ev} {fx : List Nat} {D : Ends}
theorem Fixed.refl : Fixed fx σ σ := fun _ _ => rfl
theorem Fixed.trans {σ2 : L2.St} (a : Fixed fx σ σ1) (b : Fixed fx σ1 σ2) : Fixed fx σ σ2 := fun i h => (b i h).trans (a i h)
theorem Fixed.set {i : Nat} {o : Option V} (h : i ∉ fx) : Fixed fx σ (σ.set i o) := fun j hj => by
  have : j ≠ i := fun e => h (e ▸ hj)
  rw [List.getElem?_set_ne (Ne.symm this)]
/-- from a later place -/
theorem AfterS.later {r : Res (Fl × Ev)} (t : Tr G H (Wf fps []) G1 H1 (Wf fps1 [])) (f : Fixed fx σ σ1) (a : AfterS p Wx fx σ G H fps r D) : AfterS p Wx fx σ1 G1 H1 fps1 r D := by
  cases r with
  | ok q =>
    obtain ⟨fl, ε'⟩ := q
    cases fl with
    | next => exact fun σ' G' H' fps' r' t' f' => a σ' G' H' fps' r' (t.trans t') (f.trans f')
    | brk => exact fun σ' G' H' fps' r' t' f' => a σ' G' H' fps' r' (t.trans t') (f.trans f')
    | cont => exact fun σ' G' H' fps' r' t' f' => a σ' G' H' fps' r' (t.trans t') (f.trans f')
    | ret e => exact fun v σ' G' H' fps' fp r' o t' f' => a v σ' G' H' fps' fp r' o (t.trans t') (f.trans f')
  | exc x ε' => exact fun cls d σ' G' H' fps' r' t' f' => a cls d σ' G' H' fps' r' (t.trans t') (f.trans f')
  | bad => exact a
/-- one statement behind the other -/
def fSeq (f g : Ev → Res (Fl × Ev)) : Ev → Res (Fl × Ev) := fun ε => match f ε with
  | .ok (.next, ε1) => g ε1
  | r => r
theorem tS_seq {f g : Ev → Res (Fl × Ev)} (h : tS p Wx fx (fSeq f g) D σ H) : tSeq (tS p Wx fx f) (tS p Wx fx g) D σ H := by
  obtain ⟨ε, G, fps, r, a⟩ := h
  unfold fSeq at a
  refine ⟨ε, G, fps, r, ?_⟩
  cases e : f ε with
  | ok q =>
    obtain ⟨fl, ε1⟩ := q
    rw [e] at a
    cases fl with
    | next => exact fun σ1 G1 H1 fps1 r1 t f => ⟨ε1, G1, fps1, r1, a.later t f⟩
    | brk => exact a
    | cont => exact a
    | ret e => exact a
  | exc x ε1 => rw [e] at a; exact a
  | bad => rw [e] at a; exact a
def fNext : Ev → Res (Fl × Ev) := fun ε => .ok (.next, ε)
theorem tS_next (h : tS p Wx fx fNext D σ H) : tNext D σ H := by
  obtain ⟨ε, G, fps, r, a⟩ := h
  exact a σ G H fps r Tr.refl Fixed.refl
def fBrk : Ev → Res (Fl × Ev) := fun ε => .ok (.brk, ε)
theorem tS_brk (h : tS p Wx fx fBrk D σ H) : tBreak D σ H := by
  obtain ⟨ε, G, fps, r, a⟩ := h
  exact a σ G H fps r Tr.refl Fixed.refl
def fCont : Ev → Res (Fl × Ev) := fun ε => .ok (.cont, ε)
theorem tS_cont (h : tS p Wx fx fCont D σ H) : tCont D σ H := by
  obtain ⟨ε, G, fps, r, a⟩ := h
  exact a σ G H fps r Tr.refl Fixed.refl
/-- a value, then a statement's end made of it -/
theorem tS_val {α β : Type} {rel : α → β → Hp → Hp → List Addr → Prop} {f : Ev → Res (β × Ev)} {k : β → Ev → Res (Fl × Ev)} {R : α → Hp → Prop} (h : tS p Wx fx (fun ε => (f ε).bind fun q => k q.1 q.2) D σ H)
    (i : ∀ (v : α) (b : β) (ε1 : Ev) (G G1 H1 : Hp) (fps fps1 : Fps) (fp : List Addr), Rel p.K ε1 σ G1 H1 fps1 fp → rel v b G1 H1 fp → Tr G H (Wf fps []) G1 H1 (Wf fps1 fp) → AfterS p Wx fx σ G H fps (k b ε1) D → R v H1) : tR p Wx m rel f σ H R := by
  obtain ⟨ε, G, fps, r, a⟩ := h
  dsimp only at a
  refine ⟨ε, G, fps, r, ?_⟩
  cases e : f ε with
  | ok q =>
    obtain ⟨b, ε1⟩ := q
    rw [e] at a
    exact fun v G1 H1 fps1 fp r1 o t s => i v b ε1 G G1 H1 fps fps1 fp r1 o t a
  | exc x ε1 => rw [e] at a; exact fun cls d G1 H1 fps1 r1 t ex => a cls d σ G1 H1 fps1 r1 t Fixed.refl ex
  | bad => rw [e] at a; exact a
/-- name = e -/
def fAsg (fx : List Nat) (i : Nat) (f : Ev → Res (Ent × Ev)) : Ev → Res (Fl × Ev) := fun ε => (f ε).bind fun q => if fx.contains i then .bad else .ok (.next, q.2.set i (some q.1))
theorem not_fx {i : Nat} (h : ¬ fx.contains i = true) : i ∉ fx := fun z => h (by simpa using z)
theorem tS_asg {i : Nat} {f : Ev → Res (Ent × Ev)} (h : tS p Wx fx (fAsg fx i f) D σ H) : tAsg (tE p Wx m f) (gName i) D σ H := by
  refine tS_val (k := fun e ε => if fx.contains i then .bad else .ok (.next, ε.set i (some e))) h fun v b ε1 G G1 H1 fps fps1 fp r1 o t a => ?_
  by_cases c : fx.contains i = true
  · rw [if_pos c] at a; exact a.elim
  · rw [if_neg c] at a
    exact a _ G1 H1 _ (r1.assign i o) t.assign (Fixed.set (not_fx c))
/-- e alone -/
def fExpr (f : Ev → Res (Ent × Ev)) : Ev → Res (Fl × Ev) := fun ε => (f ε).bind fun q => .ok (.next, q.2)
theorem tS_expr {f : Ev → Res (Ent × Ev)} (h : tS p Wx fx (fExpr f) D σ H) : tDrop (tE p Wx m f) D σ H := by
  refine tS_val (k := fun e ε => .ok (.next, ε)) h fun v b ε1 G G1 H1 fps fps1 fp r1 o t a => ?_
  exact a σ G1 H1 fps1 r1.drop t.drop Fixed.refl
/-- return e -/
def fRet (f : Ev → Res (Ent × Ev)) : Ev → Res (Fl × Ev) := fun ε => (f ε).bind fun q => .ok (.ret q.1, q.2)
theorem tS_ret {f : Ev → Res (Ent × Ev)} (h : tS p Wx fx (fRet f) D σ H) : tRet (tE p Wx m f) D σ H := by
  refine tS_val (k := fun e ε => .ok (.ret e, ε)) h fun v b ε1 G G1 H1 fps fps1 fp r1 o t a => ?_
  exact a v σ G1 H1 fps1 fp r1 o t Fixed.refl
/-- return x: the variable's own is handed out -/
def fRetV (fx : List Nat) (i : Nat) : Ev → Res (Fl × Ev) := fun ε => if fx.contains i then .bad else match ε[i]? with
  | some (some e) => .ok (.ret e, ε.set i none)
  | _ => .bad
theorem Rel.moveOut {K : PySem.W.Frag} {i : Nat} {e : Ent} (r : Rel K ε σ G H fps []) (h : ε[i]? = some (some e)) : ∃ v, σ[i]? = some (some v) ∧ Rel K (ε.set i none) σ G H (setF fps i []) (fps i) ∧ Ow K G H e.1 v e.2 (fps i) := by
  obtain ⟨v, hv, o⟩ := r.at' i e h
  have r2 := r.forget i (some v)
  have hs : σ.set i (some v) = σ := by
    refine List.ext_getElem? fun j => ?_
    by_cases q : j = i
    · subst q
      rw [List.getElem?_set_self (by exact (List.getElem?_eq_some_iff.mp hv).1), hv]
    · rw [List.getElem?_set_ne (Ne.symm q)]
  rw [hs] at r2
  refine ⟨v, hv, ⟨r2.len, r2.sub, fun a w => ?_, r2.nd, r2.dis, r.nd i, fun j a ha hj => ?_, r2.at'⟩, o⟩
  · rcases w with w | w
    · exact r.off a (.inr ⟨i, w⟩)
    · exact r2.off a (.inr w)
  · by_cases q : j = i
    · subst q; rw [setF_same] at hj; cases hj
    · rw [setF_ne q] at hj; exact q (r.dis j i a hj ha)
theorem tS_retV {i : Nat} (h : tS p Wx fx (fRetV fx i) D σ H) : tRet (tVar i) D σ H := by
  obtain ⟨ε, G, fps, r, a⟩ := h
  unfold fRetV at a
  by_cases c : fx.contains i = true
  · rw [if_pos c] at a; exact a.elim
  · rw [if_neg c] at a
    cases e : ε[i]? with
    | none => rw [e] at a; exact a.elim
    | some o =>
      cases o with
      | none => rw [e] at a; exact a.elim
      | some en =>
        rw [e] at a
        obtain ⟨v, hv, r2, ow⟩ := r.moveOut e
        refine ⟨v, hv, a v σ G H _ _ r2 ow ⟨fun _ _ h _ => h, fun _ h => h, Same.refl G, fun _ h => .inl h, fun b w => ?_⟩ Fixed.refl⟩
        rcases w with w | ⟨j, w⟩
        · exact .inl (.inr ⟨i, w⟩)
        · by_cases q : j = i
          · subst q; rw [setF_same] at w; cases w
          · rw [setF_ne q] at w; exact .inl (.inr ⟨j, w⟩)
def fRetN : Ev → Res (Fl × Ev) := fun ε => .ok (.ret (0, .none), ε)
theorem tS_retN (h : tS p Wx fx fRetN D σ H) : tRetN D σ H := by
  obtain ⟨ε, G, fps, r, a⟩ := h
  exact a .non σ G H fps [] r ⟨rfl, .non⟩ Tr.refl Fixed.refl
/-- if -/
def fIfS (c : Ev → Res (Bool × Ev)) (f g : Ev → Res (Fl × Ev)) : Ev → Res (Fl × Ev) := fun ε => (c ε).bind fun q => if q.1 = true then f q.2 else g q.2
theorem tS_if {c : Ev → Res (Bool × Ev)} {f g : Ev → Res (Fl × Ev)} (h : tS p Wx fx (fIfS c f g) D σ H) : tIfS (tT p Wx m c) (tS p Wx fx f) (tS p Wx fx g) D σ H := by
  refine tS_val (k := fun b ε => if b = true then f ε else g ε) h fun v b ε1 G G1 H1 fps fps1 fp r1 o t a => ?_
  obtain ⟨rfl, rfl⟩ := o
  cases v with
  | true => rw [if_pos rfl] at a ⊢; exact ⟨ε1, G1, fps1, r1, a.later t Fixed.refl⟩
  | false => rw [if_neg Bool.false_ne_true] at a ⊢; exact ⟨ε1, G1, fps1, r1, a.later t Fixed.refl⟩
/-- a, b, c = a tuple -/
def setAll : List Nat → List PyData → Ev → Ev
  | i :: is, d :: ds, ε => setAll is ds (ε.set i (some (0, d)))
  | _, _, ε => ε
def setAllV : List Nat → List V → L2.St → L2.St
  | i :: is, d :: ds, ε => setAllV is ds (ε.set i (some d))
  | _, _, ε => ε
theorem Rel.assignVal {K : PySem.W.Frag} (r : Rel K ε σ G H fps []) (i : Nat) {d : PyData} {v : V} (h : Rz K G v d) : Rel K (ε.set i (some (0, d))) (σ.set i (some v)) G H (setF fps i []) [] :=
  Rel.assign (e := (0, d)) r i ⟨rfl, h⟩
theorem Rel.setAll {K : PySem.W.Frag} : ∀ (is : List Nat) {ds : List PyData} {vs : List V} {ε : Ev} {σ : L2.St} {fps : Fps}, Rel K ε σ G H fps [] → RzAll K G vs ds →
    ∃ fps', Rel K (Mb.setAll is ds ε) (setAllV is vs σ) G H fps' [] ∧ (∀ a, Wf fps' [] a → Wf fps [] a)
  | [], _, _, _, _, fps, r, _ => ⟨fps, r, fun _ h => h⟩
  | i :: is, [], [], _, _, fps, r, .nil => ⟨fps, r, fun _ h => h⟩
  | i :: is, d :: ds, v :: vs, ε, σ, fps, r, .cons h t => by
    obtain ⟨fps', r', w⟩ := Rel.setAll is (r.assignVal i h) t
    exact ⟨fps', r', fun a ha => (w a ha).assign⟩
theorem Fixed.setAll {fx : List Nat} : ∀ (is : List Nat) (vs : List V) (σ : L2.St), (∀ i ∈ is, i ∉ fx) → Fixed fx σ (setAllV is vs σ)
  | [], _, _, _ => fun _ _ => rfl
  | i :: is, [], _, _ => fun _ _ => rfl
  | i :: is, v :: vs, σ, h => (Fixed.set (h i List.mem_cons_self)).trans (Fixed.setAll is vs _ fun j hj => h j (List.mem_cons_of_mem _ hj))
def gSet : List Nat → TGs
  | [] => gNil
  | i :: is => gCons (gName i) (gSet is)
theorem gSet_of : ∀ (is : List Nat) (vs : List V) (σ : L2.St) (H : Hp) (Q : L2.St → Hp → Prop), vs.length = is.length → Q (setAllV is vs σ) H → gSet is vs σ H Q
  | [], [], σ, H, Q, _, h => ⟨rfl, h⟩
  | [], _ :: _, _, _, _, hl, _ => by cases hl
  | i :: is, [], _, _, _, hl, _ => by cases hl
  | i :: is, v :: vs, σ, H, Q, hl, h => ⟨v, vs, rfl, gSet_of is vs _ H Q (Nat.succ.inj hl) h⟩
def fAsgT (fx : List Nat) (is : List Nat) (f : Ev → Res (Ent × Ev)) : Ev → Res (Fl × Ev) := fun ε => (f ε).bind fun q => match q.1 with
  | (0, .tuple ds) => if ds.length = is.length ∧ is.all (fun i => !fx.contains i) = true then .ok (.next, setAll is ds q.2) else .bad
  | _ => .bad
theorem tS_asgT {is : List Nat} {f : Ev → Res (Ent × Ev)} (h : tS p Wx fx (fAsgT fx is f) D σ H) : tAsg (tE p Wx m f) (gTup p.K is.length (gSet is)) D σ H := by
  refine tS_val (k := fun e ε => match e with | (0, .tuple ds) => if ds.length = is.length ∧ is.all (fun i => !fx.contains i) = true then .ok (.next, setAll is ds ε) else .bad | _ => .bad) h fun v b ε1 G G1 H1 fps fps1 fp r1 o t a => ?_
  obtain ⟨n, d⟩ := b
  cases n with
  | succ n => exact a.elim
  | zero =>
    obtain ⟨rfl, o⟩ := o
    cases d with
    | tuple ds =>
      have a : AfterS p Wx fx σ G H fps (if ds.length = is.length ∧ is.all (fun i => !fx.contains i) = true then .ok (.next, setAll is ds ε1) else .bad) D := a
      by_cases c : ds.length = is.length ∧ is.all (fun i => !fx.contains i) = true
      · rw [if_pos c] at a
        cases o with
        | tup hs rr =>
          have hl : _ = is.length := rr.length.trans c.1
          refine ⟨_, _, rfl, same_sqt r1.sub hs, hl, gSet_of is _ σ H1 _ hl ?_⟩
          obtain ⟨fps', r', w⟩ := r1.setAll is rr
          refine a _ G1 H1 fps' r' ⟨t.keep, t.there, t.grow, t.new, fun b hb => t.wnew b (w b hb)⟩ (Fixed.setAll is _ σ fun i hi => ?_)
          have := List.all_eq_true.mp c.2 i hi
          exact not_fx (by simpa using this)
      · rw [if_neg c] at a; exact a.elim
    | _ => exact a.elim
end
end Mb
end

section
set_option Elab.async false
set_option linter.all false
set_option maxRecDepth 100000
set_option maxHeartbeats 1000000
/-! Mb14: while and for -/
namespace Mb
open PySem PySem.Spec PyProof.Rows L2

/-! ### while -/
def whN (c : Ev → Res (Bool × Ev)) (b : Ev → Res (Fl × Ev)) : Nat → Ev → Option (Res (Fl × Ev))
  | 0, _ => none
  | n + 1, ε => match c ε with
    | .ok (true, ε1) => match b ε1 with
      | .ok (.next, ε2) => whN c b n ε2
      | .ok (.cont, ε2) => whN c b n ε2
      | .ok (.brk, ε2) => some (.ok (.next, ε2))
      | r => some r
    | .ok (false, ε1) => some (.ok (.next, ε1))
    | .exc x e => some (.exc x e)
    | .bad => some .bad
theorem whN_succ {c : Ev → Res (Bool × Ev)} {b : Ev → Res (Fl × Ev)} : ∀ {n : Nat} {ε : Ev} {r : Res (Fl × Ev)}, whN c b n ε = some r → whN c b (n + 1) ε = some r
  | 0, _, _, h => by cases h
  | n + 1, ε, r, h => by
    rw [whN] at h ⊢
    cases e : c ε with
    | ok q =>
      obtain ⟨k, ε1⟩ := q
      rw [e] at h
      cases k with
      | false => exact h
      | true =>
        dsimp only at h ⊢
        cases e2 : b ε1 with
        | ok q =>
          obtain ⟨fl, ε2⟩ := q
          rw [e2] at h
          cases fl with
          | next => exact whN_succ h
          | cont => exact whN_succ h
          | brk => exact h
          | ret e => exact h
        | exc x e' => rw [e2] at h; exact h
        | bad => rw [e2] at h; exact h
    | exc x e' => rw [e] at h; exact h
    | bad => rw [e] at h; exact h
theorem whN_le {c : Ev → Res (Bool × Ev)} {b : Ev → Res (Fl × Ev)} {n k : Nat} {ε : Ev} {r : Res (Fl × Ev)} (h : whN c b n ε = some r) : whN c b (n + k) ε = some r := by
  induction k with
  | zero => exact h
  | succ k ih => exact whN_succ ih
theorem whN_one {c : Ev → Res (Bool × Ev)} {b : Ev → Res (Fl × Ev)} {n k : Nat} {ε : Ev} {r r' : Res (Fl × Ev)} (h : whN c b n ε = some r) (h' : whN c b k ε = some r') : r = r' := by
  have h1 := whN_le (k := k) h
  have h2 := whN_le (k := n) h'
  rw [Nat.add_comm k n] at h2
  rw [h1] at h2
  exact Option.some.inj h2
open Classical in
noncomputable def fWh (c : Ev → Res (Bool × Ev)) (b : Ev → Res (Fl × Ev)) : Ev → Res (Fl × Ev) := fun ε => if h : ∃ r n, whN c b n ε = some r then h.choose else .bad
theorem fWh_of {c : Ev → Res (Bool × Ev)} {b : Ev → Res (Fl × Ev)} {n : Nat} {ε : Ev} {r : Res (Fl × Ev)} (h : whN c b n ε = some r) : fWh c b ε = r := by
  have hx : ∃ r n, whN c b n ε = some r := ⟨r, n, h⟩
  unfold fWh
  rw [dif_pos hx]
  obtain ⟨k, e⟩ := hx.choose_spec
  exact whN_one e h
theorem fWh_or (c : Ev → Res (Bool × Ev)) (b : Ev → Res (Fl × Ev)) (ε : Ev) : fWh c b ε = .bad ∨ ∃ n, whN c b n ε = some (fWh c b ε) := by
  by_cases hx : ∃ r n, whN c b n ε = some r
  · obtain ⟨r, n, h⟩ := hx
    exact .inr ⟨n, by rw [fWh_of h]; exact h⟩
  · left; unfold fWh; rw [dif_neg hx]
/-- one turn -/
theorem fWh_eq (c : Ev → Res (Bool × Ev)) (b : Ev → Res (Fl × Ev)) (ε : Ev) : fWh c b ε = match c ε with
    | .ok (true, ε1) => match b ε1 with
      | .ok (.next, ε2) => fWh c b ε2
      | .ok (.cont, ε2) => fWh c b ε2
      | .ok (.brk, ε2) => .ok (.next, ε2)
      | r => r
    | .ok (false, ε1) => .ok (.next, ε1)
    | .exc x e => .exc x e
    | .bad => .bad := by
  have step : ∀ {ε2 : Ev}, (∀ n, whN c b (n + 1) ε = whN c b n ε2) → fWh c b ε = fWh c b ε2 := fun {ε2} h => by
    rcases fWh_or c b ε2 with e | ⟨n, e⟩
    · rcases fWh_or c b ε with e' | ⟨n, e'⟩
      · rw [e, e']
      · cases n with
        | zero => cases e'
        | succ n => rw [h n] at e'; exact (fWh_of e').symm
    · rw [← h n] at e
      exact fWh_of e
  cases e : c ε with
  | ok q =>
    obtain ⟨k, ε1⟩ := q
    cases k with
    | false => exact fWh_of (n := 1) (by rw [whN, e])
    | true =>
      dsimp only
      cases e2 : b ε1 with
      | ok q =>
        obtain ⟨fl, ε2⟩ := q
        cases fl with
        | next => exact step fun n => by rw [whN, e]; dsimp only; rw [e2]
        | cont => exact step fun n => by rw [whN, e]; dsimp only; rw [e2]
        | brk => exact fWh_of (n := 1) (by rw [whN, e]; dsimp only; rw [e2])
        | ret e9 => exact fWh_of (n := 1) (by rw [whN, e]; dsimp only; rw [e2])
      | exc x e' => exact fWh_of (n := 1) (by rw [whN, e]; dsimp only; rw [e2])
      | bad => exact fWh_of (n := 1) (by rw [whN, e]; dsimp only; rw [e2])
  | exc x e' => exact fWh_of (n := 1) (by rw [whN, e])
  | bad => exact fWh_of (n := 1) (by rw [whN, e])

section
variable {p : Pm} {Wx : WX} {m m1 m2 : Bool} {σ σ1 : L2.St} {G H G1 H1 : Hp} {fps fps1 : Fps} {ε : Ev} {fx : List Nat} {D : Ends}
theorem tS_while {c : Ev → Res (Bool × Ev)} {b : Ev → Res (Fl × Ev)} (h : tS p Wx fx (fWh c b) D σ H) : tWhile (tT p Wx m c) (tS p Wx fx b) D σ H := by
  obtain ⟨ε, G, fps, r, a⟩ := h
  rcases fWh_or c b ε with e | ⟨n0, e0⟩
  · rw [e] at a; exact a.elim
  generalize fWh c b ε = r0 at a e0
  refine ⟨fun n σ1 H1 => ∃ (ε1 : Ev) (G1 : Hp) (fps1 : Fps), Rel p.K ε1 σ1 G1 H1 fps1 [] ∧ Tr G H (Wf fps []) G1 H1 (Wf fps1 []) ∧ Fixed fx σ σ1 ∧ whN c b n ε1 = some r0, ⟨n0, ε, G, fps, r, Tr.refl, Fixed.refl, e0⟩, ?_⟩
  rintro n σ1 H1 ⟨ε1, G1, fps1, r1, t1, f1, e1⟩
  cases n with
  | zero => cases e1
  | succ n =>
    have a1 : AfterS p Wx fx σ1 G1 H1 fps1 r0 D := a.later t1 f1
    refine ⟨ε1, G1, fps1, r1, ?_⟩
    rw [whN] at e1
    cases ec : c ε1 with
    | ok q =>
      obtain ⟨k, ε2⟩ := q
      rw [ec] at e1
      intro k' G2 H2 fps2 fp r2 rl t2 s2
      obtain ⟨rfl, rfl⟩ := rl
      cases k' with
      | false =>
        rw [if_neg Bool.false_ne_true]
        cases e1
        exact a1 σ1 G2 H2 fps2 r2 t2 Fixed.refl
      | true =>
        rw [if_pos rfl]
        dsimp only at e1
        refine ⟨fun σ' H' => ∃ n', n' < n + 1 ∧ ∃ (ε1 : Ev) (G1 : Hp) (fps1 : Fps), Rel p.K ε1 σ' G1 H' fps1 [] ∧ Tr G H (Wf fps []) G1 H' (Wf fps1 []) ∧ Fixed fx σ σ' ∧ whN c b n' ε1 = some r0, fun σ' H' h => h, ε2, G2, fps2, r2, ?_⟩
        cases eb : b ε2 with
        | ok q =>
          obtain ⟨fl, ε3⟩ := q
          rw [eb] at e1
          cases fl with
          | next => exact fun σ' G' H' fps' r' t' f' => ⟨n, Nat.lt_succ_self n, ε3, G', fps', r', (t1.trans t2).trans t', f1.trans f', e1⟩
          | cont => exact fun σ' G' H' fps' r' t' f' => ⟨n, Nat.lt_succ_self n, ε3, G', fps', r', (t1.trans t2).trans t', f1.trans f', e1⟩
          | brk => cases e1; exact fun σ' G' H' fps' r' t' f' => a1 σ' G' H' fps' r' (t2.trans t') f'
          | ret e => cases e1; exact fun v σ' G' H' fps' fp r' o t' f' => a1 v σ' G' H' fps' fp r' o (t2.trans t') f'
        | exc x e' => rw [eb] at e1; cases e1; exact fun cls d σ' G' H' fps' r' t' f' ex => a1 cls d σ' G' H' fps' r' (t2.trans t') f' ex
        | bad => rw [eb] at e1; cases e1; exact a1
    | exc x e' => rw [ec] at e1; cases e1; exact fun cls d G' H' fps' r' t' ex => a1 cls d σ1 G' H' fps' r' t' Fixed.refl ex
    | bad => rw [ec] at e1; cases e1; exact a1

/-! ### for -/
/-- what a walk yields, turn by turn, is the items' data -/
def SrcOk (K : PySem.W.Frag) (J : It) (G0 : Hp) (its : List PyData) : Prop :=
  ∀ (i : Nat) (G H : Hp), Same G0 G → Same G H →
    (i < its.length → J.go i H ∧ ∀ x H', J.yld i H x H' → ∃ d, its[i]? = some d ∧ PRes K G H (0, d) x H') ∧ (its.length ≤ i → J.stop i H)
def AfterI (p : Pm) (Wx : WX) (m : Bool) (σ : L2.St) (G H : Hp) (fps : Fps) (r : Res (List PyData × Ev)) (R : It → Hp → Prop) : Prop := match r with
  | .ok (its, ε') => ∀ (J : It) (G' H' : Hp) (fps' : Fps), Rel p.K ε' σ G' H' fps' [] → Tr G H (Wf fps []) G' H' (Wf fps' []) → (m = false → Same H H') → SrcOk p.K J G' its → R J H'
  | .exc x ε' => ∀ (cls : Value) (d : Option Addr) (G' H' : Hp) (fps' : Fps), Rel p.K ε' σ G' H' fps' [] → Tr G H (Wf fps []) G' H' (Wf fps' []) → ExcAt p x cls d H' → Wx cls d σ H'
  | .bad => False
def tIt (p : Pm) (Wx : WX) (m : Bool) (f : Ev → Res (List PyData × Ev)) : TI := fun σ H R => ∃ (ε : Ev) (G : Hp) (fps : Fps), Rel p.K ε σ G H fps [] ∧ AfterI p Wx m σ G H fps (f ε) R
theorem PI.imp {X : Cx} {tg e : Expr} {t t' : TI} (h : PI X tg e t) (i : ∀ σ H Q, t' σ H Q → t σ H Q) : PI X tg e t' := ⟨fun pins s σ H Q I q => h.run pins s σ H Q I (i σ H Q q)⟩
/-- a loop's target: how an item goes to the slots -/
structure Tgt where
  is : List Nat
  put : PyData → Ev → Option Ev
def fLoop (tg : Tgt) (b : Ev → Res (Fl × Ev)) : List PyData → Ev → Res (Fl × Ev)
  | [], ε => .ok (.next, ε)
  | d :: ds, ε => match tg.put d ε with
    | some ε1 => match b ε1 with
      | .ok (.next, ε2) => fLoop tg b ds ε2
      | .ok (.cont, ε2) => fLoop tg b ds ε2
      | .ok (.brk, ε2) => .ok (.next, ε2)
      | r => r
    | none => .bad
def fFor (tg : Tgt) (f : Ev → Res (List PyData × Ev)) (b : Ev → Res (Fl × Ev)) : Ev → Res (Fl × Ev) := fun ε => (f ε).bind fun q => fLoop tg b q.1 q.2
/-- the machine's target does what tg says -/
def TgOk (K : PySem.W.Frag) (fx : List Nat) (tg : Tgt) (g : TG) : Prop :=
  ∀ (ε ε' : Ev) (σ : L2.St) (G H : Hp) (fps : Fps) (d : PyData) (x : V) (Q : L2.St → Hp → Prop), Rel K ε σ G H fps [] → Rz K G x d → tg.put d ε = some ε' →
    (∀ σ' fps', Rel K ε' σ' G H fps' [] → (∀ a, Wf fps' [] a → Wf fps [] a) → Fixed fx σ σ' → σ'.length = σ.length → (∀ j, j ∉ tg.is → σ'[j]? = σ[j]?) → Q σ' H) → g x σ H Q
theorem Tr.wsub {G0 H0 : Hp} {W0 : Addr → Prop} {fps' : Fps} (t : Tr G0 H0 W0 G H (Wf fps [])) (h : ∀ a, Wf fps' [] a → Wf fps [] a) : Tr G0 H0 W0 G H (Wf fps' []) := ⟨t.keep, t.there, t.grow, t.new, fun a w => t.wnew a (h a w)⟩
theorem tS_for {tg : Tgt} {g : TG} {f : Ev → Res (List PyData × Ev)} {b : Ev → Res (Fl × Ev)} (hg : TgOk p.K fx tg g) (h : tS p Wx fx (fFor tg f b) D σ H) : tFor (tIt p Wx m f) g (tS p Wx fx b) D σ H := by
  obtain ⟨ε, G, fps, r, a⟩ := h
  unfold fFor at a
  refine ⟨ε, G, fps, r, ?_⟩
  cases e : f ε with
  | exc x e' => rw [e] at a; exact fun cls d G1 H1 fps1 r1 t ex => a cls d σ G1 H1 fps1 r1 t Fixed.refl ex
  | bad => rw [e] at a; exact a
  | ok q =>
    obtain ⟨its, ε0⟩ := q
    rw [e] at a
    intro J G1 H1 fps1 r1 t1 _ src
    have a : AfterS p Wx fx σ G H fps (fLoop tg b its ε0) D := a
    refine ⟨fun i n σ' H' => i + n = its.length ∧ ∃ (ε' : Ev) (G' : Hp) (fps' : Fps), Rel p.K ε' σ' G' H' fps' [] ∧ Tr G H (Wf fps []) G' H' (Wf fps' []) ∧ Same G1 G' ∧ Fixed fx σ σ' ∧ fLoop tg b its ε0 = fLoop tg b (its.drop i) ε',
      ⟨its.length, by omega, ε0, G1, fps1, r1, t1, Same.refl G1, Fixed.refl, rfl⟩, ?_⟩
    rintro i n σ2 H2 ⟨hn, ε2, G2, fps2, r2, t2, s2, f2, e2⟩
    obtain ⟨hgo, hstop⟩ := src i G2 H2 s2 r2.sub
    by_cases hi : i < its.length
    · obtain ⟨go, yl⟩ := hgo hi
      refine .inr ⟨go, fun σ' H' => ∃ n', n' < n ∧ (i + 1 + n' = its.length ∧ ∃ (ε' : Ev) (G' : Hp) (fps' : Fps), Rel p.K ε' σ' G' H' fps' [] ∧ Tr G H (Wf fps []) G' H' (Wf fps' []) ∧ Same G1 G' ∧ Fixed fx σ σ' ∧ fLoop tg b its ε0 = fLoop tg b (its.drop (i + 1)) ε'),
        fun σ' H' h => h, fun x H3 hy => ?_⟩
      obtain ⟨d, hd, pr⟩ := yl x H3 hy
      have hdrop : its.drop i = d :: its.drop (i + 1) := by
        rw [List.drop_eq_getElem_cons hi]
        have := List.getElem?_eq_getElem hi
        rw [hd] at this
        rw [Option.some.inj this]
      obtain ⟨G3, fp3, r3, o3, t3, sH3⟩ := pr.rel r2
      obtain ⟨rfl, o3⟩ := o3
      rw [hdrop, fLoop] at e2
      have a2 : AfterS p Wx fx σ2 G3 H3 fps2 (fLoop tg b its ε0) D := a.later (t2.trans t3) f2
      rw [e2] at a2
      cases ep : tg.put d ε2 with
      | none => rw [ep] at a2; exact a2.elim
      | some ε3 =>
        rw [ep] at a2 e2
        refine hg ε2 ε3 σ2 G3 H3 fps2 d x _ r3 o3 ep fun σ4 fps4 r4 w4 f4 _ _ => ⟨ε3, G3, fps4, r4, ?_⟩
        have t4 : Tr G3 H3 (Wf fps2 []) G3 H3 (Wf fps4 []) := Tr.refl.wsub w4
        have a4 := a2.later t4 f4
        have fin : ∀ {ε5 : Ev} {σ5 : L2.St} {G5 H5 : Hp} {fps5 : Fps}, fLoop tg b its ε0 = fLoop tg b (its.drop (i + 1)) ε5 → Rel p.K ε5 σ5 G5 H5 fps5 [] → Tr G3 H3 (Wf fps4 []) G5 H5 (Wf fps5 []) → Fixed fx σ4 σ5 →
            ∃ n', n' < n ∧ (i + 1 + n' = its.length ∧ ∃ (ε' : Ev) (G' : Hp) (fps' : Fps), Rel p.K ε' σ5 G' H5 fps' [] ∧ Tr G H (Wf fps []) G' H5 (Wf fps' []) ∧ Same G1 G' ∧ Fixed fx σ σ5 ∧ fLoop tg b its ε0 = fLoop tg b (its.drop (i + 1)) ε') :=
          fun {ε5 σ5 G5 H5 fps5} e5 r5 t5 f5 => ⟨n - 1, by omega, by omega, ε5, G5, fps5, r5, ((t2.trans t3).trans t4).trans t5, (s2.trans t3.grow).trans t5.grow, (f2.trans f4).trans f5, e5⟩
        dsimp only at a4 e2
        cases eb : b ε3 with
        | ok q =>
          obtain ⟨fl, ε5⟩ := q
          rw [eb] at a4 e2
          cases fl with
          | next => exact fun σ5 G5 H5 fps5 r5 t5 f5 => fin e2 r5 t5 f5
          | cont => exact fun σ5 G5 H5 fps5 r5 t5 f5 => fin e2 r5 t5 f5
          | brk => exact a4
          | ret e => exact a4
        | exc x e' => rw [eb] at a4; exact a4
        | bad => rw [eb] at a4; exact a4
    · refine .inl ⟨hstop (by omega), ?_⟩
      have hd : its.drop i = [] := List.drop_eq_nil_of_le (by omega)
      rw [hd, fLoop] at e2
      rw [e2] at a
      exact a σ2 G2 H2 fps2 r2 t2 f2
end
end Mb
end

section
set_option Elab.async false
set_option linter.all false
set_option maxRecDepth 100000
set_option maxHeartbeats 1000000
/-! Mb15: what loops walk, their targets -/
namespace Mb
noncomputable section
open PySem PySem.Spec PyProof.Rows L2 RZ

/-- a list, a tuple or a text is walked -/
def iAny (K : PySem.W.Frag) (tl : TE) : TI := fun σ H R => tl σ H fun x H1 =>
  (∃ (a : Addr) (xs : List V), x = .ref a ∧ SqL K H1 a xs ∧ R (Itl K a) H1) ∨ (∃ (a : Addr) (xs : List V), x = .ref a ∧ SqT K H1 a xs ∧ R (Itt K a) H1) ∨ ∃ z : Str, x = .str z ∧ R (Its z) H1
theorem pi_any {X : Cx} {tg l : Expr} {tl : TE} (hl : PE X l tl) : PI X tg l (iAny X.K tl) := by
  refine ⟨fun pins s σ H R I h => thn (hl.run pins s σ H _ I h) fun v s1 hv => ?_⟩
  obtain ⟨x, H1, I1, r1, hc⟩ := hv
  rcases hc with ⟨a, xs, rfl, hq, q⟩ | ⟨a, xs, rfl, hq, q⟩ | ⟨z, rfl, q⟩
  · obtain ⟨its, rv, pl, hz⟩ := I1.list hq
    cases r1
    exact wpAny_pyIter_list pl.isList (pi_one (tk := s1.toks) I1 _ (turn_list a _) ⟨_, Heap.get?_push_size _ rfl, rfl, rfl⟩ q)
  · obtain ⟨its, rv, pl, hz⟩ := I1.tuple hq
    cases r1
    exact wpAny_pyIter_tuple (show s1.heap.IsTuple a its.toArray from pl) (pi_one (tk := s1.toks) I1 _ (turn_tuple a _) ⟨_, Heap.get?_push_size _ rfl, rfl, rfl⟩ q)
  · obtain ⟨t, rfl⟩ := r1
    by_cases ha : z.cps.all (· < 128) = true
    · exact wpAny_pyIter_ascii ha (pi_one (tk := s1.toks) I1 _ (turn_str _ z t "str_ascii_iterator" (.inl rfl)) ⟨_, Heap.get?_push_size _ rfl, rfl, rfl⟩ q)
    · exact wpAny_pyIter_wide (by simpa using ha) (pi_one (tk := s1.toks) I1 _ (turn_str _ z t "str_iterator" (.inr rfl)) ⟨_, Heap.get?_push_size _ rfl, rfl, rfl⟩ q)

/-- the items of what is walked -/
def itemsOf : PyData → Option (List PyData)
  | .list ds => some ds
  | .tuple ds => some ds
  | .str s => some (s.cps.toList.map fun c => .str ⟨#[c]⟩)
  | _ => none
theorem pair_get' {α β : Type} {R : α → β → Prop} {xs : List α} {ys : List β} {j : Nat} {x : α} (h : PySem.Paired R xs ys) (e : xs[j]? = some x) : ∃ y, ys[j]? = some y ∧ R x y := by
  have hl := Paired.length h
  have hj : j < ys.length := by rw [← hl]; exact (List.getElem?_eq_some_iff.mp e).1
  obtain ⟨x', h1, h2⟩ := pair_get h (List.getElem?_eq_getElem hj)
  rw [e] at h1
  cases h1
  exact ⟨_, List.getElem?_eq_getElem hj, h2⟩
section
variable {K : PySem.W.Frag} {G0 : Hp}
theorem src_seq {J : It} {a : Addr} {vs : List V} {ds : List PyData} (r : RzAll K G0 vs ds) (go : ∀ i H, i < vs.length → (∀ {G : Hp}, Same G0 G → Same G H → J.go i H)) (yl : ∀ i H x H' G, Same G0 G → Same G H → J.yld i H x H' → H' = H ∧ vs[i]? = some x)
    (st : ∀ i H G, Same G0 G → Same G H → vs.length ≤ i → J.stop i H) : SrcOk K J G0 ds := fun i G H s g => by
  have hl := r.length
  refine ⟨fun hi => ⟨go i H (by omega) s g, fun x H' y => ?_⟩, fun hi => st i H G s g (by omega)⟩
  obtain ⟨rfl, hx⟩ := yl i H x H' G s g y
  obtain ⟨d, h1, h2⟩ := RzAll.get' r hx
  exact ⟨d, h1, PRes.here g (h2.same s)⟩
theorem src_list {a : Addr} {vs : List V} {ds : List PyData} (h : Rd G0 a (.lst vs)) (r : RzAll K G0 vs ds) : SrcOk K (Itl K a) G0 ds := by
  have at' : ∀ {G H : Hp}, Same G0 G → Same G H → SqL K H a vs := fun s g => .inl (same_rd g (same_rd s h))
  refine src_seq (a := a) r (fun i H hi G s g => ⟨vs, vs[i], at' s g, by simp [hi]⟩) (fun i H x H' G s g y => ⟨y.1, y.2 vs (at' s g)⟩) fun i H G s g hi => ⟨vs, at' s g, hi⟩
theorem src_tup {a : Addr} {vs : List V} {ds : List PyData} (h : SqT K G0 a vs) (r : RzAll K G0 vs ds) : SrcOk K (Itt K a) G0 ds := by
  have at' : ∀ {G H : Hp}, Same G0 G → Same G H → SqT K H a vs := fun s g => same_sqt g (same_sqt s h)
  refine src_seq (a := a) r (fun i H hi G s g => ⟨vs, vs[i], at' s g, by simp [hi]⟩) (fun i H x H' G s g y => ⟨y.1, y.2 vs (at' s g)⟩) fun i H G s g hi => ⟨vs, at' s g, hi⟩
theorem src_str {z : Str} : SrcOk K (Its z) G0 (z.cps.toList.map fun c => PyData.str ⟨#[c]⟩) := fun i G H s g => by
  refine ⟨fun hi => ⟨show i < z.cps.size by simpa using hi, fun x H' y => ?_⟩, fun hi => show z.cps.size ≤ i by simpa using hi⟩
  obtain ⟨rfl, c, hc, rfl⟩ := y
  refine ⟨.str ⟨#[c]⟩, ?_, PRes.here g (.str _)⟩
  rw [List.getElem?_map, Array.getElem?_toList, hc]
  rfl
theorem src_range {lo : Int} {n : Nat} : SrcOk K (Itr lo n) G0 ((List.range n).map fun (k : Nat) => PyData.int (lo + (k : Int))) := fun i G H s g => by
  refine ⟨fun hi => ⟨show i < n by simpa using hi, fun x H' y => ?_⟩, fun hi => show n ≤ i by simpa using hi⟩
  obtain ⟨rfl, rfl⟩ := y
  refine ⟨.int (lo + i), ?_, PRes.here g (.int _)⟩
  have hi' : i < n := by simpa using hi
  rw [List.getElem?_map, List.getElem?_range hi']
  rfl
theorem src_enum {a : Addr} {vs : List V} {ds : List PyData} (h : Rd G0 a (.lst vs)) (r : RzAll K G0 vs ds) : SrcOk K (Ite K a) G0 (ds.zipIdx.map fun q => PyData.tuple [.int (q.2 : Nat), q.1]) := fun i G H s g => by
  have hq : SqL K H a vs := .inl (same_rd g (same_rd s h))
  have hl := r.length
  refine ⟨fun hi => ?_, fun hi => ⟨vs, hq, by simp at hi; omega⟩⟩
  have hi' : i < vs.length := by simp at hi; omega
  refine ⟨⟨vs, vs[i], hq, by simp [hi']⟩, fun x H' y => ?_⟩
  obtain ⟨T, w, rfl, hT, rfl, hw⟩ := y
  obtain ⟨d, h1, h2⟩ := RzAll.get' r (hw vs hq)
  refine ⟨.tuple [.int (i : Nat), d], ?_, PRes.tup g hT (.cons (.int _) (.cons (h2.same s) .nil))⟩
  rw [List.getElem?_map, List.getElem?_zipIdx, h1]
  simp
theorem src_zip {a b : Addr} {vs ws : List V} {ds es : List PyData} (h : Rd G0 a (.lst vs)) (h' : Rd G0 b (.lst ws)) (r : RzAll K G0 vs ds) (r' : RzAll K G0 ws es) : SrcOk K (Itz K a b) G0 ((ds.zip es).map fun q => PyData.tuple [q.1, q.2]) := fun i G H s g => by
  have hq : SqL K H a vs := .inl (same_rd g (same_rd s h))
  have hq' : SqL K H b ws := .inl (same_rd g (same_rd s h'))
  have hl := r.length
  have hl' := r'.length
  refine ⟨fun hi => ?_, fun hi => ⟨vs, ws, hq, hq', by simp at hi; omega⟩⟩
  have hi' : i < vs.length ∧ i < ws.length := by simp at hi; omega
  refine ⟨⟨vs, ws, vs[i], ws[i], hq, hq', by simp [hi'.1], by simp [hi'.2]⟩, fun x H' y => ?_⟩
  obtain ⟨T, w, w', rfl, hT, rfl, hw, hw'⟩ := y
  obtain ⟨d, h1, h2⟩ := RzAll.get' r (hw vs hq)
  obtain ⟨e, h3, h4⟩ := RzAll.get' r' (hw' ws hq')
  refine ⟨.tuple [d, e], ?_, PRes.tup g hT (.cons (h2.same s) (.cons (h4.same s) .nil))⟩
  rw [List.getElem?_map, (List.getElem?_zip_eq_some (z := (d, e))).mpr ⟨h1, h3⟩]
  rfl
end

section
variable {p : Pm} {Wx : WX} {m m1 m2 : Bool} {σ σ1 : L2.St} {G H G1 H1 : Hp} {fps fps1 : Fps} {ε : Ev} {fx : List Nat}
/-- for x in e -/
def fIn (f : Ev → Res (Ent × Ev)) : Ev → Res (List PyData × Ev) := fun ε => (frzR f ε).bind fun q => match itemsOf q.1.2 with
  | some its => .ok (its, q.2)
  | none => .bad
theorem tIt_in {f : Ev → Res (Ent × Ev)} {R : It → Hp → Prop} (h : tIt p Wx m (fIn f) σ H R) : iAny p.K (tE p Wx m f) σ H R := by
  obtain ⟨ε, G, fps, r, a⟩ := h
  unfold fIn at a
  refine tB_frz ⟨ε, G, fps, r, ?_⟩
  cases e : frzR f ε with
  | ok q =>
    obtain ⟨⟨n, d⟩, ε1⟩ := q
    have hn : n = 0 := frz_zero e
    subst hn
    rw [e] at a
    intro v G1 H1 fps1 fp r1 rl t s
    obtain ⟨rfl, rl⟩ := rl
    have a : AfterI p Wx m σ G H fps (match itemsOf d with | some its => .ok (its, ε1) | none => .bad) R := a
    cases rl with
    | lst hs rr => exact .inl ⟨_, _, rfl, .inl (same_rd r1.sub hs), a _ G1 H1 fps1 r1 t s (src_list hs rr)⟩
    | tup hs rr => exact .inr (.inl ⟨_, _, rfl, same_sqt r1.sub hs, a _ G1 H1 fps1 r1 t s (src_tup hs rr)⟩)
    | str z => exact .inr (.inr ⟨z, rfl, a _ G1 H1 fps1 r1 t s src_str⟩)
    | _ => exact a.elim
  | exc x e' => rw [e] at a; exact a
  | bad => rw [e] at a; exact a
/-- 2^62; through a choice, so that the kernel never counts with it -/
noncomputable def B62 : Int := Classical.choose (⟨4611686018427387904, rfl⟩ : ∃ b : Int, b = 4611686018427387904)
theorem B62_eq : B62 = 4611686018427387904 := Classical.choose_spec (⟨4611686018427387904, rfl⟩ : ∃ b : Int, b = 4611686018427387904)
def fRng1 (f : Ev → Res (Ent × Ev)) : Ev → Res (List PyData × Ev) := fun ε => (frzR f ε).bind fun q => match q.1.2 with
  | .int j => if -B62 ≤ j ∧ j < B62 then .ok ((List.range j.toNat).map fun (k : Nat) => .int (0 + (k : Int)), q.2) else .bad
  | _ => .bad
theorem tIt_rng1 {f : Ev → Res (Ent × Ev)} {R : It → Hp → Prop} (h : tIt p Wx m (fRng1 f) σ H R) : iRng1 (tCons (tE p Wx m f) tNil) σ H R := by
  obtain ⟨ε, G, fps, r, a⟩ := h
  unfold fRng1 at a
  refine tB_frz ⟨ε, G, fps, r, ?_⟩
  cases e : frzR f ε with
  | ok q =>
    obtain ⟨⟨n, d⟩, ε1⟩ := q
    have hn : n = 0 := frz_zero e
    subst hn
    rw [e] at a
    intro v G1 H1 fps1 fp r1 rl t s
    obtain ⟨rfl, rl⟩ := rl
    cases rl with
    | int j =>
      have a : AfterI p Wx m σ G H fps (if -B62 ≤ j ∧ j < B62 then .ok ((List.range j.toNat).map fun (k : Nat) => PyData.int (0 + (k : Int)), ε1) else .bad) R := a
      by_cases c : -B62 ≤ j ∧ j < B62
      · rw [if_pos c] at a
        exact ⟨j, rfl, by have := c.1; rw [B62_eq] at this; omega, by have := c.2; rw [B62_eq] at this; omega, a _ G1 H1 fps1 r1 t s src_range⟩
      · rw [if_neg c] at a; exact a.elim
    | _ => exact a.elim
  | exc x e' => rw [e] at a; exact a
  | bad => rw [e] at a; exact a
/-- for i, x in enumerate(xs) -/
def fEnum (f : Ev → Res (Ent × Ev)) : Ev → Res (List PyData × Ev) := fun ε => (frzR f ε).bind fun q => match q.1.2 with
  | .list ds => .ok (ds.zipIdx.map fun q => .tuple [.int (q.2 : Nat), q.1], q.2)
  | _ => .bad
theorem tIt_enum {f : Ev → Res (Ent × Ev)} {R : It → Hp → Prop} (h : tIt p Wx m (fEnum f) σ H R) : iEnum p.K (tCons (tE p Wx m f) tNil) σ H R := by
  obtain ⟨ε, G, fps, r, a⟩ := h
  unfold fEnum at a
  refine tB_frz ⟨ε, G, fps, r, ?_⟩
  cases e : frzR f ε with
  | ok q =>
    obtain ⟨⟨n, d⟩, ε1⟩ := q
    have hn : n = 0 := frz_zero e
    subst hn
    rw [e] at a
    intro v G1 H1 fps1 fp r1 rl t s
    obtain ⟨rfl, rl⟩ := rl
    cases rl with
    | lst hs rr => exact ⟨_, _, rfl, .inl (same_rd r1.sub hs), a _ G1 H1 fps1 r1 t s (src_enum hs rr)⟩
    | _ => exact a.elim
  | exc x e' => rw [e] at a; exact a
  | bad => rw [e] at a; exact a

/-! two frozen values -/
theorem tIt2 {f g : Ev → Res (Ent × Ev)} {k : PyData → PyData → Ev → Res (List PyData × Ev)} {R : It → Hp → Prop} {S : V → V → Hp → Prop} (h : tIt p Wx (m1 || m2) (fun ε => (frzR f ε).bind fun q => (frzR g q.2).bind fun r => k q.1.2 r.1.2 r.2) σ H R)
    (step : ∀ (d e : PyData) (v w : V) (ε' : Ev) (G G' H' : Hp) (fps fps' : Fps), Rel p.K ε' σ G' H' fps' [] → Rz p.K G' v d → Rz p.K G' w e → Tr G H (Wf fps []) G' H' (Wf fps' []) → ((m1 || m2) = false → Same H H') → AfterI p Wx (m1 || m2) σ G H fps (k d e ε') R → S v w H') :
    tE p Wx m1 f σ H fun v H1 => tE p Wx m2 g σ H1 fun w H2 => S v w H2 := by
  obtain ⟨ε, G, fps, r, a⟩ := h
  dsimp only at a
  refine tB_frz ⟨ε, G, fps, r, ?_⟩
  cases e : frzR f ε with
  | exc x e' => rw [e] at a; exact a
  | bad => rw [e] at a; exact a
  | ok q =>
    obtain ⟨⟨n, d⟩, ε1⟩ := q
    obtain rfl : n = 0 := frz_zero e
    rw [e] at a
    intro v G1 H1 fps1 fp r1 rl t s
    obtain ⟨rfl, rl⟩ := rl
    refine tB_frz ⟨ε1, G1, fps1, r1, ?_⟩
    have a : AfterI p Wx (m1 || m2) σ G H fps ((frzR g ε1).bind fun r => k d r.1.2 r.2) R := a
    cases e2 : frzR g ε1 with
    | exc x e' => rw [e2] at a; exact fun cls dd G2 H2 fps2 r2 t2 ex => a cls dd G2 H2 fps2 r2 (t.trans t2) ex
    | bad => rw [e2] at a; exact a
    | ok q2 =>
      obtain ⟨⟨n2, d2⟩, ε2⟩ := q2
      obtain rfl : n2 = 0 := frz_zero e2
      rw [e2] at a
      intro w G2 H2 fps2 fp2 r2 rl2 t2 s2
      obtain ⟨rfl, rl2⟩ := rl2
      refine step d d2 v w ε2 G G2 H2 fps fps2 r2 (Rz.same t2.grow rl) rl2 (t.trans t2) (fun z => ?_) a
      simp only [Bool.or_eq_false_iff] at z
      exact (s z.1).trans (s2 z.2)
/-- for a, b in zip(xs, ys): lists, or tuples -/
def zipK (d e : PyData) (ε : Ev) : Res (List PyData × Ev) := match d, e with
  | .list ds, .list es => .ok ((ds.zip es).map fun q => .tuple [q.1, q.2], ε)
  | .tuple ds, .tuple es => .ok ((ds.zip es).map fun q => .tuple [q.1, q.2], ε)
  | _, _ => .bad
def fZip (f g : Ev → Res (Ent × Ev)) : Ev → Res (List PyData × Ev) := fun ε => (frzR f ε).bind fun q => (frzR g q.2).bind fun r => zipK q.1.2 r.1.2 r.2
theorem src_zipT {K : PySem.W.Frag} {G0 : Hp} {a b : Addr} {vs ws : List V} {ds es : List PyData} (h : SqT K G0 a vs) (h' : SqT K G0 b ws) (r : RzAll K G0 vs ds) (r' : RzAll K G0 ws es) : SrcOk K (ItzT K a b) G0 ((ds.zip es).map fun q => PyData.tuple [q.1, q.2]) := fun i G H s g => by
  have hq : SqT K H a vs := same_sqt g (same_sqt s h)
  have hq' : SqT K H b ws := same_sqt g (same_sqt s h')
  have hl := r.length
  have hl' := r'.length
  refine ⟨fun hi => ?_, fun hi => ⟨vs, ws, hq, hq', by simp at hi; omega⟩⟩
  have hi' : i < vs.length ∧ i < ws.length := by simp at hi; omega
  refine ⟨⟨vs, ws, vs[i], ws[i], hq, hq', by simp [hi'.1], by simp [hi'.2]⟩, fun x H' y => ?_⟩
  obtain ⟨T, w, w', rfl, hT, rfl, hw, hw'⟩ := y
  obtain ⟨d, h1, h2⟩ := RzAll.get' r (hw vs hq)
  obtain ⟨e, h3, h4⟩ := RzAll.get' r' (hw' ws hq')
  refine ⟨.tuple [d, e], ?_, PRes.tup g hT (.cons (h2.same s) (.cons (h4.same s) .nil))⟩
  rw [List.getElem?_map, (List.getElem?_zip_eq_some (z := (d, e))).mpr ⟨h1, h3⟩]
  rfl
theorem tIt_zip {f g : Ev → Res (Ent × Ev)} {R : It → Hp → Prop} (h : tIt p Wx (m1 || m2) (fZip f g) σ H R) : iZipA p.K (tCons (tE p Wx m1 f) (tCons (tE p Wx m2 g) tNil)) σ H R := by
  refine tIt2 (S := fun v w H2 => ∃ a b xs ys, [v, w] = [.ref a, .ref b] ∧ ((SqL p.K H2 a xs ∧ SqL p.K H2 b ys ∧ R (Itz p.K a b) H2) ∨ (SqT p.K H2 a xs ∧ SqT p.K H2 b ys ∧ R (ItzT p.K a b) H2))) h fun d e v w ε' G G' H' fps fps' r rd re t s a => ?_
  unfold zipK at a
  split at a
  · cases rd with
    | lst h1 r1 =>
      cases re with
      | lst h2 r2 => exact ⟨_, _, _, _, rfl, .inl ⟨.inl (same_rd r.sub h1), .inl (same_rd r.sub h2), a _ G' H' fps' r t s (src_zip h1 h2 r1 r2)⟩⟩
  · cases rd with
    | tup h1 r1 =>
      cases re with
      | tup h2 r2 => exact ⟨_, _, _, _, rfl, .inr ⟨same_sqt r.sub h1, same_sqt r.sub h2, a _ G' H' fps' r t s (src_zipT h1 h2 r1 r2)⟩⟩
  · exact a.elim
/-- for x in range(a, b) -/
def rng2K (d e : PyData) (ε : Ev) : Res (List PyData × Ev) := match d, e with
  | .int i, .int j => if -B62 ≤ i ∧ i < B62 ∧ -B62 ≤ j ∧ j < B62 then .ok ((List.range (j - i).toNat).map fun (k : Nat) => .int (i + (k : Int)), ε) else .bad
  | _, _ => .bad
def fRng2 (f g : Ev → Res (Ent × Ev)) : Ev → Res (List PyData × Ev) := fun ε => (frzR f ε).bind fun q => (frzR g q.2).bind fun r => rng2K q.1.2 r.1.2 r.2
theorem tIt_rng2 {f g : Ev → Res (Ent × Ev)} {R : It → Hp → Prop} (h : tIt p Wx (m1 || m2) (fRng2 f g) σ H R) : iRng2 (tCons (tE p Wx m1 f) (tCons (tE p Wx m2 g) tNil)) σ H R := by
  refine tIt2 (S := fun v w H2 => ∃ i j : Int, [v, w] = [.int i, .int j] ∧ (-(2 ^ 62) ≤ i ∧ i < 2 ^ 62 ∧ -(2 ^ 62) ≤ j ∧ j < 2 ^ 62) ∧ R (Itr i (j - i).toNat) H2) h fun d e v w ε' G G' H' fps fps' r rd re t s a => ?_
  unfold rng2K at a
  split at a
  · rename_i i j
    cases rd
    cases re
    split at a
    · rename_i c
      rw [B62_eq] at c
      exact ⟨i, j, rfl, ⟨by omega, by omega, by omega, by omega⟩, a _ G' H' fps' r t s src_range⟩
    · exact a.elim
  · exact a.elim
/-! ### targets -/
theorem setAllV_length : ∀ (is : List Nat) (vs : List V) (σ : L2.St), (setAllV is vs σ).length = σ.length
  | [], _, _ => by simp [setAllV]
  | i :: is, [], _ => by simp [setAllV]
  | i :: is, v :: vs, σ => by
    show (setAllV is vs (σ.set i (some v))).length = _
    rw [setAllV_length is vs, List.length_set]
theorem setAllV_ne : ∀ (is : List Nat) (vs : List V) (σ : L2.St) {j : Nat}, j ∉ is → (setAllV is vs σ)[j]? = σ[j]?
  | [], _, _, _, _ => by simp [setAllV]
  | i :: is, [], _, _, _ => by simp [setAllV]
  | i :: is, v :: vs, σ, j, h => by
    show (setAllV is vs (σ.set i (some v)))[j]? = _
    rw [setAllV_ne is vs _ (fun z => h (List.mem_cons_of_mem _ z)), List.getElem?_set_ne fun e => h (by subst e; exact List.mem_cons_self)]
def tgName (fx : List Nat) (i : Nat) : Tgt := ⟨[i], fun d ε => if fx.contains i then none else some (ε.set i (some (0, d)))⟩
def tgTup (fx is : List Nat) : Tgt := ⟨is, fun d ε => match d with
  | .tuple ds => if ds.length = is.length ∧ is.all (fun i => !fx.contains i) = true then some (setAll is ds ε) else none
  | _ => none⟩
theorem tg_name {K : PySem.W.Frag} {i : Nat} : TgOk K fx (tgName fx i) (gName i) := by
  intro ε ε' σ G H fps d x Q r rz h k
  unfold tgName at h
  dsimp only at h
  by_cases c : fx.contains i = true
  · rw [if_pos c] at h; cases h
  · rw [if_neg c] at h
    cases h
    exact k _ _ (r.assignVal i rz) (fun a w => w.assign) (Fixed.set (not_fx c)) (List.length_set ..) fun j hj => List.getElem?_set_ne fun e => hj (by subst e; exact List.mem_singleton.mpr rfl)
theorem tg_tup {K : PySem.W.Frag} {is : List Nat} : TgOk K fx (tgTup fx is) (gTup K is.length (gSet is)) := by
  intro ε ε' σ G H fps d x Q r rz h k
  unfold tgTup at h
  cases d with
  | tuple ds =>
    dsimp only at h
    by_cases c : ds.length = is.length ∧ is.all (fun i => !fx.contains i) = true
    · rw [if_pos c] at h
      cases h
      cases rz with
      | tup hs rr =>
        have hl : _ = is.length := rr.length.trans c.1
        obtain ⟨fps', r', w⟩ := r.setAll is rr
        refine ⟨_, _, rfl, same_sqt r.sub hs, hl, gSet_of is _ σ H _ hl (k _ fps' r' w (Fixed.setAll is _ σ fun i hi => ?_) ?_ ?_)⟩
        · have := List.all_eq_true.mp c.2 i hi
          exact not_fx (by simpa using this)
        · exact setAllV_length is _ σ
        · exact fun j hj => setAllV_ne is _ σ hj
    · rw [if_neg c] at h; cases h
  | _ => cases h
end
end
end Mb
end

section
set_option Elab.async false
set_option linter.all false
set_option maxRecDepth 100000
set_option maxHeartbeats 1000000
/-! Mb16: list comprehensions -/
namespace Mb
noncomputable section
open PySem PySem.Spec PyProof.Rows L2

def wipeE (ε : Ev) : List Nat → Ev
  | [] => ε
  | v :: vs => (wipeE ε vs).set v none
def keep0 : Option Ent → Option Ent
  | some (0, d) => some (0, d)
  | _ => none
/-- behind a comprehension: its own names are again what they were -/
def backE (ε1 ε2 : Ev) : List Nat → Ev
  | [] => ε2
  | v :: vs => match ε1[v]? with
    | some o => (backE ε1 ε2 vs).set v (keep0 o)
    | none => (backE ε1 ε2 vs).set v none
def cLoop (vs : List Nat) (tg : Tgt) (ts : Ev → Res (Bool × Ev)) (f : Ev → Res (Ent × Ev)) : List PyData → Ev → List PyData → Res (List PyData × Ev)
  | [], ε, acc => .ok (acc, ε)
  | d :: its, ε, acc => match tg.put d ε with
    | some ε1 => match ts ε1 with
      | .ok (true, ε2) => match f ε2 with
        | .ok (e, ε3) => if acc.length < LIM then cLoop vs tg ts f its (wipeE ε3 vs) (acc ++ [e.2]) else .bad
        | _ => .bad
      | .ok (false, ε2) => cLoop vs tg ts f its (wipeE ε2 vs) acc
      | _ => .bad
    | none => .bad
def fComp (vs : List Nat) (tg : Tgt) (src : Ev → Res (List PyData × Ev)) (ts : Ev → Res (Bool × Ev)) (f : Ev → Res (Ent × Ev)) : Ev → Res (Ent × Ev) := fun ε => (src ε).bind fun q =>
  (cLoop vs tg ts f q.1 (wipeE q.2 vs) []).bind fun r => .ok ((1, .list r.1), backE q.2 r.2 vs)

theorem wipe_get {σ : L2.St} {j : Nat} : ∀ {vs : List Nat}, j ∈ vs → j < σ.length → (wipe σ vs)[j]? = some none
  | [], h, _ => nomatch h
  | v :: vs, h, hl => by
    unfold wipe
    by_cases e : v = j
    · subst e; rw [List.getElem?_set_self (by rw [wipe_length]; exact hl)]
    · rw [List.getElem?_set_ne e]
      exact wipe_get ((List.mem_cons.mp h).resolve_left (Ne.symm e)) hl
theorem wipe_ne {σ : L2.St} {j : Nat} : ∀ {vs : List Nat}, j ∉ vs → (wipe σ vs)[j]? = σ[j]?
  | [], _ => rfl
  | v :: vs, h => by
    unfold wipe
    rw [List.getElem?_set_ne (fun e => h (by subst e; exact List.mem_cons_self))]
    exact wipe_ne fun z => h (List.mem_cons_of_mem _ z)
theorem wipe_eq {σ σ' : L2.St} {vs is : List Nat} (hl : σ'.length = σ.length) (h : ∀ j, j ∉ is → σ'[j]? = (wipe σ vs)[j]?) (sub : ∀ j ∈ is, j ∈ vs) : wipe σ' vs = wipe σ vs := by
  refine List.ext_getElem? fun j => ?_
  by_cases hj : j ∈ vs
  · by_cases hlt : j < σ.length
    · rw [wipe_get hj hlt, wipe_get hj (by omega)]
    · rw [List.getElem?_eq_none (by rw [wipe_length]; omega), List.getElem?_eq_none (by rw [wipe_length]; omega)]
  · rw [wipe_ne hj, h j (fun z => hj (sub j z))]
theorem wipeE_length (ε : Ev) : ∀ vs : List Nat, (wipeE ε vs).length = ε.length
  | [] => rfl
  | v :: vs => by unfold wipeE; rw [List.length_set, wipeE_length ε vs]
theorem backE_length (ε1 ε2 : Ev) : ∀ vs : List Nat, (backE ε1 ε2 vs).length = ε2.length
  | [] => rfl
  | v :: vs => by unfold backE; split <;> rw [List.length_set, backE_length ε1 ε2 vs]
theorem backE_ne {ε1 ε2 : Ev} {j : Nat} : ∀ {vs : List Nat}, j ∉ vs → (backE ε1 ε2 vs)[j]? = ε2[j]?
  | [], _ => rfl
  | v :: vs, h => by
    have hv : v ≠ j := fun e => h (by subst e; exact List.mem_cons_self)
    unfold backE
    split <;> (rw [List.getElem?_set_ne hv]; exact backE_ne fun z => h (List.mem_cons_of_mem _ z))
theorem backE_in {ε1 ε2 : Ev} {j : Nat} {e : Ent} : ∀ {vs : List Nat}, j ∈ vs → (backE ε1 ε2 vs)[j]? = some (some e) → e.1 = 0 ∧ ε1[j]? = some (some e)
  | [], h, _ => nomatch h
  | v :: vs, h, he => by
    unfold backE at he
    by_cases q : v = j
    · subst q
      have hset : ∀ {o : Option Ent}, ((backE ε1 ε2 vs).set v o)[v]? = some (some e) → o = some e := fun {o} z => by
        by_cases hl : v < (backE ε1 ε2 vs).length
        · rw [List.getElem?_set_self hl] at z; exact Option.some.inj z
        · rw [List.getElem?_eq_none (by rw [List.length_set]; omega)] at z; cases z
      split at he
      · rename_i o ho
        have := hset he
        rw [ho]
        cases o with
        | none => cases this
        | some en =>
          obtain ⟨n, d⟩ := en
          cases n with
          | zero => cases this; exact ⟨rfl, rfl⟩
          | succ n => cases this
      · cases hset he
    · have hj := (List.mem_cons.mp h).resolve_left (Ne.symm q)
      split at he <;> (rw [List.getElem?_set_ne q] at he; exact backE_in hj he)

section
variable {K : PySem.W.Frag} {ε ε1 ε2 : Ev} {σ : L2.St} {G H G1 H1 : Hp} {fps fps1 fps2 : Fps} {fp : List Addr}
theorem Rel.wiped (r : Rel K ε σ G H fps []) : ∀ vs : List Nat, ∃ fps', Rel K (wipeE ε vs) (wipe σ vs) G H fps' [] ∧ ∀ a, Wf fps' [] a → Wf fps [] a
  | [] => ⟨fps, r, fun _ h => h⟩
  | v :: vs => by
    obtain ⟨fps', r', w⟩ := Rel.wiped r vs
    exact ⟨_, r'.forget v none, fun a h => w a h.forget⟩
def offF (fps : Fps) (vs : List Nat) : Fps := fun j => if j ∈ vs then [] else fps j
theorem Wf.offF {vs : List Nat} {a : Addr} (h : Wf (Mb.offF fps vs) fp a) : Wf fps fp a := by
  rcases h with h | ⟨j, h⟩
  · exact .inl h
  · unfold Mb.offF at h
    split at h
    · cases h
    · exact .inr ⟨j, h⟩
/-- a new object that is nobody's -/
theorem Rel.other (r : Rel K ε σ G H fps fp) {a : Addr} {o : HO} (hG : G a = none) (hW : ¬ Wf fps fp a) : Rel K ε σ G (upd H a o) fps fp where
  len := r.len
  sub := fun b u e => by
    have : b ≠ a := fun z => by subst z; rw [hG] at e; cases e
    rw [upd_ne this]; exact r.sub b u e
  off := fun b w => by
    have : b ≠ a := fun z => by subst z; exact hW w
    rw [upd_ne this]; exact r.off b w
  nd := r.nd
  dis := r.dis
  tnd := r.tnd
  tdis := r.tdis
  at' := fun i e he => by
    obtain ⟨v, h1, h2⟩ := r.at' i e he
    exact ⟨v, h1, h2.keep (Same.refl G) fun b hb => upd_ne fun z => by subst z; exact hW (.inr ⟨i, hb⟩)⟩
/-- back in the def's own scope -/
theorem Rel.back {vs : List Nat} (r1 : Rel K ε1 σ G1 H1 fps1 []) (r2 : Rel K ε2 (wipe σ vs) G H fps2 fp) (g : Same G1 G) : Rel K (backE ε1 ε2 vs) σ G H (Mb.offF fps2 vs) fp where
  len := by rw [backE_length, ← r2.len, wipe_length]
  sub := r2.sub
  off := fun a w => r2.off a w.offF
  nd := fun i => by
    unfold Mb.offF
    split
    · exact .nil
    · exact r2.nd i
  dis := fun i j a h1 h2 => by
    unfold Mb.offF at h1 h2
    split at h1
    · cases h1
    · split at h2
      · cases h2
      · exact r2.dis i j a h1 h2
  tnd := r2.tnd
  tdis := fun i a h => by
    unfold Mb.offF
    split
    · exact fun z => nomatch z
    · exact r2.tdis i a h
  at' := fun j e he => by
    by_cases hj : j ∈ vs
    · obtain ⟨e0, h1⟩ := backE_in hj he
      obtain ⟨n, d⟩ := e
      obtain rfl : n = 0 := e0
      obtain ⟨v, hv, rfl', rz⟩ := r1.at' j _ h1
      refine ⟨v, hv, ?_, rz.same g⟩
      unfold Mb.offF
      rw [if_pos hj]
    · rw [backE_ne hj] at he
      obtain ⟨v, hv, o⟩ := r2.at' j e he
      rw [wipe_ne hj] at hv
      refine ⟨v, hv, ?_⟩
      unfold Mb.offF
      rw [if_neg hj]
      exact o
end

section
variable {p : Pm} {Wx Wf' : WX} {m ms mt me : Bool} {σ σ1 : L2.St} {G H G1 H1 : Hp} {fps fps1 : Fps} {ε : Ev} {fx : List Nat}
theorem tE_comp {vs : List Nat} {tg : Tgt} {g : TG} {src : Ev → Res (List PyData × Ev)} {ts : Ev → Res (Bool × Ev)} {f : Ev → Res (Ent × Ev)} {Q : VK} (hg : TgOk p.K fx tg g) (sub : ∀ j ∈ tg.is, j ∈ vs) (hm : m = false → ms = false ∧ mt = false ∧ me = false)
    (h : tE p Wx m (fComp vs tg src ts f) σ H Q) : tLc (tIt p Wx ms src) g (tT p Wf' mt ts) (tE p Wf' me f) vs σ H Q := by
  obtain ⟨ε, G, fps, r, a⟩ := h
  unfold fComp at a
  refine ⟨ε, G, fps, r, ?_⟩
  cases e : src ε with
  | exc x e' => rw [e] at a; exact a
  | bad => rw [e] at a; exact a
  | ok q =>
    obtain ⟨its, ε1⟩ := q
    rw [e] at a
    intro J G1 H1 fps1 r1 t1 s1 srcOk D hD
    have a : After p Wx m σ G H fps (relE p) ((cLoop vs tg ts f its (wipeE ε1 vs) []).bind fun r => .ok ((1, .list r.1), backE ε1 r.2 vs)) Q := a
    obtain ⟨fpsw, rw0, ww⟩ := r1.wiped vs
    have gD : ∀ {G' : Hp}, Same G' H1 → G' D = none := fun s => free_sub s hD
    have nW1 : ¬ Wf fps1 [] D := fun w => (r1.off D w).2 hD
    have nW0 : ¬ Wf fpsw [] D := fun w => nW1 (ww D w)
    have t0 : Tr G1 H1 (Wf fps1 []) G1 (upd H1 D (.lst [])) (Wf fpsw []) := ⟨fun b o hb _ => by rw [upd_ne (ne_of_none hb hD)]; exact hb, fun b hb => by
        by_cases q : b = D
        · subst q; rw [upd_same]; exact fun z => nomatch z
        · rw [upd_ne q]; exact hb, Same.refl _, fun _ h => .inl h, fun b w => .inl (ww b w)⟩
    refine ⟨fun i n H' => i + n = its.length ∧ ∃ (ε' : Ev) (G' : Hp) (fps' : Fps) (acc : List PyData) (va : List V), Rel p.K ε' (wipe σ vs) G' H' fps' [] ∧ Tr G1 H1 (Wf fps1 []) G' H' (Wf fps' []) ∧ (m = false → Same H1 H') ∧ H' D = some (.lst va) ∧ RzAll p.K G' va acc ∧
        G' D = none ∧ ¬ Wf fps' [] D ∧ cLoop vs tg ts f its (wipeE ε1 vs) [] = cLoop vs tg ts f (its.drop i) ε' acc,
      ⟨its.length, by omega, wipeE ε1 vs, G1, fpsw, [], [], rw0.other (gD r1.sub) nW0, t0, fun _ => sUpd hD, upd_same, .nil, gD r1.sub, nW0, rfl⟩, ?_⟩
    rintro i n H2 ⟨hn, ε2, G2, fps2, acc, va, r2, t2, s2, hD2, ra, g2, w2, e2⟩
    obtain ⟨hgo, hstop⟩ := srcOk i G2 H2 t2.grow r2.sub
    by_cases hi : i < its.length
    · obtain ⟨go, yl⟩ := hgo hi
      refine .inr ⟨go, fun H' => ∃ n', n' < n ∧ (i + 1 + n' = its.length ∧ ∃ (ε' : Ev) (G' : Hp) (fps' : Fps) (acc : List PyData) (va : List V), Rel p.K ε' (wipe σ vs) G' H' fps' [] ∧ Tr G1 H1 (Wf fps1 []) G' H' (Wf fps' []) ∧ (m = false → Same H1 H') ∧ H' D = some (.lst va) ∧ RzAll p.K G' va acc ∧
        G' D = none ∧ ¬ Wf fps' [] D ∧ cLoop vs tg ts f its (wipeE ε1 vs) [] = cLoop vs tg ts f (its.drop (i + 1)) ε' acc), fun H' h => h, fun x H3 hy => ?_⟩
      obtain ⟨d, hd, pr⟩ := yl x H3 hy
      have hdrop : its.drop i = d :: its.drop (i + 1) := by
        rw [List.drop_eq_getElem_cons hi]
        have := List.getElem?_eq_getElem hi
        rw [hd] at this
        rw [Option.some.inj this]
      obtain ⟨G3, fp3, r3, o3, t3, sH3⟩ := pr.rel r2
      obtain ⟨rfl, o3⟩ := o3
      -- where the new list stands, behind a step
      have stays : ∀ {Ga Ha Gb Hb : Hp} {fa fb : Fps}, Tr Ga Ha (Wf fa []) Gb Hb (Wf fb []) → Ha D = some (.lst va) → Ga D = none → ¬ Wf fa [] D → Hb D = some (.lst va) ∧ Gb D = none ∧ ¬ Wf fb [] D := fun {Ga Ha Gb Hb fa fb} t h1 h2 h3 => by
        refine ⟨t.keep D _ h1 h3, ?_, fun w => (t.wnew D w).elim h3 fun z => by rw [h1] at z; cases z⟩
        cases q : Gb D with
        | none => rfl
        | some o => exact ((t.new D (by rw [q]; exact fun z => nomatch z)).elim (fun z => absurd h2 z) fun z => z.elim (fun z => by rw [h1] at z; cases z) fun z => absurd z h3)
      obtain ⟨hD3, g3, w3⟩ := stays t3 hD2 g2 w2
      rw [hdrop, cLoop] at e2
      have a2 := a
      rw [e2] at a2
      cases ep : tg.put d ε2 with
      | none => rw [ep] at a2; exact a2.elim
      | some ε3 =>
        rw [ep] at a2 e2
        refine hg ε2 ε3 (wipe σ vs) G3 H3 fps2 d x _ r3 o3 ep fun σ4 fps4 r4 w4 f4 l4 n4 => ⟨wipe_eq (is := tg.is) (by rw [l4, wipe_length]) n4 sub, ε3, G3, fps4, r4, ?_⟩
        have hwσ : wipe σ4 vs = wipe σ vs := wipe_eq (is := tg.is) (by rw [l4, wipe_length]) n4 sub
        have t4 : Tr G3 H3 (Wf fps2 []) G3 H3 (Wf fps4 []) := Tr.refl.wsub w4
        obtain ⟨_, _, w4'⟩ := stays t4 hD3 g3 w3
        dsimp only at a2 e2
        cases et : ts ε3 with
        | exc x' e' => rw [et] at a2; exact a2.elim
        | bad => rw [et] at a2; exact a2.elim
        | ok q =>
          obtain ⟨b, ε5⟩ := q
          rw [et] at a2 e2
          intro b' G5 H5 fps5 fp5 r5 rl5 t5 s5
          obtain ⟨rfl, rfl⟩ := rl5
          obtain ⟨hD5, g5, w5⟩ := stays t5 hD3 g3 w4'
          have sm5 : m = false → Same H1 H5 := fun z => ((s2 z).trans sH3).trans (s5 (hm z).2.1)
          cases b' with
          | false =>
            rw [if_neg Bool.false_ne_true]
            dsimp only at e2
            obtain ⟨fps6, r6, w6⟩ := r5.wiped vs
            rw [hwσ] at r6
            exact ⟨n - 1, by omega, by omega, wipeE ε5 vs, G5, fps6, acc, va, r6, (((t2.trans t3).trans t4).trans t5).wsub w6, sm5, hD5, ra.same (t3.grow.trans t5.grow), g5, fun w => w5 (w6 D w), e2⟩
          | true =>
            rw [if_pos rfl]
            dsimp only at a2 e2
            refine ⟨ε5, G5, fps5, r5, ?_⟩
            cases ef : f ε5 with
            | exc x' e' => rw [ef] at a2; exact a2.elim
            | bad => rw [ef] at a2; exact a2.elim
            | ok q =>
              obtain ⟨en, ε6⟩ := q
              rw [ef] at a2 e2
              dsimp only at a2 e2
              intro v G6 H6 fps6 fp6 r6 o6 t6 s6
              by_cases hz : acc.length < LIM
              · rw [if_pos hz] at e2
                have o6' := o6.freeze r6
                have t6' := t6.freeze r6
                have r6' := r6.freeze
                obtain ⟨hD6, g6, w6⟩ := stays t6' hD5 g5 w5
                obtain ⟨fps7, r7, w7⟩ := r6'.wiped vs
                rw [hwσ] at r7
                have tt := ((((t2.trans t3).trans t4).trans t5).trans t6').wsub w7
                have lenva : va.length = acc.length := ra.length
                refine ⟨va, hD6, by rw [lenva, ← lim_line]; exact hz, n - 1, by omega, by omega, wipeE ε6 vs, _, fps7, acc ++ [en.2], va ++ [v], r7.other g6 (fun w => w6 (w7 D w)), ?_, fun z => ?_, upd_same, ?_, g6, fun w => w6 (w7 D w), e2⟩
                · refine ⟨fun b o hb hw => ?_, fun b hb => ?_, tt.grow, tt.new, tt.wnew⟩
                  · rw [upd_ne (ne_of_none hb hD)]; exact tt.keep b o hb hw
                  · by_cases q : b = D
                    · subst q; rw [upd_same]; exact fun z => nomatch z
                    · rw [upd_ne q]; exact tt.there b hb
                · intro b o hb
                  rw [upd_ne (ne_of_none hb hD)]
                  exact ((sm5 z).trans (s6 (hm z).2.2)) b o hb
                · exact (ra.same (t3.grow.trans (t5.grow.trans t6'.grow))).append (.cons o6' .nil)
              · rw [if_neg hz] at a2; exact a2.elim
    · refine .inl ⟨hstop (by omega), ?_⟩
      have hd : its.drop i = [] := List.drop_eq_nil_of_le (by omega)
      rw [hd, cLoop] at e2
      rw [e2] at a
      have rb := r1.back r2 t2.grow
      have rD : Rel p.K (backE ε1 ε2 vs) σ G2 H2 (offF fps2 vs) [D] := ⟨rb.len, rb.sub, fun b w => ?_, rb.nd, rb.dis, by simp, fun j b hb => ?_, rb.at'⟩
      · refine a (.ref D) G2 H2 (offF fps2 vs) [D] rD ⟨D, [], rfl, rfl, .inl ⟨va, acc, rfl, hD2, all3_zero ra⟩⟩ ⟨(t1.trans t2).keep, (t1.trans t2).there, (t1.trans t2).grow, (t1.trans t2).new, fun b w => ?_⟩ fun z => (s1 (hm z).1).trans (s2 z)
        rcases w with w | ⟨j, w⟩
        · have e : b = D := by simpa using w
          subst e
          have back : H1 b = none → H b = none := fun e => Classical.byContradiction fun n => t1.there b n e
          exact .inr (back hD)
        · exact (t1.trans t2).wnew b (Wf.offF (.inr ⟨j, w⟩))
      · rcases w with w | ⟨j, w⟩
        · have e : b = D := by simpa using w
          subst e
          exact ⟨g2, by rw [hD2]; exact fun z => nomatch z⟩
        · exact rb.off b (.inr ⟨j, w⟩)
      · have e : b = D := by simpa using hb
        subst e
        exact fun w => w2 (Wf.offF (.inr ⟨j, w⟩))
end
end
end Mb
end

section
set_option Elab.async false
set_option linter.all false
set_option maxRecDepth 100000
set_option maxHeartbeats 1000000
/-! Mb17: defs and their calls -/
namespace Mb
noncomputable section
open PySem PySem.Spec PyProof.Rows L2

/-- what a def gives: its value and the last state of its parameters, or an error -/
inductive FRes where
  | ok (e : Ent) (ps : List (Option Ent))
  | exc (x : Exn)
  | bad
abbrev FD := List Ent → FRes
/-- a def's promise -/
def spF (p : Pm) (F : FD) : Sp := fun vs H Q E => ∃ (as : List Ent) (G : Hp) (fps : Fps), Rel p.K (as.map some) (vs.map some) G H fps [] ∧ (∀ i, as.length ≤ i → fps i = []) ∧ match F as with
  | .ok e ps => ∀ (v : V) (G' H' : Hp) (fps' : Fps) (fp : List Addr), Rel p.K ps (vs.map some) G' H' fps' fp → Ow p.K G' H' e.1 v e.2 fp → Tr G H (Wf fps []) G' H' (Wf fps' fp) → (∀ i, as.length ≤ i → fps' i = []) → Q v H'
  | .exc x => ∀ (cls : Value) (d : Option Addr) (G' H' : Hp), Tr G H (Wf fps []) G' H' (fun _ => False) → Same G' H' → ExcAt p x cls d H' → E cls d H'
  | .bad => False
def maskP (fx : List Nat) (n : Nat) (ε : Ev) : List (Option Ent) := (List.range n).map fun i => if fx.contains i then (ε[i]?).join else none
def runF (N n : Nat) (fx : List Nat) (g : Ev → Res (Fl × Ev)) : FD := fun as =>
  if as.length = n then match g (as.map some ++ List.replicate (N - n) none) with
    | .ok (.ret e, ε) => .ok e (maskP fx n ε)
    | .ok (.next, ε) => .ok (0, .none) (maskP fx n ε)
    | .exc x _ => .exc x
    | _ => .bad
  else .bad

/-- a def keeps its promise where nothing is being shown -/
structure FnG (P : Program) (w : World) (K : PySem.W.Frag) (mg : Str → Option Value) (base : Heap) (k : Nat) (f : Addr) (fd : FuncData) (ps : List Str) (sp : Sp) : Prop where
  len : ∀ vs H Q E, sp vs H Q E → vs.length = ps.length
  run : ∀ (A : Around) (outer : List Env) (s : Shared) (H : Hp) (args : Args) (us : List Value) (vs : List V) (Q : VK) (E : XK), Room k A → A.guards = some [] → Env0 P w K mg base A outer s H → BindsTo s fd args (ps.zip us) → Vals vs us →
    sp vs H Q E → codeAny (model P w) A (.call (.ref f) args) (CR (CX P w) outer P w H s Q E) s
theorem FnG.mono {P : Program} {w : World} {K : PySem.W.Frag} {mg : Str → Option Value} {base : Heap} {j k : Nat} {f : Addr} {fd : FuncData} {ps : List Str} {sp : Sp} (F : FnG P w K mg base j f fd ps sp) (h : j ≤ k) : FnG P w K mg base k f fd ps sp :=
  ⟨F.len, fun A outer s H args us vs Q E hr => F.run A outer s H args us vs Q E (hr.mono h)⟩

section
variable {K : PySem.W.Frag} {σ : L2.St} {G H : Hp} {fps : Fps} {fp : List Addr}
theorem pad_get {α : Type} {l : List α} {n i : Nat} {e : α} (h : (l.map some ++ List.replicate n none)[i]? = some (some e)) : i < l.length ∧ l[i]? = some e := by
  by_cases hi : i < l.length
  · rw [List.getElem?_append_left (by simpa using hi), List.getElem?_map] at h
    refine ⟨hi, ?_⟩
    cases q : l[i]? with
    | none => rw [q] at h; cases h
    | some x => rw [q] at h; cases h; rfl
  · rw [List.getElem?_append_right (by simpa using hi), List.getElem?_replicate] at h
    split at h <;> cases h
theorem map_get {α : Type} {l : List α} {i : Nat} {e : α} (h : (l.map some)[i]? = some (some e)) : l[i]? = some e := by
  rw [List.getElem?_map] at h
  cases q : l[i]? with
  | none => rw [q] at h; cases h
  | some x => rw [q] at h; cases h; rfl
theorem Rel.pad {as : List Ent} {vs : List V} (r : Rel K (as.map some) (vs.map some) G H fps fp) (n : Nat) : Rel K (as.map some ++ List.replicate n none) (vs.map some ++ List.replicate n none) G H fps fp where
  len := by have := r.len; simp at this ⊢; omega
  sub := r.sub
  off := r.off
  nd := r.nd
  dis := r.dis
  tnd := r.tnd
  tdis := r.tdis
  at' := fun i e he => by
    obtain ⟨hi, he'⟩ := pad_get he
    obtain ⟨v, hv, o⟩ := r.at' i e (by rw [List.getElem?_map, he']; rfl)
    refine ⟨v, ?_, o⟩
    have hl : vs.length = as.length := by have := r.len; simpa using this
    rw [List.getElem?_append_left (by simpa [hl] using hi)]
    exact hv
def maskF (fx : List Nat) (n : Nat) (fps : Fps) : Fps := fun i => if i < n ∧ fx.contains i = true then fps i else []
theorem Wf.maskF {fx : List Nat} {n : Nat} {a : Addr} (h : Wf (Mb.maskF fx n fps) fp a) : Wf fps fp a := by
  rcases h with h | ⟨i, h⟩
  · exact .inl h
  · unfold Mb.maskF at h
    split at h
    · exact .inr ⟨i, h⟩
    · cases h
theorem Rel.mask {ε : Ev} {vs : List V} {fx : List Nat} {n k : Nat} (r : Rel K ε σ G H fps fp) (hn : vs.length = n) (hf : Fixed fx (vs.map some ++ List.replicate k none) σ) : Rel K (maskP fx n ε) (vs.map some) G H (Mb.maskF fx n fps) fp where
  len := by unfold maskP; simp [hn]
  sub := r.sub
  off := fun a w => r.off a w.maskF
  nd := fun i => by
    unfold Mb.maskF
    split
    · exact r.nd i
    · exact .nil
  dis := fun i j a h1 h2 => by
    unfold Mb.maskF at h1 h2
    split at h1
    · split at h2
      · exact r.dis i j a h1 h2
      · cases h2
    · cases h1
  tnd := r.tnd
  tdis := fun i a h => by
    unfold Mb.maskF
    split
    · exact r.tdis i a h
    · exact fun z => nomatch z
  at' := fun i e he => by
    have hi : i < n := by
      by_cases hi : i < n
      · exact hi
      · rw [List.getElem?_eq_none (by unfold maskP; simp; omega)] at he; cases he
    unfold maskP at he
    rw [List.getElem?_map, List.getElem?_range hi] at he
    have he : (if fx.contains i then (ε[i]?).join else none) = some e := Option.some.inj he
    by_cases c : fx.contains i = true
    · rw [if_pos c] at he
      have he' : ε[i]? = some (some e) := by
        cases q : ε[i]? with
        | none => rw [q] at he; cases he
        | some o => rw [q] at he; have : o = some e := he; rw [this]
      obtain ⟨v, hv, o⟩ := r.at' i e he'
      refine ⟨v, ?_, ?_⟩
      · have := hf i (by simpa using c)
        rw [hv] at this
        rw [List.getElem?_append_left (by simp; omega)] at this
        exact this.symm
      · unfold Mb.maskF
        rw [if_pos ⟨hi, c⟩]
        exact o
    · rw [if_neg c] at he; cases he
theorem Tr.less {G0 H0 : Hp} {W0 W W' : Addr → Prop} (t : Tr G0 H0 W0 G H W) (h : ∀ a, W' a → W a) : Tr G0 H0 W0 G H W' := ⟨t.keep, t.there, t.grow, t.new, fun a w => t.wnew a (h a w)⟩
end

/-- the wish of a def's body about errors -/
def wE (E : XK) : WX := fun cls d _ H => E cls d H
/-- THE RULE for a def -/
theorem fnG_of {P : Program} {w : World} {K : PySem.W.Frag} {mg : Str → Option Value} {base : Heap} {k : Nat} {f : Addr} {name qual : Str} {params : Arguments} {body : List Stmt} {scope : Scope} {dV kV doc pm cdv ct oc : Value} {an od : Option Addr}
    {osl : Array (Option Value)} {N ps : List Str} {fx : List Nat} {g : Ev → Res (Fl × Ev)} (lk : K.lookup f = some ⟨oc, od, .func (PySem.W.fnOf name qual params body scope dV kV doc pm an cdv ct), osl⟩) (hcd : PySem.W.codeIn K cdv qual = true) (S : FnScope N ps scope)
    (hbody : ∀ (A : Around) (outer : List Env) (s : Shared) (H : Hp) (E : XK), Room k (A.deeper (envOfC qual scope s.heap.objs.size f cdv)) → A.guards = some [] →
      PSs (cxOf (CX P w) P w K mg base N qual scope f cdv A outer s H E) body (tS ⟨K, mg⟩ (wE E) fx g)) :
    FnG P w K mg base (k + 1) f (PySem.W.fnOf name qual params body scope dV kV doc pm an cdv ct) ps (spF ⟨K, mg⟩ (runF N.length ps.length fx g)) := by
  have hlen : ∀ vs H Q E, spF ⟨K, mg⟩ (runF N.length ps.length fx g) vs H Q E → vs.length = ps.length := fun vs H Q E ⟨as, G, fps, r, _, h⟩ => by
    have hl : vs.length = as.length := by have := r.len; simpa using this
    unfold runF at h
    by_cases c : as.length = ps.length
    · rw [hl, c]
    · rw [if_neg c] at h; exact h.elim
  refine ⟨hlen, fun A outer s H args us vs Q E hroom hgd e0 hb rv hsp => ?_⟩
  have hvl := hlen vs H Q E hsp
  have kin : K.In s.heap := e0.mod.kin.keeps fun b o e => (e0.bs b o e).1
  have nol : s.heap.NoLimit := e0.mod.nolimit.keeps fun b o e => (e0.bs b o e).1
  have kinds : ∀ y ∈ ps.zip us, scope.names.lookup y.1 = some .local ∨ (scope.names.lookup y.1 = some .cell ∧ ((cellsFrom (s.heap.objs.size + 1) scope.names []).lookup y.1).isSome = true) := fun ⟨x, u⟩ hy =>
    (S.par x (List.of_mem_zip hy).1).imp_right fun q => ⟨q, PySem.W.cellsFrom_some _ _ _ (.inl q)⟩
  refine codeAny_call_function hroom.depth (kin _ _ lk) rfl S.co S.gen rfl (PySem.W.codeRec_of kin hcd) (hb _ _ _ _ (wpAny_newFunctionEnv_cells S.kind kinds fun env he s1 x => ?_))
  subst he
  refine ⟨nol.keeps x.toInCall.keep, codeAny_func ?_⟩
  have I0 : Inv (cxOf (CX P w) P w K mg base N qual scope f cdv A outer s H E) [] (L2.start N vs) H s1 := inv_start S hroom.hd e0 hvl rv x
  obtain ⟨as, G, fps, r, hout, hres⟩ := hsp
  have hal : as.length = ps.length := by have := r.len; simp at this; omega
  have hst : L2.start N vs = vs.map some ++ List.replicate (N.length - ps.length) none := by unfold L2.start; rw [hvl]
  have hgo : tS ⟨K, mg⟩ (wE E) fx g { nx := fun _ H' => Q .non H', rt := Q } (L2.start N vs) H := by
    refine ⟨as.map some ++ List.replicate (N.length - ps.length) none, G, fps, by rw [hst]; exact r.pad _, ?_⟩
    unfold runF at hres
    rw [if_pos hal] at hres
    have fin : ∀ {ε' : Ev} {σ' : L2.St} {G' H' : Hp} {fps' : Fps} {fp : List Addr} {e : Ent} {v : V}, Rel K ε' σ' G' H' fps' fp → Ow K G' H' e.1 v e.2 fp → Tr G H (Wf fps []) G' H' (Wf fps' fp) → Fixed fx (L2.start N vs) σ' →
        (∀ (v : V) (G' H' : Hp) (fps' : Fps) (fp : List Addr), Rel K (maskP fx ps.length ε') (vs.map some) G' H' fps' fp → Ow K G' H' e.1 v e.2 fp → Tr G H (Wf fps []) G' H' (Wf fps' fp) → (∀ i, as.length ≤ i → fps' i = []) → Q v H') → Q v H' :=
      fun {ε' σ' G' H' fps' fp e v} r' o t hf q => by
        rw [hst] at hf
        refine q v G' H' _ fp (r'.mask hvl hf) o (t.less fun a wa => wa.maskF) fun i hi => ?_
        unfold maskF
        rw [if_neg (fun z => absurd z.1 (by omega))]
    cases eg : g (as.map some ++ List.replicate (N.length - ps.length) none) with
    | ok q =>
      obtain ⟨fl, ε'⟩ := q
      rw [eg] at hres
      cases fl with
      | next => exact fun σ' G' H' fps' r' t hf => fin (e := (0, .none)) r' ⟨rfl, .non⟩ t hf hres
      | brk => exact hres.elim
      | cont => exact hres.elim
      | ret e => exact fun v σ' G' H' fps' fp r' o t hf => fin r' o t hf hres
    | exc x' ε' => rw [eg] at hres; exact fun cls d σ' G' H' fps' r' t hf ex => hres cls d G' H' (t.less fun _ z => z.elim) r'.sub ex
    | bad => rw [eg] at hres; exact hres.elim
  refine wpAny_mono ((hbody A outer s H E (hroom.deeper _) hgd).run [] s1 (L2.start N vs) H _ I0 hgo) (fun fl s' hs => ?_) fun e s' hs => hs
  have fin : ∀ {σ' : L2.St} {H' : Hp} {v : V} {u : Value}, Inv (cxOf (CX P w) P w K mg base N qual scope f cdv A outer s H E) [] σ' H' s' → RelV v u → Q v H' → CE outer P w H s Q u s' := fun {σ' H' v u} J rv q => ⟨v, H', J.os, J.bare, J.base, J.hok, rv, q⟩
  cases fl with
  | next => obtain ⟨σ', H', J, q⟩ := hs; exact fin (v := V.non) (u := Value.none) J rfl q
  | ret u => obtain ⟨v, σ', H', J, rv, q⟩ := hs; exact fin J rv q
  | brk => obtain ⟨_, _, _, q⟩ := hs; exact q.elim
  | cont => obtain ⟨_, _, _, q⟩ := hs; exact q.elim
end
end Mb
end

section
set_option Elab.async false
set_option linter.all false
set_option maxRecDepth 100000
set_option maxHeartbeats 1000000
/-! Mb18: calls of defs -/
namespace Mb
noncomputable section
open PySem PySem.Spec PyProof.Rows L2

inductive Ag where
  | own (i : Nat)
  | val (d : PyData)
def agOk (K : PySem.W.Frag) (σ : L2.St) (G : Hp) (v : V) : Ag → Prop
  | .own i => σ[i]? = some (some v)
  | .val d => Rz K G v d
def relC (p : Pm) (σ : L2.St) : List V → List Ag → Hp → Hp → List Addr → Prop := fun vs as G H fp => fp = [] ∧ PySem.Paired (agOk p.K σ G) vs as
theorem agOk.grow {K : PySem.W.Frag} {σ : L2.St} {G G' : Hp} (s : Same G G') {v : V} {a : Ag} (h : agOk K σ G v a) : agOk K σ G' v a := by
  cases a with
  | own i => exact h
  | val d => exact Rz.same s h
def cNil : Ev → Res (List Ag × Ev) := fun ε => .ok ([], ε)
def cVal (f : Ev → Res (Ent × Ev)) (g : Ev → Res (List Ag × Ev)) : Ev → Res (List Ag × Ev) := fun ε => (frzR f ε).bind fun q => (g q.2).bind fun r => .ok (.val q.1.2 :: r.1, r.2)
def cOwn (i : Nat) (g : Ev → Res (List Ag × Ev)) : Ev → Res (List Ag × Ev) := fun ε => match ε[i]? with
  | some (some _) => (g ε).bind fun r => .ok (.own i :: r.1, r.2)
  | _ => .bad
section
variable {p : Pm} {Wx : WX} {m m1 m2 : Bool} {σ : L2.St} {G H : Hp} {fps : Fps} {ε : Ev}
theorem tC_nil {Q : List V → Hp → Prop} (h : tR p Wx m (relC p σ) cNil σ H Q) : tNil σ H Q := by
  obtain ⟨ε, G, fps, r, a⟩ := h
  exact a [] G H fps [] r ⟨rfl, .nil⟩ Tr.refl fun _ => Same.refl H
theorem tC_val {f : Ev → Res (Ent × Ev)} {g : Ev → Res (List Ag × Ev)} {Q : List V → Hp → Prop} (h : tR p Wx (m1 || m2) (relC p σ) (cVal f g) σ H Q) :
    tE p Wx m1 f σ H fun x H1 => tR p Wx m2 (relC p σ) g σ H1 fun xs H2 => Q (x :: xs) H2 := by
  refine tR.bind0 (g := fun q ε => (g ε).bind fun r => .ok (.val q.2 :: r.1, r.2)) h fun d v ε1 G G1 H1 fps fps1 r1 rz t s a => ?_
  refine ⟨ε1, G1, fps1, r1, ?_⟩
  dsimp only at a
  cases e : g ε1 with
  | ok q =>
    obtain ⟨as, ε2⟩ := q
    rw [e] at a
    intro vs G2 H2 fps2 fp r2 rl2 t2 s2
    obtain ⟨rfl, rl2⟩ := rl2
    refine a (v :: vs) G2 H2 fps2 [] r2 ⟨rfl, .cons (Rz.same t2.grow rz) rl2⟩ (t.trans t2) fun z => ?_
    simp only [Bool.or_eq_false_iff] at z
    exact (s z.1).trans (s2 z.2)
  | exc x' ε2 =>
    rw [e] at a
    intro cls d' G2 H2 fps2 r2 t2 x2
    exact a cls d' G2 H2 fps2 r2 (t.trans t2) x2
  | bad => rw [e] at a; exact a
theorem tC_own {i : Nat} {g : Ev → Res (List Ag × Ev)} {Q : List V → Hp → Prop} (h : tR p Wx m (relC p σ) (cOwn i g) σ H Q) : tVar i σ H fun x H1 => tR p Wx m (relC p σ) g σ H1 fun xs H2 => Q (x :: xs) H2 := by
  obtain ⟨ε, G, fps, r, a⟩ := h
  unfold cOwn at a
  cases e : ε[i]? with
  | none => rw [e] at a; exact a.elim
  | some o =>
    cases o with
    | none => rw [e] at a; exact a.elim
    | some en =>
      rw [e] at a
      obtain ⟨v, hv, _⟩ := r.at' i en e
      refine ⟨v, hv, ε, G, fps, r, ?_⟩
      dsimp only at a
      cases e2 : g ε with
      | ok q =>
        obtain ⟨as, ε2⟩ := q
        rw [e2] at a
        intro vs G2 H2 fps2 fp r2 rl2 t2 s2
        obtain ⟨rfl, rl2⟩ := rl2
        exact a (v :: vs) G2 H2 fps2 [] r2 ⟨rfl, .cons hv rl2⟩ t2 s2
      | exc x' ε2 => rw [e2] at a; exact a
      | bad => rw [e2] at a; exact a
end

/-- what is handed on: the owned variables' entries as they stand now -/
def getA (ε : Ev) : List Ag → Option (List Ent)
  | [] => some []
  | .val d :: r => (getA ε r).map ((0, d) :: ·)
  | .own i :: r => match ε[i]? with
    | some (some e) => (getA ε r).map (e :: ·)
    | _ => none
/-- the owned ones: place in the call, slot -/
def owns : Nat → List Ag → List (Nat × Nat)
  | _, [] => []
  | k, .val _ :: r => owns (k + 1) r
  | k, .own i :: r => (k, i) :: owns (k + 1) r
def isV : Ag → Bool
  | .val _ => true
  | _ => false
def fCallV (F : FD) (h : Ev → Res (List Ag × Ev)) : Ev → Res (Ent × Ev) := fun ε => (h ε).bind fun q => if q.1.all isV = true then match getA q.2 q.1 with
  | some as => match F as with
    | .ok e _ => .ok (e, q.2)
    | .exc x => .exc x q.2
    | .bad => .bad
  | none => .bad
  else .bad
def fCallO (F : FD) (h : Ev → Res (List Ag × Ev)) : Ev → Res (Ent × Ev) := fun ε => (h ε).bind fun q => match owns 0 q.1 with
  | [(k, i)] => match getA q.2 q.1 with
    | some as => match F as with
      | .ok e ps => .ok (e, q.2.set i (ps[k]?).join)
      | _ => .bad
    | none => .bad
  | _ => .bad

section
variable {K : PySem.W.Frag} {σ : L2.St} {G H : Hp} {fps : Fps} {ε : Ev}
theorem getA_val : ∀ {ags : List Ag} {vs : List V} {as : List Ent}, ags.all isV = true → getA ε ags = some as → PySem.Paired (agOk K σ G) vs ags → as.length = vs.length ∧ ∀ (i : Nat) (e : Ent), as[i]? = some e → ∃ v, vs[i]? = some v ∧ e.1 = 0 ∧ Rz K G v e.2
  | [], _, as, _, h, .nil => by cases h; exact ⟨rfl, fun i e z => by simp at z⟩
  | .val d :: r, _, as, hv, h, .cons o t => by
    obtain ⟨as', h', rfl⟩ := Option.map_eq_some_iff.mp h
    obtain ⟨hl, ih⟩ := getA_val (ags := r) (by rw [List.all_cons, Bool.and_eq_true] at hv; exact hv.2) h' t
    refine ⟨by simp [hl], fun i e z => ?_⟩
    cases i with
    | zero => simp at z; subst z; exact ⟨_, rfl, rfl, o⟩
    | succ i => obtain ⟨v, h1, h2⟩ := ih i e (by simpa using z); exact ⟨v, by simpa using h1, h2⟩
  | .own i :: r, _, as, hv, h, .cons o t => by simp [isV] at hv
end

section
variable {P : Program} {X : Cx} {p : Pm} {Wx : WX} {m : Bool} {k : Nat} {f : Addr} {fd : FuncData} {ps : List Str} {F : FD} {x : Str} {p' pos : Pos} {e : Expr} {es : List Expr}
/-- the callee runs -/
theorem runG {sp : Sp} {E : XK} {pins : List (Addr × Obj)} {σ : L2.St} {H : Hp} {s : Shared} {Q : VK} {us : List Value} {vs : List V} (Fn : FnG X.prog X.w X.K X.mg X.base k f fd ps sp) (hr : Room k X.A) (hgd : X.A.guards = some []) (hb : Binds X.K fd ps [])
    (hx : ∀ H s e s', Inv X pins σ H s → CX X.prog X.w X.stack H s E e s' → X.xe e s') (I : Inv X pins σ H s) (r : Vals vs us) (h : sp vs H Q E) : wpAny (model X.prog X.w) X.A (call (.ref f) us) (EP X pins σ Q) X.xe s := by
  have hl : us.length = ps.length := r.length.symm.trans (Fn.len _ _ _ _ h)
  have hbb := hb s us I.kIn (by rw [List.append_nil]; exact hl)
  rw [List.append_nil] at hbb
  refine wpAny_call (codeAny_mono (Fn.run X.A X.stack s H ⟨us, []⟩ us vs Q E hr hgd I.env0 hbb r h) fun res s' hq => ?_)
  cases res with
  | ok fl =>
    cases fl with
    | ret u => exact I.after hq
    | _ => exact False.elim hq
  | error e => exact hx H s e s' I hq
/-- f(e, ..): the reading keeps the slots at the call for the error's wish -/
theorem pe_callG {t : L2.St → TA} (Fn : FnG X.prog X.w X.K X.mg X.base k f fd ps (spF p F)) (hr : Room k X.A) (hgd : X.A.guards = some []) (tk : Takes X Wx) (hg : Gl X x) (hm : X.mg x = some (.ref f)) (hk : PySem.W.keepIn X.K (.ref f) = true) (hb : Binds X.K fd ps [])
    (ha : ∀ σ, PA X (e :: es) (t σ)) (hdb : (x == ("__debug__" : Str)) = false) (he : starEach (e :: es) X.env = (false, eval e X.env) :: starEach es X.env) (hpl : (backTo pos (starEach es X.env)).any (·.1) = false) :
    PE X (.Call (.Name x p') (e :: es) [] pos) (fun σ H Q => t σ σ H fun vs H1 => spF p F vs H1 Q fun cls d H' => Wx cls d σ H') := by
  refine ⟨fun pins s σ H Q I h => wpAny_Call_Name_kw (ld_glob I hg hm ?_ hdb)⟩
  refine PySem.W.callWith_K (h₀ := X.base) I.ok.mod.kin hk (thn ((ha σ).run pos pins s σ H _ I h) fun us s1 ⟨vs, H1, I1, r, q⟩ => ⟨I1.kIn, ?_⟩) he hpl
  exact runG Fn hr hgd hb (fun H s e s' I c => tk e s' (XE.of_call I (fun cls d H' h => h) c)) I1 r q
end
section
variable {p : Pm} {Wx : WX} {m : Bool} {σ : L2.St} {G H : Hp} {fps : Fps} {ε : Ev} {F : FD}
theorem tE_callV {h : Ev → Res (List Ag × Ev)} {Q : VK} (hh : tE p Wx m (fCallV F h) σ H Q) : tR p Wx m (relC p σ) h σ H fun vs H1 => spF p F vs H1 Q fun cls d H' => Wx cls d σ H' := by
  have hh : tR p Wx (m || false) (relE p) (fCallV F h) σ H Q := by rw [Bool.or_false]; exact hh
  refine tR.bind (m2 := false) (g := fun ags ε => if ags.all isV = true then match getA ε ags with | some as => (match F as with | .ok e _ => .ok (e, ε) | .exc x => .exc x ε | .bad => .bad) | none => .bad else .bad) (fun _ _ _ _ _ h => h.1) hh
    fun ags vs ε1 G G1 H1 fps fps1 r1 rl t s a => ?_
  by_cases c : ags.all isV = true
  · rw [if_pos c] at a
    cases ea : getA ε1 ags with
    | none => rw [ea] at a; exact a.elim
    | some as =>
      rw [ea] at a
      dsimp only at a
      obtain ⟨hl, hi⟩ := getA_val c ea rl.2
      have rc : Rel p.K (as.map some) (vs.map some) G1 H1 (fun _ => []) [] := ⟨by simp [hl], r1.sub, (fun a w => by rcases w with w | ⟨_, w⟩ <;> cases w), fun _ => .nil, fun _ _ _ h => (nomatch h), .nil, fun _ _ h => (nomatch h), fun i e he => by
        obtain ⟨v, h1, h2, h3⟩ := hi i e (map_get he)
        obtain ⟨n, d⟩ := e
        obtain rfl : n = 0 := h2
        exact ⟨v, by rw [List.getElem?_map, h1]; rfl, rfl, h3⟩⟩
      have W0 : ∀ b, ¬ Wf (fun _ => []) [] b := fun b w => by rcases w with w | ⟨_, w⟩ <;> cases w
      refine ⟨as, G1, fun _ => [], rc, fun _ _ => rfl, ?_⟩
      cases eF : F as with
      | bad => rw [eF] at a; exact a
      | exc x =>
        rw [eF] at a
        intro cls d G2 H2 t2 s2 ex
        have keepAll : ∀ b o, H1 b = some o → H2 b = some o := fun b o hb => t2.keep b o hb (W0 b)
        have up : ∀ b, H1 b ≠ none → H2 b = H1 b := fun b hb => by
          cases q : H1 b with
          | none => exact absurd q hb
          | some o => exact keepAll b o q
        have g2 : ∀ b, Wf fps1 [] b → G2 b = none := fun b w => by
          cases q : G2 b with
          | none => rfl
          | some o => rcases t2.new b (by rw [q]; exact fun z => nomatch z) with z | z | z
                      · exact absurd (r1.off b w).1 z
                      · exact absurd z (r1.off b w).2
                      · exact absurd z (W0 b)
        have r2 : Rel p.K ε1 σ G2 H2 fps1 [] := ⟨r1.len, s2, fun b w => ⟨g2 b w, by rw [up b (r1.off b w).2]; exact (r1.off b w).2⟩, r1.nd, r1.dis, r1.tnd, r1.tdis, fun i e he => by
          obtain ⟨v, hv, o⟩ := r1.at' i e he
          exact ⟨v, hv, o.keep t2.grow fun b hb => up b (r1.off b (.inr ⟨i, hb⟩)).2⟩⟩
        refine a cls d G2 H2 fps1 r2 (t.trans ⟨fun b o hb _ => keepAll b o hb, t2.there, t2.grow, fun b hb => ?_, fun b w => .inl w⟩) ex
        rcases t2.new b hb with z | z | z
        · exact .inl z
        · exact .inr (.inl z)
        · exact absurd z (W0 b)
      | ok en ps =>
        rw [eF] at a
        intro v G2 H2 fps2 fp2 r2c o2 t2 _
        have keepAll : ∀ b o, H1 b = some o → H2 b = some o := fun b o hb => t2.keep b o hb (W0 b)
        have up : ∀ b, H1 b ≠ none → H2 b = H1 b := fun b hb => by
          cases q : H1 b with
          | none => exact absurd q hb
          | some o => exact keepAll b o q
        have fpn : ∀ b ∈ fp2, H1 b = none := fun b hb => (t2.wnew b (.inl hb)).resolve_left (W0 b)
        have g2 : ∀ b, Wf fps1 [] b → G2 b = none := fun b w => by
          cases q : G2 b with
          | none => rfl
          | some o => rcases t2.new b (by rw [q]; exact fun z => nomatch z) with z | z | z
                      · exact absurd (r1.off b w).1 z
                      · exact absurd z (r1.off b w).2
                      · exact absurd z (W0 b)
        have r2 : Rel p.K ε1 σ G2 H2 fps1 fp2 := ⟨r1.len, r2c.sub, fun b w => ?_, r1.nd, r1.dis, r2c.tnd, fun i b hb hi => ?_, fun i e he => ?_⟩
        · refine a v G2 H2 fps1 fp2 r2 o2 (t.trans ⟨fun b o hb _ => keepAll b o hb, t2.there, t2.grow, fun b hb => ?_, fun b w => ?_⟩) fun z => (s (by simpa using z)).trans keepAll
          · rcases t2.new b hb with z | z | z
            · exact .inl z
            · exact .inr (.inl z)
            · exact absurd z (W0 b)
          · rcases w with w | w
            · exact .inr (fpn b w)
            · exact .inl (.inr w)
        · rcases w with w | w
          · exact r2c.off b (.inl w)
          · exact ⟨g2 b (.inr w), by rw [up b (r1.off b (.inr w)).2]; exact (r1.off b (.inr w)).2⟩
        · exact (r1.off b (.inr ⟨i, hi⟩)).2 (fpn b hb)
        · obtain ⟨v, hv, o⟩ := r1.at' i e he
          exact ⟨v, hv, o.keep t2.grow fun b hb => up b (r1.off b (.inr ⟨i, hb⟩)).2⟩
  · rw [if_neg c] at a; exact a.elim
theorem owns_nil : ∀ {n : Nat} {r : List Ag}, owns n r = [] → r.all isV = true
  | _, [], _ => rfl
  | n, .val d :: r, h => by rw [List.all_cons, owns_nil (n := n + 1) h]; rfl
  | _, .own i :: r, h => by cases h
/-- one owned variable is handed on -/
theorem getA_own : ∀ {ags : List Ag} {vs : List V} {as : List Ent} {k0 k i : Nat}, owns k0 ags = [(k, i)] → getA ε ags = some as → PySem.Paired (agOk p.K σ G) vs ags → as.length = vs.length ∧ k0 ≤ k ∧ k - k0 < as.length ∧
    (∃ e v, ε[i]? = some (some e) ∧ as[k - k0]? = some e ∧ vs[k - k0]? = some v ∧ σ[i]? = some (some v)) ∧ ∀ (j : Nat) (e : Ent), j ≠ k - k0 → as[j]? = some e → ∃ v, vs[j]? = some v ∧ e.1 = 0 ∧ Rz p.K G v e.2
  | [], _, _, _, _, _, h, _, _ => by cases h
  | .val d :: r, _, as, k0, k, i, ho, h, .cons o t => by
    obtain ⟨as', h', rfl⟩ := Option.map_eq_some_iff.mp h
    obtain ⟨hl, hk, hlt, ⟨e, v, h1, h2, h3, h4⟩, ih⟩ := getA_own (k0 := k0 + 1) (show owns (k0 + 1) r = [(k, i)] from ho) h' t
    have hs : k - k0 = (k - (k0 + 1)) + 1 := by omega
    refine ⟨by simp [hl], by omega, by simp; omega, ⟨e, v, h1, by rw [hs]; simpa using h2, by rw [hs]; simpa using h3, h4⟩, fun j e hj z => ?_⟩
    cases j with
    | zero => simp at z; subst z; exact ⟨_, rfl, rfl, o⟩
    | succ j => obtain ⟨v, q1, q2⟩ := ih j e (by omega) (by simpa using z); exact ⟨v, by simpa using q1, q2⟩
  | .own i' :: r, _, as, k0, k, i, ho, h, .cons o t => by
    have ho : (k0, i') :: owns (k0 + 1) r = [(k, i)] := ho
    injection ho with e1 e2
    injection e1 with e1 e3
    subst e1 e3
    have hv : r.all isV = true := owns_nil e2
    unfold getA at h
    cases q : ε[i']? with
    | none => rw [q] at h; cases h
    | some en =>
      cases en with
      | none => rw [q] at h; cases h
      | some en =>
        rw [q] at h
        obtain ⟨as', h', rfl⟩ := Option.map_eq_some_iff.mp h
        obtain ⟨hl, ih⟩ := getA_val hv h' t
        refine ⟨by simp [hl], Nat.le_refl _, by simp, ⟨en, _, rfl, by simp, by simp, o⟩, fun j e hj z => ?_⟩
        cases j with
        | zero => omega
        | succ j => obtain ⟨v, q1, q2⟩ := ih j e (by simpa using z); exact ⟨v, by simpa using q1, q2⟩
theorem tE_callO {h : Ev → Res (List Ag × Ev)} {Q : VK} (hh : tE p Wx true (fCallO F h) σ H Q) : tR p Wx true (relC p σ) h σ H fun vs H1 => spF p F vs H1 Q fun cls d H' => Wx cls d σ H' := by
  have hh : tR p Wx (true || false) (relE p) (fCallO F h) σ H Q := hh
  refine tR.bind (m2 := false) (g := fun ags ε => match owns 0 ags with | [(k, i)] => (match getA ε ags with | some as => (match F as with | .ok e ps => .ok (e, ε.set i (ps[k]?).join) | _ => .bad) | none => .bad) | _ => .bad) (fun _ _ _ _ _ h => h.1) hh
    fun ags vs ε1 G G1 H1 fps fps1 r1 rl t s a => ?_
  cases eo : owns 0 ags with
  | nil => rw [eo] at a; exact a.elim
  | cons ki rest =>
    obtain ⟨k, i⟩ := ki
    cases rest with
    | cons _ _ => rw [eo] at a; exact a.elim
    | nil =>
      rw [eo] at a
      dsimp only at a
      cases ea : getA ε1 ags with
      | none => rw [ea] at a; exact a.elim
      | some as =>
        rw [ea] at a
        dsimp only at a
        obtain ⟨hl, _, hk, ⟨e0, v0, q1, q2, q3, q4⟩, hi⟩ := getA_own eo ea rl.2
        rw [Nat.sub_zero] at hk q2 q3 hi
        have fpsC : ∃ fc : Fps, fc = fun j => if j = k then fps1 i else [] := ⟨_, rfl⟩
        obtain ⟨fc, hfc⟩ := fpsC
        have fck : fc k = fps1 i := by rw [hfc]; simp
        have fcn : ∀ j, j ≠ k → fc j = [] := fun j hj => by rw [hfc]; simp [hj]
        have WC : ∀ b, Wf fc [] b → b ∈ fps1 i := fun b w => by
          rcases w with w | ⟨j, w⟩
          · cases w
          · by_cases hj : j = k
            · subst hj; rw [fck] at w; exact w
            · rw [fcn j hj] at w; cases w
        have rc : Rel p.K (as.map some) (vs.map some) G1 H1 fc [] := by
          refine ⟨by simp [hl], r1.sub, fun b w => r1.off b (.inr ⟨i, WC b w⟩), fun j => ?_, fun j j' b h1 h2 => ?_, .nil, fun _ _ h => (nomatch h), fun j e he => ?_⟩
          · by_cases hj : j = k
            · subst hj; rw [fck]; exact r1.nd i
            · rw [fcn j hj]; exact .nil
          · by_cases hj : j = k
            · by_cases hj' : j' = k
              · rw [hj, hj']
              · rw [fcn j' hj'] at h2; cases h2
            · rw [fcn j hj] at h1; cases h1
          · have he' := map_get he
            by_cases hj : j = k
            · subst hj
              rw [q2] at he'
              cases he'
              obtain ⟨v, hv, o⟩ := r1.at' i _ q1
              rw [q4] at hv
              cases hv
              exact ⟨v0, by rw [List.getElem?_map, q3]; rfl, by rw [fck]; exact o⟩
            · obtain ⟨v, h1, h2, h3⟩ := hi j e hj he'
              obtain ⟨n, d⟩ := e
              obtain rfl : n = 0 := h2
              exact ⟨v, by rw [List.getElem?_map, h1]; rfl, fcn j hj, h3⟩
        refine ⟨as, G1, fc, rc, fun j hj => fcn j (by omega), ?_⟩
        cases eF : F as with
        | bad => rw [eF] at a; exact a
        | exc x => rw [eF] at a; exact a.elim
        | ok en ps =>
          rw [eF] at a
          intro v G2 H2 fps2 fp2 r2c o2 t2 _
          have up : ∀ j, j ≠ i → ∀ b ∈ fps1 j, H2 b = H1 b := fun j hj b hb => by
            have nw : ¬ Wf fc [] b := fun w => hj (r1.dis j i b hb (WC b w))
            cases q : H1 b with
            | none => exact absurd q (r1.off b (.inr ⟨j, hb⟩)).2
            | some o => exact t2.keep b o q nw
          have wn : ∀ b, Wf fps2 fp2 b → b ∈ fps1 i ∨ H1 b = none := fun b w => (t2.wnew b w).imp_left (WC b)
          have apart : ∀ j, j ≠ i → ∀ b ∈ fps1 j, ¬ Wf fps2 fp2 b := fun j hj b hb w => (wn b w).elim (fun z => hj (r1.dis j i b hb z)) fun z => (r1.off b (.inr ⟨j, hb⟩)).2 z
          have r2 : Rel p.K (ε1.set i (ps[k]?).join) σ G2 H2 (setF fps1 i (fps2 k)) fp2 := by
            refine ⟨by rw [List.length_set]; exact r1.len, r2c.sub, fun b w => ?_, fun j => ?_, fun j j' b h1 h2 => ?_, r2c.tnd, fun j b hb hj => ?_, fun j e he => ?_⟩
            · rcases w with w | ⟨j, w⟩
              · exact r2c.off b (.inl w)
              · by_cases hj : j = i
                · subst hj; rw [setF_same] at w; exact r2c.off b (.inr ⟨k, w⟩)
                · rw [setF_ne hj] at w
                  refine ⟨?_, by rw [up j hj b w]; exact (r1.off b (.inr ⟨j, w⟩)).2⟩
                  cases q : G2 b with
                  | none => rfl
                  | some o => rcases t2.new b (by rw [q]; exact fun z => nomatch z) with z | z | z
                              · exact absurd (r1.off b (.inr ⟨j, w⟩)).1 z
                              · exact absurd z (r1.off b (.inr ⟨j, w⟩)).2
                              · exact absurd (r1.dis j i b w (WC b z)) hj
            · by_cases hj : j = i
              · subst hj; rw [setF_same]; exact r2c.nd k
              · rw [setF_ne hj]; exact r1.nd j
            · by_cases hj : j = i
              · by_cases hj' : j' = i
                · rw [hj, hj']
                · subst hj; rw [setF_same] at h1; rw [setF_ne hj'] at h2; exact absurd (.inr ⟨k, h1⟩) (apart j' hj' b h2)
              · rw [setF_ne hj] at h1
                by_cases hj' : j' = i
                · subst hj'; rw [setF_same] at h2; exact absurd (.inr ⟨k, h2⟩) (apart j hj b h1)
                · rw [setF_ne hj'] at h2; exact r1.dis j j' b h1 h2
            · by_cases hj' : j = i
              · subst hj'; rw [setF_same] at hj; exact r2c.tdis k b hb hj
              · rw [setF_ne hj'] at hj; exact apart j hj' b hj (.inl hb)
            · by_cases hj : j = i
              · subst hj
                have hlt : j < ε1.length := by
                  by_cases z : j < ε1.length
                  · exact z
                  · rw [List.getElem?_eq_none (by omega)] at q1; cases q1
                rw [List.getElem?_set_self hlt] at he
                have he := Option.some.inj he
                cases q : ps[k]? with
                | none => rw [q] at he; cases he
                | some o =>
                  rw [q] at he
                  have he : o = some e := he
                  rw [he] at q
                  obtain ⟨v', hv', o'⟩ := r2c.at' k e q
                  rw [List.getElem?_map, q3] at hv'
                  cases hv'
                  rw [setF_same]
                  exact ⟨v0, q4, o'⟩
              · rw [List.getElem?_set_ne (Ne.symm hj)] at he
                obtain ⟨v', hv', o'⟩ := r1.at' j e he
                rw [setF_ne hj]
                exact ⟨v', hv', o'.keep t2.grow (up j hj)⟩
          refine a v G2 H2 _ fp2 r2 o2 (t.trans ⟨fun b o hb hw => t2.keep b o hb fun w => hw (.inr ⟨i, WC b w⟩), t2.there, t2.grow, fun b hb => ?_, fun b w => ?_⟩) fun z => nomatch z
          · rcases t2.new b hb with z | z | z
            · exact .inl z
            · exact .inr (.inl z)
            · exact .inr (.inr (.inr ⟨i, WC b z⟩))
          · rcases w with w | ⟨j, w⟩
            · exact (wn b (.inl w)).imp_left fun z => .inr ⟨i, z⟩
            · by_cases hj : j = i
              · subst hj; rw [setF_same] at w; exact (wn b (.inr ⟨k, w⟩)).imp_left fun z => .inr ⟨j, z⟩
              · rw [setF_ne hj] at w; exact .inl (.inr ⟨j, w⟩)
end
end
end Mb
end

section
set_option Elab.async false
set_option linter.all false
set_option maxRecDepth 100000
set_option maxHeartbeats 1000000
/-! Mb19: owned lists that change, several targets -/
namespace Mb
noncomputable section
open PySem PySem.Spec PyProof.Rows L2

section
variable {p : Pm} {Wx : WX} {m m1 m2 : Bool} {σ σ1 : L2.St} {G H G1 H1 : Hp} {fps fps1 : Fps} {fp : List Addr} {ε : Ev} {fx : List Nat} {D : Ends}
theorem Rel.mut {K : PySem.W.Frag} (r : Rel K ε σ G H fps []) {i : Nat} {a : Addr} {o : HO} {e' : Ent} {v : V} (ha : a ∈ fps i) (hv : σ[i]? = some (some v)) (h : Ow K G (upd H a o) e'.1 v e'.2 (fps i)) : Rel K (ε.set i (some e')) σ G (upd H a o) fps [] := by
  have other : ∀ b, b ≠ a → (upd H a o) b = H b := fun b hb => upd_ne hb
  refine ⟨by rw [List.length_set]; exact r.len, fun b u hb => ?_, fun b w => ⟨(r.off b w).1, ?_⟩, r.nd, r.dis, .nil, fun _ _ h => (nomatch h), fun j e he => ?_⟩
  · have : b ≠ a := fun z => by subst z; rw [(r.off b (.inr ⟨i, ha⟩)).1] at hb; cases hb
    rw [other b this]; exact r.sub b u hb
  · by_cases q : b = a
    · subst q; rw [upd_same]; exact fun z => nomatch z
    · rw [other b q]; exact (r.off b w).2
  · by_cases q : j = i
    · subst q
      have hlt : j < ε.length := by rw [← r.len]; exact (List.getElem?_eq_some_iff.mp hv).1
      rw [List.getElem?_set_self hlt] at he
      cases he
      exact ⟨v, hv, h⟩
    · rw [List.getElem?_set_ne (Ne.symm q)] at he
      obtain ⟨u, h1, h2⟩ := r.at' j e he
      exact ⟨u, h1, h2.keep (Same.refl G) fun b hb => other b fun z => by subst z; exact q (r.dis j i b hb ha)⟩
theorem Tr.mut {i : Nat} {a : Addr} {o : HO} (ha : a ∈ fps i) : Tr G H (Wf fps []) G (upd H a o) (Wf fps []) :=
  ⟨fun b u hb hw => by rw [upd_ne (fun z => hw (by subst z; exact .inr ⟨i, ha⟩))]; exact hb, fun b hb => by
    by_cases q : b = a
    · subst q; rw [upd_same]; exact fun z => nomatch z
    · rw [upd_ne q]; exact hb, Same.refl G, fun _ h => .inl h, fun _ h => .inl h⟩
/-- an owned list's own object -/
theorem ow1_list {K : PySem.W.Frag} {v : V} {ds : List PyData} (h : Ow K G H 1 v (.list ds) fp) : ∃ a vs, v = .ref a ∧ fp = [a] ∧ H a = some (.lst vs) ∧ RzAll K G vs ds := by
  obtain ⟨a, fp', e1, e2, h⟩ := h
  rcases h with ⟨vs, ds', ed, eh, r⟩ | ⟨_, _, _, ed, _⟩
  · cases ed
    have all0 : ∀ {vs : List V} {ds : List PyData} {fp' : List Addr}, All3 (Ow K G H 0) vs ds fp' → fp' = [] ∧ RzAll K G vs ds := fun x => by
      induction x with
      | nil => exact ⟨rfl, .nil⟩
      | cons r t ih => exact ⟨by rw [r.1, ih.1]; rfl, .cons r.2 ih.2⟩
    obtain ⟨e3, e4⟩ := all0 r
    subst e3
    exact ⟨a, vs, e1, e2, eh, e4⟩
  · cases ed
/-- a frozen value, then a statement's end made of it -/
theorem tS_val0 {f : Ev → Res (Ent × Ev)} {k : Ent → Ev → Res (Fl × Ev)} {R : VK} (h : tS p Wx fx (fun ε => (frzR f ε).bind fun q => k q.1 q.2) D σ H)
    (i : ∀ (v : V) (d : PyData) (ε1 : Ev) (G G1 H1 : Hp) (fps fps1 : Fps), Rel p.K ε1 σ G1 H1 fps1 [] → Rz p.K G1 v d → Tr G H (Wf fps []) G1 H1 (Wf fps1 []) → AfterS p Wx fx σ G H fps (k (0, d) ε1) D → R v H1) : tE p Wx m f σ H R := by
  obtain ⟨ε, G, fps, r, a⟩ := h
  dsimp only at a
  refine tB_frz ⟨ε, G, fps, r, ?_⟩
  cases e : frzR f ε with
  | ok q =>
    obtain ⟨⟨n, d⟩, ε1⟩ := q
    obtain rfl : n = 0 := frz_zero e
    rw [e] at a
    intro v G1 H1 fps1 fp r1 o t s
    obtain ⟨rfl, o⟩ := o
    exact i v d ε1 G G1 H1 fps fps1 r1 o t a
  | exc x ε1 => rw [e] at a; exact fun cls d G1 H1 fps1 r1 t ex => a cls d σ G1 H1 fps1 r1 t Fixed.refl ex
  | bad => rw [e] at a; exact a
def isLst : Option (Option Ent) → Bool
  | some (some (_, .list _)) => true
  | _ => false
/-- x.append(e) -/
def fApp (i : Nat) (f : Ev → Res (Ent × Ev)) : Ev → Res (Fl × Ev) := fun ε => if isLst ε[i]? = true then (frzR f ε).bind fun q => match q.2[i]? with
  | some (some (1, .list ds)) => if ds.length < LIM then .ok (.next, q.2.set i (some (1, .list (ds ++ [q.1.2])))) else .bad
  | _ => .bad
  else .bad
theorem tS_app {i : Nat} {f : Ev → Res (Ent × Ev)} (h : tS p Wx fx (fApp i f) D σ H) : tDrop (tBM p.K "list" rAppend (tVar i) (tCons (tE p Wx m f) tNil)) D σ H := by
  obtain ⟨ε, G, fps, r, a⟩ := h
  unfold fApp at a
  by_cases c : isLst ε[i]? = true
  · rw [if_pos c] at a
    have hx : ∃ n ds, ε[i]? = some (some (n, .list ds)) := by
      unfold isLst at c
      split at c
      · rename_i n ds e; exact ⟨n, ds, e⟩
      · cases c
    obtain ⟨n0, ds0, e0⟩ := hx
    obtain ⟨v0, hv0, o0⟩ := r.at' i _ e0
    obtain ⟨a0, vs0, rfl, hrd, _⟩ := bo_listN r.sub o0.bo
    refine ⟨.ref a0, hv0, .inl ⟨rfl, vs0, .inl hrd⟩, ?_⟩
    have h2 : tS p Wx fx (fun ε => (frzR f ε).bind fun q => match q.2[i]? with | some (some (1, .list ds)) => if ds.length < LIM then .ok (.next, q.2.set i (some (1, .list (ds ++ [q.1.2])))) else .bad | _ => .bad) D σ H := ⟨ε, G, fps, r, a⟩
    refine tS_val0 (k := fun e ε => match ε[i]? with | some (some (1, .list ds)) => if ds.length < LIM then .ok (.next, ε.set i (some (1, .list (ds ++ [e.2])))) else .bad | _ => .bad) h2 fun v d ε1 G G1 H1 fps fps1 r1 rz t a => ?_
    dsimp only at a
    split at a
    · rename_i ds e1
      by_cases hz : ds.length < LIM
      · rw [if_pos hz] at a
        obtain ⟨v1, hv1, o1⟩ := r1.at' i _ e1
        rw [hv0] at hv1
        cases hv1
        obtain ⟨a', vs, ea, ef, eh, er⟩ := ow1_list o1
        cases ea
        have hin : a0 ∈ fps1 i := by rw [ef]; exact List.mem_singleton.mpr rfl
        refine ⟨a0, vs, v, rfl, rfl, eh, by rw [er.length, ← lim_line]; exact hz, ?_⟩
        have r2 := r1.mut (o := .lst (vs ++ [v])) (e' := (1, .list (ds ++ [d]))) hin hv0 (by rw [ef]; exact ⟨a0, [], rfl, rfl, .inl ⟨_, _, rfl, upd_same, all3_zero (er.append (.cons rz .nil))⟩⟩)
        exact a σ G1 _ fps1 r2 (t.trans (Tr.mut hin)) Fixed.refl
      · rw [if_neg hz] at a; exact a.elim
    · exact a.elim
  · rw [if_neg c] at a; exact a.elim
def setLF (d : PyData) (i : Nat) (r : Ent × Ev) : Res (Fl × Ev) := match r.1.2, r.2[i]? with
  | .int k, some (some (1, .list ds)) => match ixN ds.length k with
    | some j => .ok (.next, r.2.set i (some (1, .list (ds.set j d))))
    | none => .bad
  | _, _ => .bad
/-- x[j] = e, x a list -/
def fSetL (i : Nat) (f g : Ev → Res (Ent × Ev)) : Ev → Res (Fl × Ev) := fun ε => (frzR f ε).bind fun q => match q.2[i]? with
  | some (some _) => (g q.2).bind fun r => setLF q.1.2 i r
  | _ => .bad
theorem rz_set {K : PySem.W.Frag} {G : Hp} {v : V} {d : PyData} (h : Rz K G v d) : ∀ {vs : List V} {ds : List PyData} (j : Nat), RzAll K G vs ds → RzAll K G (vs.set j v) (ds.set j d)
  | _, _, _, .nil => .nil
  | _, _, 0, .cons _ t => .cons h t
  | _, _, j + 1, .cons r t => .cons r (rz_set h j t)
theorem tS_setL {i : Nat} {f g : Ev → Res (Ent × Ev)} (h : tS p Wx fx (fSetL i f g) D σ H) : tAsg (tE p Wx m f) (gSub (tVar i) (tB p Wx m1 g) rSetL) D σ H := by
  refine tS_val0 (k := fun e ε => match ε[i]? with | some (some _) => (g ε).bind fun r => setLF e.2 i r | _ => .bad) h
    fun v d ε1 G G1 H1 fps fps1 r1 rz t a => ?_
  cases e : ε1[i]? with
  | none => rw [e] at a; exact a.elim
  | some o =>
    cases o with
    | none => rw [e] at a; exact a.elim
    | some en =>
      rw [e] at a
      dsimp only at a
      obtain ⟨v0, hv0, o0⟩ := r1.at' i _ e
      refine ⟨v0, hv0, ε1, G1, fps1, r1, ?_⟩
      cases e2 : g ε1 with
      | exc x ε2 => rw [e2] at a; exact fun cls d G2 H2 fps2 r2 t2 ex => a cls d σ G2 H2 fps2 r2 (t.trans t2) Fixed.refl ex
      | bad => rw [e2] at a; exact a
      | ok q =>
        obtain ⟨⟨n, dk⟩, ε2⟩ := q
        rw [e2] at a
        intro vk G2 H2 fps2 fp r2 rl t2 _
        obtain ⟨rfl, rl⟩ := rl
        replace a : AfterS p Wx fx σ G H fps (setLF d i ((n, dk), ε2)) D := a
        unfold setLF at a
        dsimp only at a rl
        split at a
        · rename_i k ds e3
          split at a
          · rename_i j hj
            obtain ⟨v1, hv1, o1⟩ := r2.at' i _ e3
            rw [hv0] at hv1
            cases hv1
            obtain ⟨a', vs, ea, ef, eh, er⟩ := ow1_list o1
            have hin : a' ∈ fps2 i := by rw [ef]; exact List.mem_singleton.mpr rfl
            have r3 := r2.mut (o := .lst (vs.set j v)) (e' := (1, .list (ds.set j d))) hin hv0 (by rw [ef]; exact ⟨a', [], ea, rfl, .inl ⟨_, _, rfl, upd_same, all3_zero (rz_set (rz.same t2.grow) j er)⟩⟩)
            exact ⟨a', vs, k, j, ea, bo_int r2.sub rl, eh, by rw [er.length]; exact hj, a σ G2 _ fps2 r3 ((t.trans t2).trans (Tr.mut hin)) Fixed.refl⟩
          · exact a.elim
        · exact a.elim

/-! ### several values that may be owned -/
inductive AllE (K : PySem.W.Frag) (G H : Hp) : List V → List Ent → List Addr → Prop
  | nil : AllE K G H [] [] []
  | cons {v : V} {vs : List V} {e : Ent} {es : List Ent} {f fs : List Addr} : Ow K G H e.1 v e.2 f → AllE K G H vs es fs → AllE K G H (v :: vs) (e :: es) (f ++ fs)
def relAO (p : Pm) : List V → List Ent → Hp → Hp → List Addr → Prop := fun vs es G H fp => AllE p.K G H vs es fp
def oCons (f : Ev → Res (Ent × Ev)) (g : Ev → Res (List Ent × Ev)) : Ev → Res (List Ent × Ev) := fun ε => (f ε).bind fun q => (g q.2).bind fun r => .ok (q.1 :: r.1, r.2)
theorem tAO_nil {Q : List V → Hp → Prop} (h : tR p Wx m (relAO p) fNil σ H Q) : tNil σ H Q := by
  obtain ⟨ε, G, fps, r, a⟩ := h
  exact a [] G H fps [] r .nil Tr.refl fun _ => Same.refl H
theorem AllE.keep {K : PySem.W.Frag} {G' H' : Hp} (g : Same G G') : ∀ {vs : List V} {es : List Ent} {fp : List Addr}, (∀ a ∈ fp, H' a = H a) → AllE K G H vs es fp → AllE K G' H' vs es fp
  | _, _, _, _, .nil => .nil
  | _, _, _, k, .cons o t => .cons (o.keep g fun a ha => k a (List.mem_append_left _ ha)) (AllE.keep g (fun a ha => k a (List.mem_append_right _ ha)) t)
theorem tAO_cons {f : Ev → Res (Ent × Ev)} {g : Ev → Res (List Ent × Ev)} {Q : List V → Hp → Prop} (h : tR p Wx true (relAO p) (oCons f g) σ H Q) :
    tE p Wx true f σ H fun x H1 => tR p Wx true (relAO p) g σ H1 fun xs H2 => Q (x :: xs) H2 := by
  obtain ⟨ε, G, fps, r, a⟩ := h
  unfold oCons at a
  refine ⟨ε, G, fps, r, ?_⟩
  cases e : f ε with
  | exc x ε1 => rw [e] at a; exact a
  | bad => rw [e] at a; exact a
  | ok q =>
    obtain ⟨en, ε1⟩ := q
    rw [e] at a
    intro v G1 H1 fps1 fp1 r1 o1 t1 _
    refine ⟨ε1, G1, fps1, r1.drop, ?_⟩
    have a : After p Wx true σ G H fps (relAO p) ((g ε1).bind fun r => .ok (en :: r.1, r.2)) Q := a
    cases e2 : g ε1 with
    | exc x ε2 => rw [e2] at a; exact fun cls d G2 H2 fps2 r2 t2 ex => a cls d G2 H2 fps2 r2 (t1.drop.trans t2) ex
    | bad => rw [e2] at a; exact a
    | ok q =>
      obtain ⟨es, ε2⟩ := q
      rw [e2] at a
      intro vs G2 H2 fps2 fp2 r2 o2 t2 _
      -- the first one's objects
      have nw : ∀ b ∈ fp1, ¬ Wf fps1 [] b := fun b hb w => by
        rcases w with w | ⟨j, w⟩
        · cases w
        · exact r1.tdis j b hb w
      have hne : ∀ b ∈ fp1, H1 b ≠ none := fun b hb => (r1.off b (.inl hb)).2
      have up : ∀ b ∈ fp1, H2 b = H1 b := fun b hb => by
        cases q : H1 b with
        | none => exact absurd q (hne b hb)
        | some o => exact t2.keep b o q (nw b hb)
      have nw2 : ∀ b ∈ fp1, ¬ Wf fps2 fp2 b := fun b hb w => (t2.wnew b w).elim (nw b hb) (hne b hb)
      have g2 : ∀ b ∈ fp1, G2 b = none := fun b hb => by
        cases q : G2 b with
        | none => rfl
        | some o => rcases t2.new b (by rw [q]; exact fun z => nomatch z) with z | z | z
                    · exact absurd (r1.off b (.inl hb)).1 z
                    · exact absurd z (hne b hb)
                    · exact absurd z (nw b hb)
      have rr : Rel p.K ε2 σ G2 H2 fps2 (fp1 ++ fp2) := ⟨r2.len, r2.sub, fun b w => ?_, r2.nd, r2.dis, ?_, fun j b hb hj => ?_, r2.at'⟩
      · refine a (v :: vs) G2 H2 fps2 (fp1 ++ fp2) rr (.cons (o1.keep t2.grow up) o2) ⟨fun b o hb hw => t2.keep b o (t1.keep b o hb hw) fun w => ?_, fun b hb => t2.there b (t1.there b hb), t1.grow.trans t2.grow, fun b hb => ?_, fun b w => ?_⟩ fun z => nomatch z
        · exact (t1.wnew b w.drop).elim hw fun z => by rw [hb] at z; cases z
        · exact (t1.drop.trans t2).new b hb
        · rcases w with w | ⟨j, w⟩
          · rcases List.mem_append.mp w with w | w
            · exact t1.wnew b (.inl w)
            · exact (t1.drop.trans t2).wnew b (.inl w)
          · exact (t1.drop.trans t2).wnew b (.inr ⟨j, w⟩)
      · rcases w with w | w
        · rcases List.mem_append.mp w with w | w
          · exact ⟨g2 b w, by rw [up b w]; exact hne b w⟩
          · exact r2.off b (.inl w)
        · exact r2.off b (.inr w)
      · exact List.nodup_append.mpr ⟨r1.tnd, r2.tnd, fun b hb c hc e => by subst e; exact nw2 b hb (.inl hc)⟩
      · rcases List.mem_append.mp hb with hb | hb
        · exact nw2 b hb (.inr ⟨j, hj⟩)
        · exact r2.tdis j b hb hj
def setEnts : List Nat → List Ent → Ev → Ev
  | i :: is, e :: es, ε => setEnts is es (ε.set i (some e))
  | _, _, ε => ε
/-- one of the temporaries becomes a variable's -/
theorem Rel.assign1 {K : PySem.W.Frag} {f fs : List Addr} (r : Rel K ε σ G H fps (f ++ fs)) (i : Nat) {e : Ent} {v : V} (o : Ow K G H e.1 v e.2 f) : Rel K (ε.set i (some e)) (σ.set i (some v)) G H (setF fps i f) fs := by
  have nd := List.nodup_append.mp r.tnd
  have r1 : Rel K ε σ G H fps f := ⟨r.len, r.sub, fun b w => r.off b (w.imp_left fun z => List.mem_append_left _ z), r.nd, r.dis, nd.1, fun j b hb => r.tdis j b (List.mem_append_left _ hb), r.at'⟩
  have r2 := r1.assign i o
  refine ⟨r2.len, r2.sub, fun b w => ?_, r2.nd, r2.dis, nd.2.1, fun j b hb hj => ?_, r2.at'⟩
  · rcases w with w | w
    · exact r.off b (.inl (List.mem_append_right _ w))
    · exact r2.off b (.inr w)
  · by_cases q : j = i
    · subst q; rw [setF_same] at hj; exact nd.2.2 b hj b hb rfl
    · rw [setF_ne q] at hj; exact r.tdis j b (List.mem_append_right _ hb) hj
theorem Rel.setEnts {K : PySem.W.Frag} : ∀ (is : List Nat) {es : List Ent} {vs : List V} {ε : Ev} {σ : L2.St} {fps : Fps} {fp : List Addr}, Rel K ε σ G H fps fp → AllE K G H vs es fp →
    ∃ fps', Rel K (Mb.setEnts is es ε) (setAllV is vs σ) G H fps' [] ∧ (∀ a, Wf fps' [] a → Wf fps fp a)
  | [], es, vs, ε, σ, fps, fp, r, h => ⟨fps, by cases h <;> simpa [Mb.setEnts, setAllV] using r.drop, fun _ w => w.drop⟩
  | i :: is, [], _, ε, σ, fps, _, r, .nil => ⟨fps, by simpa [Mb.setEnts, setAllV] using r, fun _ w => w⟩
  | i :: is, e :: es, _ :: _, ε, σ, fps, _, r, .cons o t => by
    obtain ⟨fps', r', w⟩ := Rel.setEnts is (r.assign1 i o) t
    refine ⟨fps', r', fun a ha => ?_⟩
    rcases w a ha with z | ⟨j, z⟩
    · exact .inl (List.mem_append_right _ z)
    · by_cases q : j = i
      · subst q; rw [setF_same] at z; exact .inl (List.mem_append_left _ z)
      · rw [setF_ne q] at z; exact .inr ⟨j, z⟩
theorem AllE.length {K : PySem.W.Frag} : ∀ {vs : List V} {es : List Ent} {fp : List Addr}, AllE K G H vs es fp → vs.length = es.length
  | _, _, _, .nil => rfl
  | _, _, _, .cons _ t => by simp [AllE.length t]
/-- x, y, .. = a, b, .. -/
def fPar (fx is : List Nat) (h : Ev → Res (List Ent × Ev)) : Ev → Res (Fl × Ev) := fun ε => (h ε).bind fun q => if q.1.length = is.length ∧ is.all (fun i => !fx.contains i) = true then .ok (.next, setEnts is q.1 q.2) else .bad
theorem tS_par {is : List Nat} {h : Ev → Res (List Ent × Ev)} (hh : tS p Wx fx (fPar fx is h) D σ H) : tR p Wx m (relAO p) h σ H fun vs H1 => vs.length = is.length ∧ D.nx (setAllV is vs σ) H1 := by
  refine tS_val (k := fun es ε => if es.length = is.length ∧ is.all (fun i => !fx.contains i) = true then .ok (.next, setEnts is es ε) else .bad) hh fun vs es ε1 G G1 H1 fps fps1 fp r1 o t a => ?_
  by_cases c : es.length = is.length ∧ is.all (fun i => !fx.contains i) = true
  · rw [if_pos c] at a
    obtain ⟨fps', r', w⟩ := r1.setEnts is o
    refine ⟨(AllE.length o).trans c.1, a _ G1 H1 fps' r' ⟨t.keep, t.there, t.grow, t.new, fun b hb => t.wnew b (w b hb)⟩ (Fixed.setAll is _ σ fun i hi => ?_)⟩
    have := List.all_eq_true.mp c.2 i hi
    exact not_fx (by simpa using this)
  · rw [if_neg c] at a; exact a.elim
end
end
end Mb
end

section
set_option Elab.async false
set_option linter.all false
set_option maxRecDepth 100000
set_option maxHeartbeats 2000000
/-! Mb44: a comprehension that an exception leaves: the machine's side -/
namespace Mb
noncomputable section
open PySem PySem.Spec PyProof.Rows L2

/-- behind the block: as usual, or the exception goes on -/
def postX (M : Model) (A : Around) (E : Value → Shared → Prop) (Q : Value → Shared → Prop) (acc : Value) (ce : Env) : Result → Shared → Prop
  | .ok _, s => ∃ m, s.heap.Ns ce.locals m ∧ ∀ g, Heap.SameBut ce.locals s.heap g → Q acc { s with heap := g }
  | .error x, s => ∃ m, s.heap.Ns ce.locals m ∧ ∀ g, Heap.SameBut ce.locals s.heap g → wpAny M A (passOn "comprehension.variables-let-go" x ce : Sem Value) (fun _ _ => False) E { s with heap := g }
theorem comp_run {M : Model} {A : Around} {E : Value → Shared → Prop} {s : Shared} {env : Env} {e : Expr} {scope : Scope} {pos : Pos} {acc0 first : Sem Value} {g : Comprehension} {gs : List Comprehension} {cl : List (Str × Addr)} {Q : Value → Shared → Prop}
    (c1 : clausesOf e = g :: gs) (c2 : ∀ x, foldedSetIterable g.iter env x = pure x) (c3 : closureFor scope env = pure cl) (c4 : scope.kind = .function) (c5 : ∀ x ∈ scope.names, x.2 = .local → scope.names.lookup x.1 = some .local)
    (h : wpAny M A first (fun x sa => wpAny M A (pyIter x) (fun it sb => wpAny M A acc0 (fun acc sc =>
      wpAny M A (newFunctionEnv scope env.globals cl [] env.qual none .none (some env)) (fun ce sd =>
        codeAny M A (.compStart e 0 it acc { ce with scope := relabel scope env }) (postX M A E Q acc { ce with scope := relabel scope env }) sd) E sc) E sb) E sa) E s) :
    wpAny M A (comprehension e scope env pos acc0 false first none) Q E s := by
  have idE : ∀ (v : Value) (z : Shared), E v z → E v z := fun _ _ z => z
  unfold comprehension
  rw [c3, c1]
  refine wpAny_bind (wpAny_mono h (fun x sa ha => ?_) idE)
  refine wpAny_bind (wpAny_standAt (wpAny_bind (wpAny_of_eq (c2 x) ?_)))
  refine wpAny_bind (wpAny_holding (wpAny_mono ha (fun it sb hb => ?_) idE))
  refine wpAny_standIf (wpAny_bind (wpAny_mono hb (fun acc sc hc => ?_) idE))
  refine wpAny_bind (wpAny_pure (wpAny_bind (wpAny_mono hc (fun ce sd hd => ?_) idE)))
  dsimp only
  have loc : ∀ x ∈ (scope.names.filter fun q => (q.2 == .local || q.2 == .cell) && q.1 != (".0" : Str)).reverse, x.2 = .local → Env.kindOf { ce with scope := relabel scope env } x.1 = some .local :=
    fun x hx hl => lookup_relabel_local (c5 x (List.mem_filter.mp (List.mem_reverse.mp hx)).1 hl)
  refine wpAny_holding (wpAny_bind (wpAny_attempt (wpAny_holding (wpAny_run (codeAny_mono hd fun r s' hr => ?_)))))
  cases r with
  | ok f =>
    obtain ⟨m, hn, hq⟩ := hr
    refine wpAny_bind (wpAny_holding (wpAny_comp_letGo (cenv := { ce with scope := relabel scope env }) c4 _ s' m loc hn fun g' m' _ hs' => ?_))
    exact wpAny_pure (hq g' hs')
  | error x =>
    obtain ⟨m, hn, hq⟩ := hr
    refine wpAny_bind (wpAny_holding (wpAny_comp_letGo (cenv := { ce with scope := relabel scope env }) c4 _ s' m loc hn fun g' m' _ hs' => ?_))
    exact wpAny_mono (hq g' hs') (fun _ _ f => f.elim) fun _ _ y => y
end
end Mb
end

section
set_option Elab.async false
set_option linter.all false
set_option maxRecDepth 100000
set_option maxHeartbeats 2000000
/-! Mb45: an exception goes out of a comprehension's block -/
namespace Mb
noncomputable section
open PySem PySem.Spec PyProof.Rows L2 HandSPX

theorem note_frame {e : Value} {c c' : Env} (h : c.frame = c'.frame) : noteFrame e c = noteFrame e c' := by
  unfold noteFrame PySem.frameOf
  rw [h]
/-- in flight from another place of this frame: noted anew -/
theorem look_moved {M : Model} {A : Around} {E : Value → Shared → Prop} {s : Shared} {Z : Obj → Prop} {base : Heap} {c : Env} {out : List Env} {L L' x : Addr} {Q : Unit → Shared → Prop} (hZ : Steady Z) (hA : A.frames = some (c :: out)) (hL : c.frame = some L) (hne : L' ≠ L)
    (hh : HeldZ base (c :: out) x Z L' s.heap) (hQ : ∀ g, HeldZ base (c :: out) x Z L g → s.heap.UpToSlots g → Q () { s with heap := g }) : wpAny M A (noteFrame (.ref x) c) Q E s := by
  obtain ⟨b1, b2, b3, ox, xs, T, oT, ts, q1, q2, q3, q4, q5, q6, q7, q8, q9⟩ := hh
  unfold noteFrame
  simp only [hL]
  refine wpAny_bind (wpAny_field q1 q3 q4 ?_)
  rw [if_pos (by simp : (Value.ref T != Value.none) = true)]
  refine wpAny_bind (wpAny_field q7 q8 q9 ?_)
  have no : ¬ ((rawInt L' == rawInt L) = true) := by
    simp only [rawInt, beq_iff_eq, Value.int.injEq, and_true]
    exact fun z => hne (Int.ofNat.inj z)
  rw [if_neg no]
  refine wpAny_bind (wpAny_setField q7 q8 (Array.getElem?_eq_some_iff.mp q9).1 ?_)
  have ot : ∀ b, b ≠ T → (s.heap.update T (Obj.mapFields (·.setIfInBounds 3 Value.none))).get? b = s.heap.get? b := fun b hb => Heap.get?_update_other _ _ fun z => hb z.symm
  have rec' : ∀ b o, s.heap.get? b = some o → (∀ vs, o.data ≠ .fields vs) → b ≠ T := fun b o hb hn z => by
    subst z
    rw [q7] at hb
    cases hb
    exact hn ts q8
  refine wpAny_entryZ hZ hA (b3.of_keeps fun b o hb hn => ⟨o, (ot b (rec' b o hb hn)).trans hb, rfl⟩) hL ((ot x fun z => q6 z.symm).trans q1)
    (fun b o hb => (ot b fun z => by subst z; rw [q5] at hb; cases hb).trans (b1 b o hb)) b2 q3 (Array.getElem?_eq_some_iff.mp q4).1 q2 fun g hg => ?_
  obtain ⟨x1, x2, x3, x4⟩ := hg
  exact hQ g ⟨x1, b2, x2, x3⟩ fun b o hb hn => x4 b o ((ot b (rec' b o hb hn)).trans hb) hn
theorem ff_same {B h g : Heap} : ∀ {l : List Env}, h.FunFrames B l → (∀ L ∈ frs l, g.get? L = h.get? L) → g.FunFrames B l
  | [], _, _ => trivial
  | c :: l, ⟨a1, ⟨L, o, a2, a3, a4, a5⟩, a6⟩, k => ⟨a1, ⟨L, o, a2, a3, (k L (List.mem_filterMap.mpr ⟨c, List.mem_cons_self, a2⟩)).trans a4, a5⟩, ff_same a6 fun b hb => by
      obtain ⟨e, he, q⟩ := List.mem_filterMap.mp hb
      exact k b (List.mem_filterMap.mpr ⟨e, List.mem_cons_of_mem _ he, q⟩)⟩
section
variable {X : Cx} {pins pins' : List (Addr × Obj)} {σ σ' : L2.St} {H : Hp} {sI s' : Shared}
/-- THE RULE: an exception in the air of the block is, behind the block, in the air of the def -/
theorem comp_err {Y : Cx} {ce : Env} {C : Addr} {Wx : WX} {Q : Value → Shared → Prop} {acc u : Value} {E' : Value → Shared → Prop} (hs : X.stack = X.env :: X.outer) (hf : X.env.frame = some X.env.locals) (tk : Takes X Wx) (hys : Y.stack = X.stack) (hye : Y.env = ce) (hyA : Y.A = X.A)
    (hyP : Y.prog = X.prog) (hyw : Y.w = X.w) (cf : ce.frame = X.env.frame) (cl : ce.locals = C)
    (toX : ∀ (pins' : List (Addr × Obj)) (σ' : L2.St) (H : Hp) (sI : Shared), Inv Y pins' σ' H sI → H C = none → Inv X pins σ H sI ∧ FpOk X pins H C)
    (hx : XE Y (fun cls d _ H => Wx cls d σ H) u s') : wpAny (model X.prog X.w) X.A (noteFrame u ce) (fun _ s2 => postX (model X.prog X.w) X.A X.xe Q acc ce (.error u) s2) E' s' := by
  obtain ⟨a, B, sI, pins', σ', H, cls, d, rfl, I, nb, up, sky, na, os, ag, w⟩ := hx
  have fC : H C = none := by
    have := I.free
    rw [hye, cl] at this
    exact this
  obtain ⟨IX, fp⟩ := toX pins' σ' H sI I fC
  obtain ⟨f0, f1, f2, f3, f4, f5⟩ := fp
  rw [note_frame cf]
  have hA : X.A.frames = some (X.env :: X.outer) := by rw [IX.ok.frames, hs]
  have hCL : C ≠ X.env.locals := f1
  rw [hys, hye, cl] at sky
  obtain ⟨mC, hC, _⟩ := I.loc
  rw [hye, cl] at hC
  have hC' : s'.heap.Ns C mC := up.ns hC
  -- noted: what follows
  have go : ∀ g1, HeldZ B (X.env :: X.outer) a (Zc cls d) X.env.locals g1 → s'.heap.UpToSlots g1 → postX (model X.prog X.w) X.A X.xe Q acc ce (.error (.ref a)) { s' with heap := g1 } := by
    intro g1 held up1
    have hC1 : g1.Ns C mC := up1.ns hC'
    refine ⟨mC, by rw [cl]; exact hC1, fun g2 same => ?_⟩
    rw [cl] at same
    obtain ⟨b1, b2, b3, oe, vs, T, oT, ts, q1, q2, q3, q4, q5, q6, q7, q8, q9⟩ := held
    have dC : ∃ o es ep, g1.get? C = some o ∧ o.data = .dict es ep := by
      obtain ⟨o, es, ep, h1, h2, h3⟩ := hC1
      exact ⟨o, es, ep, h1, by first | exact h2 | exact h3 | exact h2.1 | exact h3.1⟩
    obtain ⟨oC, es, ep, eC, kC⟩ := dC
    have aC : a ≠ C := fun z => by
      subst z
      rw [q1] at eC
      cases eC
      rw [q3] at kC
      cases kC
    have TC : T ≠ C := fun z => by
      subst z
      rw [q7] at eC
      cases eC
      rw [q8] at kC
      cases kC
    have hB : ∀ b o, (PySem.W.hideAll B [C]).get? b = some o → B.get? b = some o ∧ b ≠ C := fun b o e => ⟨PySem.W.of_hideAll _ e, fun z => by
      subst z
      rw [PySem.W.hideAll_none _ (List.mem_singleton.mpr rfl)] at e
      cases e⟩
    have frC : C ∉ frs X.stack := by
      rw [hs]
      intro hm
      rcases List.mem_filterMap.mp hm with ⟨c, hc, e⟩
      rcases List.mem_cons.mp hc with rfl | hc
      · rw [hf] at e
        exact hCL (Option.some.inj e).symm
      · exact f2 (List.mem_filterMap.mpr ⟨c, hc, e⟩)
    have held2 : HeldZ (PySem.W.hideAll B [C]) (X.env :: X.outer) a (Zc cls d) X.env.locals g2 := by
      refine ⟨fun b o e => ?_, ?_, ?_, oe, vs, T, oT, ts, ?_, q2, q3, q4, ?_, q6, ?_, q8, q9⟩
      · obtain ⟨e1, e2⟩ := hB b o e
        exact (same.2 b e2).trans (b1 b o e1)
      · cases q : (PySem.W.hideAll B [C]).get? a with
        | none => rfl
        | some o =>
          have := (hB a o q).1
          rw [b2] at this
          cases this
      · refine funFrames_none (ff_same b3 fun L hL => same.2 L fun z => ?_) fun L hL => ?_
        · subst z
          rw [hs] at frC
          exact frC hL
        · cases q : (PySem.W.hideAll B [C]).get? L with
          | none => rfl
          | some o =>
            have h1 := (hB L o q).1
            have h2 := (b3.mem hL).1
            rw [h2] at h1
            cases h1
      · exact (same.2 a aC).trans q1
      · cases q : (PySem.W.hideAll B [C]).get? T with
        | none => rfl
        | some o =>
          have := (hB T o q).1
          rw [q5] at this
          cases this
      · exact (same.2 T TC).trans q7
    have tr : TracedZ g2 (PySem.W.hideAll B [C]) a (Zc cls d) (rawInt X.env.locals) := held2.2.2.2
    obtain ⟨pe, ps, pT, poT, pts, w1, w2, w3, w4, w5, w6, w7, w8, w9⟩ := tr
    unfold PySem.passOn
    refine wpAny_bind (wpAny_field w1 w3 w4 ?_)
    rw [if_neg (by simp : ¬ (Value.ref pT == Value.none) = true)]
    refine wpAny_bind ?_
    rw [cf, hf]
    refine setFlight_onZ (s := { s' with heap := g2 }) held2 fun g3 held3 up3 => ?_
    refine wpAny_throw ?_
    -- in the air of the def
    have I8 : Inv X pins σ H { sI with heap := PySem.W.hideAll sI.heap [C], toks := sI.toks } := IX.turned (fun b o hb e => PySem.W.hideAll_get _ e (by simpa using hb)) f0 f1 f3 f4 f5
    refine tk (.ref a) _ ⟨a, PySem.W.hideAll B [C], { sI with heap := PySem.W.hideAll sI.heap [C], toks := sI.toks }, pins, σ, H, cls, d, rfl, I8, fun b o e hb => ?_, fun b o e hn => ?_, ?_, na, os, ag, w⟩
    · have bC : b ≠ C := fun z => by
        subst z
        have e : (PySem.W.hideAll sI.heap [b]).get? b = some o := e
        rw [PySem.W.hideAll_none _ (List.mem_singleton.mpr rfl)] at e
        cases e
      exact PySem.W.hideAll_get _ (nb b o (PySem.W.of_hideAll _ e) (by rw [hys]; exact hb)) (by simpa using bC)
    · have e : (PySem.W.hideAll sI.heap [C]).get? b = some o := e
      have bC : b ≠ C := fun z => by
        subst z
        rw [PySem.W.hideAll_none _ (List.mem_singleton.mpr rfl)] at e
        cases e
      obtain ⟨sl1, e1⟩ := up b o (PySem.W.of_hideAll _ e) hn
      obtain ⟨sl2, e2⟩ := up1 b _ e1 hn
      have e2' : g2.get? b = some { o with slots := sl2 } := (same.2 b bC).trans e2
      obtain ⟨sl3, e3⟩ := up3 b _ e2' hn
      exact ⟨sl3, e3⟩
    · rw [hs]
      exact .inr (.inr held3)
  have idE : ∀ (v : Value) (z : Shared), E' v z → E' v z := fun _ _ z => z
  rw [hs] at sky
  rcases sky with ⟨hB, hn, hl, oe, vs, he, hz, hd, h1⟩ | fl | hd
  · exact look_newZ Zc.steady hA hl hf he hB hn hd h1 hz go
  · exact looks_onZ Zc.steady hA hf fl go
  · exact look_moved Zc.steady hA hf hCL hd go
end
end
end Mb
end

section
set_option Elab.async false
set_option linter.all false
set_option maxRecDepth 100000
set_option maxHeartbeats 4000000
/-! Mb46: list comprehensions out of which exceptions may go -/
namespace Mb
noncomputable section
open PySem PySem.Spec PyProof.Rows L2

/-- a block's context with a wish about exceptions -/
abbrev blkE (X : Cx) (s : Shared) (H : Hp) (scope : Scope) (ce : Env) (fp : List Addr) (xe : Value → Shared → Prop) : Cx := { X.blk s H scope ce fp with xe := xe }
section
variable {X : Cx} {pins : List (Addr × Obj)} {σ : L2.St} {H : Hp} {s s0 : Shared} {H0 : Hp} {scope : Scope} {ce : Env} {fp : List Addr} {xe : Value → Shared → Prop}
theorem invE (I : Inv (X.blk s0 H0 scope ce fp) pins σ H s) : Inv (blkE X s0 H0 scope ce fp xe) pins σ H s :=
  ⟨⟨I.ok.mod, I.ok.kind, I.ok.glob, I.ok.blt, I.ok.above, I.ok.inj, I.ok.has, I.ok.cab, I.ok.hd, I.ok.frames, I.ok.stk, I.ok.exf, I.ok.bs, I.ok.bsz, I.ok.noex, I.ok.exfs, I.ok.funs, I.ok.frf⟩,
    I.os, I.bare, I.base, I.loc, I.cell, I.free, I.freeC, I.pin, I.hok, I.len⟩
end
section
variable {X : Cx}
theorem pe_lcX {elt tg iter : Expr} {ifs : List Expr} {scope : Scope} {own : List (Str × Nat)} {pos : Pos} {wi : TI} {g : TG} {tt : L2.St → TT} {te : L2.St → TE} {Wx : WX} (calm : X.calm = true) (nodup : X.N.Nodup)
    (top : X.stack = X.env :: X.outer ∧ X.env.frame = some X.env.locals) (tk : Takes X Wx) (src : PI X tg iter wi) (ok : BlkOk X.N X.env.scope scope own)
    (hg : ∀ (s : Shared) (H : Hp) (C : Addr) (cl : List (Str × Addr)) (fp : List Addr) (xe : Value → Shared → Prop), PG (blkE X s H scope (compEnvC scope cl C X.env) fp xe) tg g)
    (ht : ∀ (σ0 : L2.St) (s : Shared) (H : Hp) (C : Addr) (cl : List (Str × Addr)) (fp : List Addr) (xe : Value → Shared → Prop), Takes (blkE X s H scope (compEnvC scope cl C X.env) fp xe) (fun cls d _ H => Wx cls d σ0 H) → PTs (blkE X s H scope (compEnvC scope cl C X.env) fp xe) ifs (tt σ0))
    (he : ∀ (σ0 : L2.St) (s : Shared) (H : Hp) (C : Addr) (cl : List (Str × Addr)) (fp : List Addr) (xe : Value → Shared → Prop), Takes (blkE X s H scope (compEnvC scope cl C X.env) fp xe) (fun cls d _ H => Wx cls d σ0 H) → PE (blkE X s H scope (compEnvC scope cl C X.env) fp xe) elt (te σ0))
    (fold : ∀ x, foldedSetIterable iter X.env x = pure x) : PE X (.ListComp elt [⟨tg, iter, ifs, 0⟩] scope pos) (fun σ H Q => tLc wi g (tt σ) (te σ) (own.map (·.2)) σ H Q) := by
  refine ⟨fun pins s σ H Q I h => ?_⟩
  rw [eval_ListComp]
  have free : ∀ y ∈ scope.names, y.2 = .free → ∃ c, X.env.cells.lookup y.1 = some c := fun y hy e =>
    (ok.free y hy e).elim (fun k => I.ok.has _ (.inl k)) fun k => I.ok.has _ (.inr k)
  refine comp_run rfl fold (closure_ok free) ok.kind (fun y hy e => by rw [ok.uniq y hy, e]) (thn (src.run pins s σ H _ I h) fun xv sa hx => thn hx fun itv sb hb => ?_)
  obtain ⟨it, fp, tn, J, Hb, rfl, Ib, T, stb, fb, q⟩ := hb
  refine wpAny_newObj_type (newEnv_comp ?_) (by show 0 ≤ sizeLine; decide)
  generalize hR : sb.heap.objs.size = R
  have noR : Hb R = none := Ib.hok.fresh (Nat.le_of_eq hR)
  obtain ⟨W, ⟨m0, w0⟩, turn⟩ := q R noR
  generalize hs3 : ({ sb with heap := sb.heap.push { cls := .type "list", data := .seq ([] : List Value).toArray } } : Shared) = s3
  have h3 : s3.heap = sb.heap.push { cls := .type "list", data := .seq ([] : List Value).toArray } := by subst hs3; rfl
  have I3 : Inv X pins σ (upd Hb R (.lst [])) s3 := by
    subst hs3
    refine Ib.laid (t' := sb.toks) (fun b o e => Heap.get?_push_of_some _ e) (Nat.le_of_eq hR) ⟨Nat.zero_le _, [], 0, .nil, ?_⟩
    subst hR
    exact Heap.get?_push_size _ rfl
  have small : ∀ b ∈ fp, b < sb.heap.objs.size := fun b hb' => by
    obtain ⟨o, e, _⟩ := T.obj _ _ stb b hb'
    exact Heap.lt_size e
  have f3 : ∀ b ∈ fp, FpOk X pins (upd Hb R (.lst [])) b ∧ b < s3.heap.objs.size := fun b hb' => by
    have lt := small b hb'
    have ne : b ≠ R := by rw [← hR]; exact Nat.ne_of_lt lt
    exact ⟨⟨(upd_ne ne).trans (fb b hb').1, (fb b hb').2⟩, by rw [h3, Heap.size_push]; exact Nat.lt_succ_of_lt lt⟩
  have st3 : tn 0 s3.heap := T.keep _ _ _ stb fun b _ o e => by rw [h3]; exact Heap.get?_push_of_some _ e
  have I4' := block_start I3 ok nodup f3
  have nC0 : s3.heap.objs.size ≠ X.env.locals := Nat.ne_of_gt I3.lt
  have pg := hg s3 (upd Hb R (.lst [])) s3.heap.objs.size (cellsFrom (s3.heap.objs.size + 1) scope.names (cloFrom X.env.cells scope.names [])) fp
  have pt := ht σ s3 (upd Hb R (.lst [])) s3.heap.objs.size (cellsFrom (s3.heap.objs.size + 1) scope.names (cloFrom X.env.cells scope.names [])) fp
  have pe := he σ s3 (upd Hb R (.lst [])) s3.heap.objs.size (cellsFrom (s3.heap.objs.size + 1) scope.names (cloFrom X.env.cells scope.names [])) fp
  show codeAny _ _ (.compStart (.ListComp elt [⟨tg, iter, ifs, 0⟩] scope pos) 0 (.ref it) (.ref R) (compEnvC scope (cellsFrom (s3.heap.objs.size + 1) scope.names (cloFrom X.env.cells scope.names [])) s3.heap.objs.size X.env))
    (postX (model X.prog X.w) X.A X.xe (EP X pins σ Q) (.ref R) (compEnvC scope (cellsFrom (s3.heap.objs.size + 1) scope.names (cloFrom X.env.cells scope.names [])) s3.heap.objs.size X.env)) { s3 with heap := pushCells (s3.heap.push { cls := .type "dict", data := .dict #[] }) scope.names }
  have nfp : ∀ b ∈ fp, (upd Hb R (.lst [])) b = none := fun b hb' => (f3 b hb').1.1
  generalize hce : compEnvC scope (cellsFrom (s3.heap.objs.size + 1) scope.names (cloFrom X.env.cells scope.names [])) s3.heap.objs.size X.env = ce at I4' pg pt pe ⊢
  have cL : ce.locals = s3.heap.objs.size := by subst hce; rfl
  have cF : ce.frame = X.env.frame := by subst hce; rfl
  generalize hH3 : upd Hb R (.lst []) = H3 at I3 I4' pg pt pe w0 nfp f3
  generalize hs4 : ({ s3 with heap := pushCells (s3.heap.push { cls := .type "dict", data := .dict #[] }) scope.names } : Shared) = s4 at I4' ⊢
  have st4 : tn 0 s4.heap := T.keep _ _ _ st3 fun b _ o e => by subst hs4; exact pushCells_keeps _ _ _ _ (Heap.get?_push_of_some _ e)
  generalize hP : postX (model X.prog X.w) X.A X.xe (EP X pins σ Q) (.ref R) ce = P
  have hxe : ∀ xe, xe = notedBy (model X.prog X.w) X.A ce (fun e s' => P (.error e) s') → True := fun _ _ => trivial
  generalize hXE : notedBy (model X.prog X.w) X.A ce (fun e s' => P (.error e) s') = xe
  have back : ∀ (pins' : List (Addr × Obj)) (σ' : L2.St) (H' : Hp) (sI : Shared), Inv (blkE X s3 H3 scope ce fp xe) pins' σ' H' sI → H' s3.heap.objs.size = none → Inv X pins σ H' sI ∧ FpOk X pins H' s3.heap.objs.size := fun pins' σ' H' sI Iy nC =>
    ⟨I3.call' (ch := fp) Iy.os Iy.base Iy.hok Iy.bare fun b hb' => ⟨(f3 b hb').1.2.2.2.1, (f3 b hb').1.2.1, (f3 b hb').1.2.2.2.2.1, (f3 b hb').1.2.2.2.2.2⟩, I3.fpOk (Nat.le_refl _) nC⟩
  have takes : Takes (blkE X s3 H3 scope ce fp xe) (fun cls d _ H => Wx cls d σ H) := fun u s' x => by
    show xe u s'
    rw [← hXE, ← hP]
    exact comp_err (Y := blkE X s3 H3 scope ce fp xe) top.1 top.2 tk rfl rfl rfl rfl rfl cF cL back x
  have I4 : Inv (blkE X s3 H3 scope ce fp xe) [] (wipe σ (own.map (·.2))) H3 s4 := invE I4'
  have pg := pg xe
  have pt := pt xe takes
  have pe := pe xe takes
  have stat : ∀ {σ' : L2.St} {H' : Hp} {s' : Shared}, Inv (blkE X s3 H3 scope ce fp xe) [] σ' H' s' → (∀ b ∈ fp, H' b = none) → ∀ b ∈ fp, FpOk (blkE X s3 H3 scope ce fp xe) [] H' b := fun {σ' H' s'} I' hn b hb' =>
    ⟨hn b hb', (I'.ok.exf b hb').1, I'.ok.exfs b hb', .inl hb', fun x c e => (I'.ok.exf b hb').2 x c e, fun p hp => absurd (show p ∈ ([] : List (Addr × Obj)) ++ [] from hp) (by simp)⟩
  have noF : ∀ {α : Type} {t : Sem α} {Q : α → Shared → Prop} {z : Shared}, wpAny (model X.prog X.w) X.A t Q (fun _ _ => False) z → wpAny (model X.prog X.w) X.A t Q xe z := fun w => wpAny_mono w (fun _ _ y => y) fun _ _ y => y.elim
  have loop : codeAny (model X.prog X.w) X.A (.compLoop (.ListComp elt [⟨tg, iter, ifs, 0⟩] scope pos) 0 (.ref it) (.ref R) ce) P s4 := by
    refine compLoop_any (fun n s' => ∃ i H', Inv (blkE X s3 H3 scope ce fp xe) [] (wipe σ (own.map (·.2))) H' s' ∧ tn i s'.heap ∧ (∀ b ∈ fp, H' b = none) ∧ W i n H') ?_ m0 ⟨0, H3, I4, st4, nfp, w0⟩
    rw [hXE]
    rintro n s5 ⟨i, H5, I5, st5, n5, w5⟩
    rcases turn i n H5 w5 with ⟨stop, qq⟩ | ⟨go, Nx, hNx, step⟩
    · refine wpAny_mono (noF (T.done (blkE X s3 H3 scope ce fp xe) rfl rfl rfl calm i [] s5 _ H5 (fun _ _ => False) I5 (stat I5 n5) st5 stop)) (fun r s6 ⟨hr, I6⟩ => ?_) fun _ _ y => y
      subst hr
      have nC : H5 s3.heap.objs.size = none := by
        have z : H5 ce.locals = none := I6.free
        rw [cL] at z
        exact z
      obtain ⟨I7, f⟩ := back _ _ _ _ I6 nC
      obtain ⟨m, hn, _⟩ := I6.loc
      obtain ⟨f0, f1, f2, f3', f4, f5⟩ := f
      rw [← hP]
      refine ⟨m, hn, fun g sb' => ?_⟩
      rw [cL] at sb'
      exact ⟨.ref R, H5, I7.turned (t' := s6.toks) (fun b o hb' e => (sb'.2 b hb').trans e) f0 f1 f3' f4 f5, rfl, qq⟩
    · refine wpAny_mono (noF (T.item (blkE X s3 H3 scope ce fp xe) rfl rfl rfl calm i [] s5 _ H5 (fun _ _ => False) I5 (stat I5 n5) st5 go)) (fun r s6 ⟨u, hr, h6⟩ => ?_) fun _ _ y => y
      subst hr
      refine wpAny_mono (noF h6) (fun _ s7 ⟨x, H7, I7, r7, y7, st7, n7⟩ => ?_) fun _ _ y => y
      have I7' := I7.pinned (stat I7 n7) (T.obj _ _ st7)
      refine thn (pg.run _ s7 _ H7 x u _ I7' r7 (step x H7 y7)) fun _ s8 ⟨σ8, H8, I8, hw8, q8⟩ => ?_
      refine thn (pt.run _ s8 σ8 H8 _ I8 q8) fun b s9 ⟨H9, I9, q9⟩ => ?_
      have fin : ∀ {s' : Shared} {H' : Hp}, Inv (blkE X s3 H3 scope ce fp xe) ([] ++ pinsAt fp s7.heap) σ8 H' s' → Nx H' → ∃ m, m < n ∧ ∃ i H', Inv (blkE X s3 H3 scope ce fp xe) [] (wipe σ (own.map (·.2))) H' s' ∧ tn i s'.heap ∧ (∀ b ∈ fp, H' b = none) ∧ W i m H' := fun {s' H'} I' nx => by
        obtain ⟨m', hm, w'⟩ := hNx H' nx
        have pin' : ∀ b ∈ fp, ∀ o, s7.heap.get? b = some o → s'.heap.get? b = some o ∧ H' b = none := fun b hb' o e =>
          have z := I'.pin (b, o) (List.mem_append_right _ (List.mem_append_right _ (mem_pinsAt hb' e)))
          ⟨z.1, z.2.1⟩
        have hl : (wipe σ (own.map (·.2))).length = σ8.length := by rw [← hw8, wipe_length]
        refine ⟨m', hm, i + 1, H', (I'.unpinned (pins := [])).weak hl (fun j v e => ?_), T.keep _ _ _ st7 fun b hb' o e => (pin' b hb' o e).1, fun b hb' => ?_, w'⟩
        · rw [← hw8] at e
          exact (wipe_some e).1
        · obtain ⟨o, e, _⟩ := T.obj _ _ st7 b hb'
          exact (pin' b hb' o e).2
      cases b with
      | false =>
        simp only [Bool.false_eq_true, if_false] at q9 ⊢
        exact fin I9 q9
      | true =>
        simp only [if_true] at q9 ⊢
        refine thn (pe.run _ s9 σ8 H9 _ I9 q9) fun z s10 ⟨yv, H10, I10, r10, acc, hD10, hz10, nx⟩ => ?_
        exact app_ok (X := blkE X s3 H3 scope ce fp xe) I10 hD10 hz10 r10 fun s11 I11 => fin I11 nx
  exact codeAny_compStart_list loop (T.self X.A 0 _ _ _ st4 loop)
end
end
end Mb
end

section
set_option Elab.async false
set_option linter.all false
set_option maxRecDepth 100000
set_option maxHeartbeats 2000000
/-! Mb47: what a comprehension denotes out of which exceptions may go -/
namespace Mb
noncomputable section
open PySem PySem.Spec PyProof.Rows L2

def cLoopX (vs : List Nat) (tg : Tgt) (ts : Ev → Res (Bool × Ev)) (f : Ev → Res (Ent × Ev)) : List PyData → Ev → List PyData → Res (List PyData × Ev)
  | [], ε, acc => .ok (acc, ε)
  | d :: its, ε, acc => match tg.put d ε with
    | some ε1 => match ts ε1 with
      | .ok (true, ε2) => match f ε2 with
        | .ok (e, ε3) => if acc.length < LIM then cLoopX vs tg ts f its (wipeE ε3 vs) (acc ++ [e.2]) else .bad
        | .exc x ε3 => .exc x (wipeE ε3 vs)
        | .bad => .bad
      | .ok (false, ε2) => cLoopX vs tg ts f its (wipeE ε2 vs) acc
      | .exc x ε2 => .exc x (wipeE ε2 vs)
      | .bad => .bad
    | none => .bad
def compEnd (ε1 : Ev) (vs : List Nat) : Res (List PyData × Ev) → Res (Ent × Ev)
  | .ok r => .ok ((1, .list r.1), backE ε1 r.2 vs)
  | .exc x ε => .exc x (backE ε1 ε vs)
  | .bad => .bad
def fCompX (vs : List Nat) (tg : Tgt) (src : Ev → Res (List PyData × Ev)) (ts : Ev → Res (Bool × Ev)) (f : Ev → Res (Ent × Ev)) : Ev → Res (Ent × Ev) := fun ε => (src ε).bind fun q => compEnd q.2 vs (cLoopX vs tg ts f q.1 (wipeE q.2 vs) [])
section
variable {p : Pm} {Wx : WX} {m ms mt me : Bool} {σ σ1 : L2.St} {G H G1 H1 : Hp} {fps fps1 : Fps} {ε : Ev} {fx : List Nat}
theorem tE_compX {vs : List Nat} {tg : Tgt} {g : TG} {src : Ev → Res (List PyData × Ev)} {ts : Ev → Res (Bool × Ev)} {f : Ev → Res (Ent × Ev)} {Q : VK} (hg : TgOk p.K fx tg g) (sub : ∀ j ∈ tg.is, j ∈ vs) (hm : m = false → ms = false ∧ mt = false ∧ me = false)
    (h : tE p Wx m (fCompX vs tg src ts f) σ H Q) : tLc (tIt p Wx ms src) g (tT p (fun cls d _ H => Wx cls d σ H) mt ts) (tE p (fun cls d _ H => Wx cls d σ H) me f) vs σ H Q := by
  obtain ⟨ε, G, fps, r, a⟩ := h
  unfold fCompX at a
  refine ⟨ε, G, fps, r, ?_⟩
  cases e : src ε with
  | exc x e' => rw [e] at a; exact a
  | bad => rw [e] at a; exact a
  | ok q =>
    obtain ⟨its, ε1⟩ := q
    rw [e] at a
    intro J G1 H1 fps1 r1 t1 s1 srcOk D hD
    have a : After p Wx m σ G H fps (relE p) (compEnd ε1 vs (cLoopX vs tg ts f its (wipeE ε1 vs) [])) Q := a
    obtain ⟨fpsw, rw0, ww⟩ := r1.wiped vs
    have gD : ∀ {G' : Hp}, Same G' H1 → G' D = none := fun s => free_sub s hD
    have nW1 : ¬ Wf fps1 [] D := fun w => (r1.off D w).2 hD
    have nW0 : ¬ Wf fpsw [] D := fun w => nW1 (ww D w)
    have t0 : Tr G1 H1 (Wf fps1 []) G1 (upd H1 D (.lst [])) (Wf fpsw []) := ⟨fun b o hb _ => by rw [upd_ne (ne_of_none hb hD)]; exact hb, fun b hb => by
        by_cases q : b = D
        · subst q; rw [upd_same]; exact fun z => nomatch z
        · rw [upd_ne q]; exact hb, Same.refl _, fun _ h => .inl h, fun b w => .inl (ww b w)⟩
    refine ⟨fun i n H' => i + n = its.length ∧ ∃ (ε' : Ev) (G' : Hp) (fps' : Fps) (acc : List PyData) (va : List V), Rel p.K ε' (wipe σ vs) G' H' fps' [] ∧ Tr G1 H1 (Wf fps1 []) G' H' (Wf fps' []) ∧ (m = false → Same H1 H') ∧ H' D = some (.lst va) ∧ RzAll p.K G' va acc ∧
        G' D = none ∧ ¬ Wf fps' [] D ∧ cLoopX vs tg ts f its (wipeE ε1 vs) [] = cLoopX vs tg ts f (its.drop i) ε' acc,
      ⟨its.length, by omega, wipeE ε1 vs, G1, fpsw, [], [], rw0.other (gD r1.sub) nW0, t0, fun _ => sUpd hD, upd_same, .nil, gD r1.sub, nW0, rfl⟩, ?_⟩
    rintro i n H2 ⟨hn, ε2, G2, fps2, acc, va, r2, t2, s2, hD2, ra, g2, w2, e2⟩
    obtain ⟨hgo, hstop⟩ := srcOk i G2 H2 t2.grow r2.sub
    by_cases hi : i < its.length
    · obtain ⟨go, yl⟩ := hgo hi
      refine .inr ⟨go, fun H' => ∃ n', n' < n ∧ (i + 1 + n' = its.length ∧ ∃ (ε' : Ev) (G' : Hp) (fps' : Fps) (acc : List PyData) (va : List V), Rel p.K ε' (wipe σ vs) G' H' fps' [] ∧ Tr G1 H1 (Wf fps1 []) G' H' (Wf fps' []) ∧ (m = false → Same H1 H') ∧ H' D = some (.lst va) ∧ RzAll p.K G' va acc ∧
        G' D = none ∧ ¬ Wf fps' [] D ∧ cLoopX vs tg ts f its (wipeE ε1 vs) [] = cLoopX vs tg ts f (its.drop (i + 1)) ε' acc), fun H' h => h, fun x H3 hy => ?_⟩
      obtain ⟨d, hd, pr⟩ := yl x H3 hy
      have hdrop : its.drop i = d :: its.drop (i + 1) := by
        rw [List.drop_eq_getElem_cons hi]
        have := List.getElem?_eq_getElem hi
        rw [hd] at this
        rw [Option.some.inj this]
      obtain ⟨G3, fp3, r3, o3, t3, sH3⟩ := pr.rel r2
      obtain ⟨rfl, o3⟩ := o3
      -- where the new list stands, behind a step
      have stays : ∀ {Ga Ha Gb Hb : Hp} {fa fb : Fps}, Tr Ga Ha (Wf fa []) Gb Hb (Wf fb []) → Ha D = some (.lst va) → Ga D = none → ¬ Wf fa [] D → Hb D = some (.lst va) ∧ Gb D = none ∧ ¬ Wf fb [] D := fun {Ga Ha Gb Hb fa fb} t h1 h2 h3 => by
        refine ⟨t.keep D _ h1 h3, ?_, fun w => (t.wnew D w).elim h3 fun z => by rw [h1] at z; cases z⟩
        cases q : Gb D with
        | none => rfl
        | some o => exact ((t.new D (by rw [q]; exact fun z => nomatch z)).elim (fun z => absurd h2 z) fun z => z.elim (fun z => by rw [h1] at z; cases z) fun z => absurd z h3)
      obtain ⟨hD3, g3, w3⟩ := stays t3 hD2 g2 w2
      rw [hdrop, cLoopX] at e2
      have a2 := a
      rw [e2] at a2
      cases ep : tg.put d ε2 with
      | none => rw [ep] at a2; exact a2.elim
      | some ε3 =>
        rw [ep] at a2 e2
        refine hg ε2 ε3 (wipe σ vs) G3 H3 fps2 d x _ r3 o3 ep fun σ4 fps4 r4 w4 f4 l4 n4 => ⟨wipe_eq (is := tg.is) (by rw [l4, wipe_length]) n4 sub, ε3, G3, fps4, r4, ?_⟩
        have hwσ : wipe σ4 vs = wipe σ vs := wipe_eq (is := tg.is) (by rw [l4, wipe_length]) n4 sub
        have t4 : Tr G3 H3 (Wf fps2 []) G3 H3 (Wf fps4 []) := Tr.refl.wsub w4
        obtain ⟨_, _, w4'⟩ := stays t4 hD3 g3 w3
        dsimp only at a2 e2
        cases et : ts ε3 with
        | exc x' e' =>
          rw [et] at a2
          intro cls dx G5 H5 fps5 r5 t5 xa
          obtain ⟨fps6, r6, w6⟩ := r5.wiped vs
          rw [hwσ] at r6
          exact a2 cls dx G5 H5 (offF fps6 vs) (r1.back r6 ((((t2.trans t3).trans t4).trans t5).grow)) (((((t1.trans t2).trans t3).trans t4).trans t5).less fun b w => w6 b w.offF) xa
        | bad => rw [et] at a2; exact a2.elim
        | ok q =>
          obtain ⟨b, ε5⟩ := q
          rw [et] at a2 e2
          intro b' G5 H5 fps5 fp5 r5 rl5 t5 s5
          obtain ⟨rfl, rfl⟩ := rl5
          obtain ⟨hD5, g5, w5⟩ := stays t5 hD3 g3 w4'
          have sm5 : m = false → Same H1 H5 := fun z => ((s2 z).trans sH3).trans (s5 (hm z).2.1)
          cases b' with
          | false =>
            rw [if_neg Bool.false_ne_true]
            dsimp only at e2
            obtain ⟨fps6, r6, w6⟩ := r5.wiped vs
            rw [hwσ] at r6
            exact ⟨n - 1, by omega, by omega, wipeE ε5 vs, G5, fps6, acc, va, r6, (((t2.trans t3).trans t4).trans t5).wsub w6, sm5, hD5, ra.same (t3.grow.trans t5.grow), g5, fun w => w5 (w6 D w), e2⟩
          | true =>
            rw [if_pos rfl]
            dsimp only at a2 e2
            refine ⟨ε5, G5, fps5, r5, ?_⟩
            cases ef : f ε5 with
            | exc x' e' =>
              rw [ef] at a2
              intro cls dx G6 H6 fps6 r6 t6 xa
              obtain ⟨fps7, r7, w7⟩ := r6.wiped vs
              rw [hwσ] at r7
              exact a2 cls dx G6 H6 (offF fps7 vs) (r1.back r7 (((((t2.trans t3).trans t4).trans t5).trans t6).grow)) ((((((t1.trans t2).trans t3).trans t4).trans t5).trans t6).less fun b w => w7 b w.offF) xa
            | bad => rw [ef] at a2; exact a2.elim
            | ok q =>
              obtain ⟨en, ε6⟩ := q
              rw [ef] at a2 e2
              dsimp only at a2 e2
              intro v G6 H6 fps6 fp6 r6 o6 t6 s6
              by_cases hz : acc.length < LIM
              · rw [if_pos hz] at e2
                have o6' := o6.freeze r6
                have t6' := t6.freeze r6
                have r6' := r6.freeze
                obtain ⟨hD6, g6, w6⟩ := stays t6' hD5 g5 w5
                obtain ⟨fps7, r7, w7⟩ := r6'.wiped vs
                rw [hwσ] at r7
                have tt := ((((t2.trans t3).trans t4).trans t5).trans t6').wsub w7
                have lenva : va.length = acc.length := ra.length
                refine ⟨va, hD6, by rw [lenva, ← lim_line]; exact hz, n - 1, by omega, by omega, wipeE ε6 vs, _, fps7, acc ++ [en.2], va ++ [v], r7.other g6 (fun w => w6 (w7 D w)), ?_, fun z => ?_, upd_same, ?_, g6, fun w => w6 (w7 D w), e2⟩
                · refine ⟨fun b o hb hw => ?_, fun b hb => ?_, tt.grow, tt.new, tt.wnew⟩
                  · rw [upd_ne (ne_of_none hb hD)]; exact tt.keep b o hb hw
                  · by_cases q : b = D
                    · subst q; rw [upd_same]; exact fun z => nomatch z
                    · rw [upd_ne q]; exact tt.there b hb
                · intro b o hb
                  rw [upd_ne (ne_of_none hb hD)]
                  exact ((sm5 z).trans (s6 (hm z).2.2)) b o hb
                · exact (ra.same (t3.grow.trans (t5.grow.trans t6'.grow))).append (.cons o6' .nil)
              · rw [if_neg hz] at a2; exact a2.elim
    · refine .inl ⟨hstop (by omega), ?_⟩
      have hd : its.drop i = [] := List.drop_eq_nil_of_le (by omega)
      rw [hd, cLoopX] at e2
      rw [e2] at a
      have rb := r1.back r2 t2.grow
      have rD : Rel p.K (backE ε1 ε2 vs) σ G2 H2 (offF fps2 vs) [D] := ⟨rb.len, rb.sub, fun b w => ?_, rb.nd, rb.dis, by simp, fun j b hb => ?_, rb.at'⟩
      · refine a (.ref D) G2 H2 (offF fps2 vs) [D] rD ⟨D, [], rfl, rfl, .inl ⟨va, acc, rfl, hD2, all3_zero ra⟩⟩ ⟨(t1.trans t2).keep, (t1.trans t2).there, (t1.trans t2).grow, (t1.trans t2).new, fun b w => ?_⟩ fun z => (s1 (hm z).1).trans (s2 z)
        rcases w with w | ⟨j, w⟩
        · have e : b = D := by simpa using w
          subst e
          have back : H1 b = none → H b = none := fun e => Classical.byContradiction fun n => t1.there b n e
          exact .inr (back hD)
        · exact (t1.trans t2).wnew b (Wf.offF (.inr ⟨j, w⟩))
      · rcases w with w | ⟨j, w⟩
        · have e : b = D := by simpa using w
          subst e
          exact ⟨g2, by rw [hD2]; exact fun z => nomatch z⟩
        · exact rb.off b (.inr ⟨j, w⟩)
      · have e : b = D := by simpa using hb
        subst e
        exact fun w => w2 (Wf.offF (.inr ⟨j, w⟩))
end
end
end Mb
end

section
set_option Elab.async false
set_option linter.all false
set_option maxRecDepth 100000
set_option maxHeartbeats 1000000
/-! Mb20: the small syntax and what it denotes -/
namespace Mb
noncomputable section
open PySem PySem.Spec PyProof.Rows L2

inductive BOp where
  | add | sub | mul | mod | div
  deriving DecidableEq
inductive COp where
  | eq | ne | lt | le | gt | ge | is | isn | in' | nin
  deriving DecidableEq
inductive Bi where
  | len | abs | int | str | repr | tuple | list | sum | all | any
  deriving DecidableEq
inductive Me where
  | split | join | partition
  deriving DecidableEq
/-- a target: a name, or a tuple of names -/
inductive TgA where
  | nm (i : Nat)
  | tp (is : List Nat)
mutual
inductive Ex where
  | var (i : Nat)
  | non | bl (b : Bool) | int (i : Int) | str (s : Str)
  | glob (j : Nat)
  | tup (es : Exs) | lst (es : Exs)
  | bin (o : BOp) (a b : Ex) | neg (a : Ex)
  | cmp (o : COp) (a b : Ex)
  | chain (o o' : COp) (a b c : Ex)
  | and (a b : Ex) | or (a b : Ex) | not (a : Ex)
  | ite (c a b : Ex)
  | idx (a b : Ex)
  | ixv (i : Nat) (b : Ex)
  | sl (a : Ex) (lo hi : Exo)
  | bi (f : Bi) (a : Ex)
  | me (f : Me) (o a : Ex)
  | isi (T : String) (a : Ex)
  | call (j : Nat) (as : Ags)
  | comp (own : List (Str × Nat)) (tg : TgA) (src : Sr) (cond : Exo) (elt : Ex)
  | compX (own : List (Str × Nat)) (tg : TgA) (src : Sr) (cond : Exo) (elt : Ex)
  | fmt (a : Ex)
  | fstr (es : Exs)
  | srt (a : Ex)
inductive Exs where
  | nil
  | cons (e : Ex) (es : Exs)
inductive Exo where
  | no
  | so (e : Ex)
inductive Ags where
  | nil
  | own (i : Nat) (r : Ags)
  | val (e : Ex) (r : Ags)
inductive Sr where
  | inn (e : Ex)
  | rng1 (e : Ex)
  | enum (e : Ex)
  | zip (e e' : Ex)
  | rng2 (e e' : Ex)
end

def BOp.F : BOp → List Ent → Option Ent
  | .add => addF
  | .sub => intF (fun _ _ => true) fun i j => i - j
  | .mul => mulF
  | .mod => intF (fun _ j => decide (0 < j)) fun i j => i % j
  | .div => intF divC fun i j => i / j
def BOp.op : BOp → Operator
  | .add => .Add
  | .sub => .Sub
  | .mul => .Mult
  | .mod => .Mod
  | .div => .FloorDiv
def COp.F : COp → List Ent → Option Ent
  | .eq => cmpF okEq PyData.eqv
  | .ne => cmpF okEq fun a b => !PyData.eqv a b
  | .lt => cmpF okLt PySem.W.dataLt
  | .gt => cmpF okLt fun a b => PySem.W.dataLt b a
  | .le => cmpF okLt fun a b => !PySem.W.dataLt b a
  | .ge => cmpF okLt fun a b => !PySem.W.dataLt a b
  | .is => isF false
  | .isn => isF true
  | .in' => inF false
  | .nin => inF true
def COp.op : COp → CmpOp
  | .eq => .Eq
  | .ne => .NotEq
  | .lt => .Lt
  | .gt => .Gt
  | .le => .LtE
  | .ge => .GtE
  | .is => .Is
  | .isn => .IsNot
  | .in' => .In
  | .nin => .NotIn
def Bi.F : Bi → List Ent → Option Ent
  | .len => lenF
  | .abs => absF
  | .int => intFn
  | .str => strFn
  | .repr => reprFn
  | .tuple => tupFn
  | .list => lstFn
  | .sum => sumFn
  | .all => allFn false
  | .any => allFn true
def Bi.name : Bi → Str
  | .len => "len"
  | .abs => "abs"
  | .int => "int"
  | .str => "str"
  | .repr => "repr"
  | .tuple => "tuple"
  | .list => "list"
  | .sum => "sum"
  | .all => "all"
  | .any => "any"
def Bi.val : Bi → Value
  | .len => .builtin "len"
  | .abs => .builtin "abs"
  | .int => .type "int"
  | .str => .type "str"
  | .repr => .builtin "repr"
  | .tuple => .type "tuple"
  | .list => .type "list"
  | .sum => .builtin "sum"
  | .all => .builtin "all"
  | .any => .builtin "any"
def Me.F : Me → List Ent → Option Ent
  | .split => splitF
  | .join => joinF
  | .partition => partF
def Me.name : Me → Str
  | .split => "split"
  | .join => "join"
  | .partition => "partition"

def zeros : List Ent → Option (List PyData)
  | [] => some []
  | (0, d) :: r => (zeros r).map (d :: ·)
  | _ => none
def tupD (as : List Ent) : Option Ent := match zeros as with
  | some ds => if ds.length ≤ LIM then some (0, .tuple ds) else none
  | none => none
def lstD (as : List Ent) : Option Ent := match zeros as with
  | some ds => if ds.length ≤ LIM then some (1, .list ds) else none
  | none => none
/-- sorted(set(x)), x of texts alone or of ints alone -/
def dedS : List Str → List Str
  | [] => []
  | x :: r => if (dedS r).contains x then dedS r else x :: dedS r
def dedI : List Int → List Int
  | [] => []
  | x :: r => if (dedI r).contains x then dedI r else x :: dedI r
def leS (a b : Str) : Bool := decide (a.cps.toList ≤ b.cps.toList)
def srtF : Ent → Option Ent
  | (n, .list ds) => if n ≤ 1 ∧ ds.length < 4000 then match strsOf ds with
    | some ss => some (1, .list (((dedS ss).mergeSort leS).map PyData.str))
    | none => (intsOf ds).map fun ns => (1, .list (((dedI ns).mergeSort fun a b => decide (a ≤ b)).map PyData.int))
    else none
  | _ => none

/-- what is known of the module -/
structure Gm where
  blt : List Str
  glb : List (Str × PyData)
  fns : List (Str × FD)
  exs : List (Str × (List Ent → Option Exn))

/-- what an expression denotes: as a value, borrowed, as a test; whether it changes what is owned -/
structure Den where
  v : Ev → Res (Ent × Ev)
  b : Ev → Res (Ent × Ev)
  t : Ev → Res (Bool × Ev)
  m : Bool
def Den.val (f : Ev → Res (Ent × Ev)) (m : Bool) : Den := ⟨f, frzR f, fTru (frzR f), m⟩
def Den.bad : Den := ⟨fun _ => .bad, fun _ => .bad, fun _ => .bad, false⟩
def TgA.tgt (fx : List Nat) : TgA → Tgt
  | .nm i => tgName fx i
  | .tp is => tgTup fx is
def fTrue : Ev → Res (Bool × Ev) := fun ε => .ok (true, ε)

mutual
def den (Γ : Gm) : Ex → Den
  | .var i => ⟨fVar i, fVarB i, fTru (fVarB i), false⟩
  | .non => .val (fLit .none) false
  | .bl b => .val (fLit (.bool b)) false
  | .int i => .val (fLit (.int i)) false
  | .str s => .val (fLit (.str s)) false
  | .glob j => match Γ.glb[j]? with
    | some q => .val (fLit q.2) false
    | none => .bad
  | .tup es => .val (fOp tupD (denV Γ es).1) (denV Γ es).2
  | .lst es => .val (fOp lstD (denV Γ es).1) (denV Γ es).2
  | .bin o a b => .val (fOp2 o.F (den Γ b).m (den Γ a).b (den Γ b).b) ((den Γ a).m || (den Γ b).m)
  | .neg a => .val (fUn negF (den Γ a).b) (den Γ a).m
  | .cmp o a b => ⟨fOp2 o.F (den Γ b).m (den Γ a).b (den Γ b).b, frzR (fOp2 o.F (den Γ b).m (den Γ a).b (den Γ b).b), fBool (fOp2 o.F (den Γ b).m (den Γ a).b (den Γ b).b), (den Γ a).m || (den Γ b).m⟩
  | .chain o o' a b c => if (den Γ b).m || (den Γ c).m then .bad else ⟨fChain o.F o'.F (den Γ a).b (den Γ b).b (den Γ c).b, frzR (fChain o.F o'.F (den Γ a).b (den Γ b).b (den Γ c).b), fBool (fChain o.F o'.F (den Γ a).b (den Γ b).b (den Γ c).b), (den Γ a).m⟩
  | .and a b => ⟨fAnd (den Γ a).v (den Γ b).v, frzR (fAnd (den Γ a).v (den Γ b).v), fAndT (den Γ a).t (den Γ b).t, (den Γ a).m || (den Γ b).m⟩
  | .or a b => ⟨fOr (den Γ a).v (den Γ b).v, frzR (fOr (den Γ a).v (den Γ b).v), fOrT (den Γ a).t (den Γ b).t, (den Γ a).m || (den Γ b).m⟩
  | .not a => ⟨fNot (den Γ a).b, frzR (fNot (den Γ a).b), fNotT (den Γ a).t, (den Γ a).m⟩
  | .ite c a b => ⟨fIf (den Γ c).t (den Γ a).v (den Γ b).v, frzR (fIf (den Γ c).t (den Γ a).v (den Γ b).v), fIf (den Γ c).t (den Γ a).t (den Γ b).t, (den Γ c).m || ((den Γ a).m || (den Γ b).m)⟩
  | .idx a b => ⟨only0 (fOp2 ixF (den Γ b).m (den Γ a).b (den Γ b).b), fOp2 ixF (den Γ b).m (den Γ a).b (den Γ b).b, fTru (fOp2 ixF (den Γ b).m (den Γ a).b (den Γ b).b), (den Γ a).m || (den Γ b).m⟩
  | .ixv i b => ⟨only0 (fIxV i ixF (den Γ b).b), fIxV i ixF (den Γ b).b, fTru (fIxV i ixF (den Γ b).b), (den Γ b).m⟩
  | .sl a lo hi => .val (fSl slF (denO Γ lo).2 (denO Γ hi).2 (den Γ a).b (denO Γ lo).1 (denO Γ hi).1) ((den Γ a).m || ((denO Γ lo).2 || (denO Γ hi).2))
  | .bi f a => .val (fOp f.F (fCons false (den Γ a).b fNil)) (den Γ a).m
  | .me f o a => .val (fM1 f.F (den Γ a).m (den Γ o).b (den Γ a).b) ((den Γ o).m || (den Γ a).m)
  | .isi T a => .val (fUn (isiF T) (den Γ a).b) (den Γ a).m
  | .call j as => match Γ.fns[j]? with
    | some q => if (denG Γ as).2.2 = true then .val (fCallO q.2 (denG Γ as).1) true else .val (fCallV q.2 (denG Γ as).1) (denG Γ as).2.1
    | none => .bad
  | .comp own tg src cond elt => .val (fComp (own.map (·.2)) (tg.tgt []) (denR Γ src).1 (denC Γ cond).1 (den Γ elt).v) ((denR Γ src).2 || ((denC Γ cond).2 || (den Γ elt).m))
  | .compX own tg src cond elt => .val (fCompX (own.map (·.2)) (tg.tgt []) (denR Γ src).1 (denC Γ cond).1 (den Γ elt).v) ((denR Γ src).2 || ((denC Γ cond).2 || (den Γ elt).m))
  | .fmt a => .val (fUn fmtF (den Γ a).b) (den Γ a).m
  | .fstr es => .val (fStr (denJ Γ es)) (anyM (denJ Γ es))
  | .srt a => .val (fUn srtF (den Γ a).b) (den Γ a).m
/-- several values -/
def denV (Γ : Gm) : Exs → (Ev → Res (List Ent × Ev)) × Bool
  | .nil => (fNil, false)
  | .cons e es => (fCons (denV Γ es).2 (frzR (den Γ e).v) (denV Γ es).1, (den Γ e).m || (denV Γ es).2)
/-- a slice's part -/
def denO (Γ : Gm) : Exo → (Ev → Res (Option Int × Ev)) × Bool
  | .no => (fNoPart, false)
  | .so e => (fPart (den Γ e).b, (den Γ e).m)
/-- a comprehension's test -/
def denC (Γ : Gm) : Exo → (Ev → Res (Bool × Ev)) × Bool
  | .no => (fTrue, false)
  | .so e => ((den Γ e).t, (den Γ e).m)
/-- a call's arguments; whether they change something; whether one is owned -/
def denG (Γ : Gm) : Ags → (Ev → Res (List Ag × Ev)) × Bool × Bool
  | .nil => (cNil, false, false)
  | .own i r => (cOwn i (denG Γ r).1, (denG Γ r).2.1, true)
  | .val e r => (cVal (den Γ e).v (denG Γ r).1, (den Γ e).m || (denG Γ r).2.1, (denG Γ r).2.2)
def denR (Γ : Gm) : Sr → (Ev → Res (List PyData × Ev)) × Bool
  | .inn e => (fIn (den Γ e).v, (den Γ e).m)
  | .rng1 e => (fRng1 (den Γ e).v, (den Γ e).m)
  | .enum e => (fEnum (den Γ e).v, (den Γ e).m)
  | .zip e e' => (fZip (den Γ e).v (den Γ e').v, (den Γ e).m || (den Γ e').m)
  | .rng2 e e' => (fRng2 (den Γ e).v (den Γ e').v, (den Γ e).m || (den Γ e').m)
def denJ (Γ : Gm) : Exs → List (Bool × (Ev → Res (Ent × Ev)))
  | .nil => []
  | .cons e es => ((den Γ e).m, (den Γ e).b) :: denJ Γ es
end
/-- several values that may be owned -/
def denOw (Γ : Gm) : Exs → (Ev → Res (List Ent × Ev))
  | .nil => fNil
  | .cons e es => oCons (den Γ e).v (denOw Γ es)

/-! ### statements -/
/-- what an except clause gives back -/
inductive Hd where
  | k (e : Ex)
  | fld (i : Nat) (f : Str)
  | fldIf (i : Nat) (f : Str) (c : Int) (a b : Ex)
def Hd.slot : Hd → Option Nat
  | .k _ => none
  | .fld i _ => some i
  | .fldIf i _ _ _ _ => some i
def dHd (Γ : Gm) : Hd → Exn → Ev → Res (Ent × Ev)
  | .k e => fun _ => (den Γ e).v
  | .fld _ f => fun x ε => match x.fs.lookup f with
    | some d => .ok ((0, d), ε)
    | none => .bad
  | .fldIf _ f c a b => fun x => match x.fs.lookup f with
    | some (.int n) => if n = c then (den Γ a).v else (den Γ b).v
    | _ => fun _ => .bad
def forgetE : Option Nat → Ev → Ev
  | none, ε => ε
  | some i, ε => ε.set i none
def okSlot : Option Nat → Ev → Bool
  | none, _ => true
  | some i, ε => decide (i < ε.length)
def fTry (c : Str) (b : Ev → Res (Fl × Ev)) (hd : Exn → Ev → Res (Ent × Ev)) (si : Option Nat) : Ev → Res (Fl × Ev) := fun ε => match b ε with
  | .exc x ε' => if x.cls = c ∧ okSlot si ε' = true then match hd x (forgetE si ε') with
    | .ok q => .ok (.ret q.1, q.2)
    | _ => .bad
    else .bad
  | r => r
def fRais (F : List Ent → Option Exn) (h : Ev → Res (List Ent × Ev)) : Ev → Res (Fl × Ev) := fun ε => (h ε).bind fun q => match F q.1 with
  | some x => .exc x q.2
  | none => .bad
mutual
inductive Sm where
  | asg (i : Nat) (e : Ex)
  | par (is : List Nat) (es : Exs)
  | asgT (is : List Nat) (e : Ex)
  | app (i : Nat) (e : Ex)
  | setL (i : Nat) (j e : Ex)
  | expr (e : Ex)
  | ite (c : Ex) (a b : Sms)
  | whl (c : Ex) (b : Sms)
  | forr (tg : TgA) (src : Sr) (b : Sms)
  | ret (e : Ex) | retV (i : Nat) | retN
  | brk | cont | pass
  | rais (j : Nat) (es : Exs)
  | tryK (b : Sms) (j : Nat) (h : Hd)
inductive Sms where
  | nil
  | cons (s : Sm) (r : Sms)
end
mutual
noncomputable def dS (Γ : Gm) (fx : List Nat) : Sm → Ev → Res (Fl × Ev)
  | .asg i e => fAsg fx i (den Γ e).v
  | .par is es => fPar fx is (denOw Γ es)
  | .asgT is e => fAsgT fx is (den Γ e).v
  | .app i e => fApp i (den Γ e).v
  | .setL i j e => fSetL i (den Γ e).v (den Γ j).b
  | .expr e => fExpr (den Γ e).v
  | .ite c a b => fIfS (den Γ c).t (dSs Γ fx a) (dSs Γ fx b)
  | .whl c b => fWh (den Γ c).t (dSs Γ fx b)
  | .forr tg src b => fFor (tg.tgt fx) (denR Γ src).1 (dSs Γ fx b)
  | .ret e => fRet (den Γ e).v
  | .retV i => fRetV fx i
  | .retN => fRetN
  | .brk => fBrk
  | .cont => fCont
  | .pass => fNext
  | .rais j es => match Γ.exs[j]? with
    | some q => fRais q.2 (denV Γ es).1
    | none => fun _ => .bad
  | .tryK b j h => match Γ.exs[j]? with
    | some q => if h.slot.all (fun i => !fx.contains i) = true then fTry q.1 (dSs Γ fx b) (dHd Γ h) h.slot else fun _ => .bad
    | none => fun _ => .bad
noncomputable def dSs (Γ : Gm) (fx : List Nat) : Sms → Ev → Res (Fl × Ev)
  | .nil => fNext
  | .cons s r => fSeq (dS Γ fx s) (dSs Γ fx r)
end
end
end Mb
end

section
set_option Elab.async false
set_option linter.all false
set_option maxRecDepth 100000
set_option maxHeartbeats 1000000
/-! Mb21: the small syntax stands for the written one -/
namespace Mb
noncomputable section
open PySem PySem.Spec PyProof.Rows L2

/-- a written scope; whether it is a def's own -/
structure Sc where
  sc : Scope
  top : Bool
def Sc.blk (scope : Scope) (sc : Sc) : Sc := ⟨relS scope sc.sc, false⟩
def vis (sc : Sc) (x : Str) : Bool := match sc.sc.names.lookup x with
  | some .local => true
  | some .cell => true
  | some .free => true
  | _ => false
def gl (sc : Sc) (x : Str) : Bool := match sc.sc.names.lookup x with
  | some .globalImplicit => true
  | _ => false
def locS (sc : Sc) (x : Str) : Bool := match sc.sc.names.lookup x with
  | some .local => true
  | some .cell => true
  | _ => false
def okN (x : Str) : Bool := !(x == ("__debug__" : Str)) && !(x == ("__classdict__" : Str)) && !(x == ("__name__" : Str))
def nmAt (N : List Str) (i : Nat) (x : Str) : Bool := match N[i]? with
  | some y => y == x
  | none => false
def bltOk (Γ : Gm) (sc : Sc) (x : Str) : Bool := Γ.blt.contains x && gl sc x && okN x
/-- a name as a target -/
def chkN (N : List Str) (sc : Sc) (i : Nat) : Expr → Bool
  | .Name x _ => nmAt N i x && locS sc x
  | _ => false
def chkNs (N : List Str) (sc : Sc) : List Nat → List Expr → Bool
  | [], [] => true
  | i :: is, e :: es => chkN N sc i e && chkNs N sc is es
  | _, _ => false
def chkTg (N : List Str) (sc : Sc) : TgA → Expr → Bool
  | .nm i, e => chkN N sc i e
  | .tp is, .Tuple es _ _ => chkNs N sc is es
  | _, _ => false
def TgA.slots : TgA → List Nat
  | .nm i => [i]
  | .tp is => is
def isTup : Expr → Bool
  | .Tuple _ _ _ => true
  | _ => false
def tyNames : List String := ["str", "int", "tuple", "bool", "list"]
mutual
def chk (Γ : Gm) (N : List Str) (sc : Sc) : Ex → Expr → Bool
  | .var i, ex => match ex with
    | .Name x _ => nmAt N i x && vis sc x && okN x
    | _ => false
  | .non, ex => match ex with
    | .Constant .none _ _ => true
    | _ => false
  | .bl b, ex => match ex with
    | .Constant (.bool c) _ _ => b == c
    | _ => false
  | .int b, ex => match ex with
    | .Constant (.int c) _ _ => b == c
    | _ => false
  | .str b, ex => match ex with
    | .Constant (.str c) _ _ => b == c
    | _ => false
  | .glob j, ex => match ex, Γ.glb[j]? with
    | .Name x _, some q => q.1 == x && gl sc x && okN x
    | _, _ => false
  | .tup es, ex => match ex with
    | .Tuple xs _ _ => chkS Γ N sc es xs
    | _ => false
  | .lst es, ex => match ex with
    | .List xs _ => chkS Γ N sc es xs
    | _ => false
  | .bin o a b, ex => match ex with
    | .BinOp x op y _ => decide (op = o.op) && chk Γ N sc a x && chk Γ N sc b y
    | _ => false
  | .neg a, ex => match ex with
    | .UnaryOp .USub x _ => chk Γ N sc a x
    | _ => false
  | .cmp o a b, ex => match ex with
    | .Compare x [op] [y] _ => decide (op = o.op) && chk Γ N sc a x && chk Γ N sc b y
    | _ => false
  | .chain o o' a b c, ex => match ex with
    | .Compare x [op, op'] [y, z] _ => decide (op = o.op) && decide (op' = o'.op) && chk Γ N sc a x && chk Γ N sc b y && chk Γ N sc c z
    | _ => false
  | .and a b, ex => match ex with
    | .BoolOp .And [x, y] _ => chk Γ N sc a x && chk Γ N sc b y
    | .BoolOp .And (x :: y :: z :: r) pos => chk Γ N sc a x && chk Γ N sc b (.BoolOp .And (y :: z :: r) pos)
    | _ => false
  | .or a b, ex => match ex with
    | .BoolOp .Or [x, y] _ => chk Γ N sc a x && chk Γ N sc b y
    | .BoolOp .Or (x :: y :: z :: r) pos => chk Γ N sc a x && chk Γ N sc b (.BoolOp .Or (y :: z :: r) pos)
    | _ => false
  | .not a, ex => match ex with
    | .UnaryOp .Not x _ => chk Γ N sc a x
    | _ => false
  | .ite c a b, ex => match ex with
    | .IfExp z x y _ => chk Γ N sc c z && chk Γ N sc a x && chk Γ N sc b y
    | _ => false
  | .idx a b, ex => match ex with
    | .Subscript x y _ => chk Γ N sc a x && chk Γ N sc b y
    | _ => false
  | .ixv i b, ex => match ex with
    | .Subscript (.Name x _) y _ => nmAt N i x && vis sc x && okN x && chk Γ N sc b y
    | _ => false
  | .sl a lo hi, ex => match ex with
    | .Subscript x (.Slice l h none _) _ => chk Γ N sc a x && chkO Γ N sc lo l && chkO Γ N sc hi h
    | _ => false
  | .bi f a, ex => match ex with
    | .Call (.Name x _) [y] [] _ => (x == f.name) && bltOk Γ sc x && chk Γ N sc a y
    | _ => false
  | .me f o a, ex => match ex with
    | .Call (.Attribute x nm apos) [y] [] pos => (nm == f.name) && (apos.endLine == pos.line) && chk Γ N sc o x && chk Γ N sc a y
    | _ => false
  | .isi T a, ex => match ex with
    | .Call (.Name x _) [y, .Name t _] [] _ => (x == ("isinstance" : Str)) && bltOk Γ sc x && tyNames.contains T && (t == Str.ofString T) && bltOk Γ sc t && chk Γ N sc a y
    | _ => false
  | .call j as, ex => match ex, Γ.fns[j]? with
    | .Call (.Name x _) (y :: r) [] _, some q => (q.1 == x) && gl sc x && okN x && chkG Γ N sc as (y :: r)
    | _, _ => false
  | .comp own tg src cond elt, ex => match ex with
    | .ListComp y [⟨tg', it, ifs, as⟩] scope _ => decide (as = 0) && chkTg N ⟨scope, false⟩ tg tg' && tg.slots.all (fun i => (own.map (·.2)).contains i) && blkC N sc.sc scope own && chkR Γ N sc src it tg' && chkC Γ N (Sc.blk scope sc) cond ifs && chk Γ N (Sc.blk scope sc) elt y
    | _ => false
  | .compX own tg src cond elt, ex => match ex with
    | .ListComp y [⟨tg', it, ifs, as⟩] scope _ => sc.top && decide (as = 0) && chkTg N ⟨scope, false⟩ tg tg' && tg.slots.all (fun i => (own.map (·.2)).contains i) && blkC N sc.sc scope own && chkR Γ N sc src it tg' && chkC Γ N (Sc.blk scope sc) cond ifs && chk Γ N (Sc.blk scope sc) elt y
    | _ => false
  | .fmt a, ex => match ex with
    | .FormattedValue y c none _ => decide (c = -1) && chk Γ N sc a y
    | .JoinedStr [.FormattedValue y c none _] _ => decide (c = -1) && chk Γ N sc a y
    | _ => false
  | .fstr es, ex => match ex with
    | .JoinedStr (x :: y :: r) _ => chkS Γ N sc es (x :: y :: r)
    | _ => false
  | .srt a, ex => match ex with
    | .Call (.Name x _) [.Call (.Name x' _) [y] [] _] [] _ => (x == ("sorted" : Str)) && (x' == ("set" : Str)) && bltOk Γ sc x && bltOk Γ sc x' && chk Γ N sc a y
    | _ => false
def chkS (Γ : Gm) (N : List Str) (sc : Sc) : Exs → List Expr → Bool
  | .nil, r => match r with
    | [] => true
    | _ => false
  | .cons e es, r => match r with
    | x :: r => chk Γ N sc e x && chkS Γ N sc es r
    | _ => false
def chkO (Γ : Gm) (N : List Str) (sc : Sc) : Exo → Option Expr → Bool
  | .no, o => match o with
    | none => true
    | _ => false
  | .so e, o => match o with
    | some x => chk Γ N sc e x
    | _ => false
def chkC (Γ : Gm) (N : List Str) (sc : Sc) : Exo → List Expr → Bool
  | .no, o => match o with
    | [] => true
    | _ => false
  | .so e, o => match o with
    | [x] => chk Γ N sc e x
    | _ => false
def chkG (Γ : Gm) (N : List Str) (sc : Sc) : Ags → List Expr → Bool
  | .nil, r => match r with
    | [] => true
    | _ => false
  | .own i as, r => match r with
    | .Name x _ :: r => nmAt N i x && vis sc x && okN x && chkG Γ N sc as r
    | _ => false
  | .val e as, r => match r with
    | x :: r => chk Γ N sc e x && chkG Γ N sc as r
    | _ => false
def chkR (Γ : Gm) (N : List Str) (sc : Sc) : Sr → Expr → Expr → Bool
  | .inn e, x, _ => chk Γ N sc e x
  | .rng1 e, x, _ => match x with
    | .Call (.Name f _) [y] [] _ => (f == ("range" : Str)) && bltOk Γ sc f && chk Γ N sc e y
    | _ => false
  | .enum e, x, tg => match x with
    | .Call (.Name f _) [y] [] _ => isTup tg && (f == ("enumerate" : Str)) && bltOk Γ sc f && chk Γ N sc e y
    | _ => false
  | .zip e e', x, tg => match x with
    | .Call (.Name f _) [y, z] [] _ => isTup tg && (f == ("zip" : Str)) && bltOk Γ sc f && chk Γ N sc e y && chk Γ N sc e' z
    | _ => false
  | .rng2 e e', x, _ => match x with
    | .Call (.Name f _) [y, z] [] _ => (f == ("range" : Str)) && bltOk Γ sc f && chk Γ N sc e y && chk Γ N sc e' z
    | _ => false
end

/-- what holds of the written expressions that are served -/
structure PlE (ex : Expr) : Prop where
  ix : PlainIx ex
  st : ∀ env r, starEach (ex :: r) env = (false, eval ex env) :: starEach r env
  bh : ∀ op, behindInMarks op ex = false
  fo : ∀ env x, foldedSetIterable ex env x = pure x
  ab : ∀ f env, attributeBase ex f env (eval ex env) = eval ex env
theorem chk_plain {Γ : Gm} {N : List Str} {sc : Sc} : ∀ (e : Ex) (ex : Expr), chk Γ N sc e ex = true → PlE ex := by
  intro e ex h
  cases ex with
  | BoolOp _ _ _ => exact ⟨fun _ _ => rfl, fun _ _ => rfl, fun _ => rfl, fun _ _ => rfl, fun _ _ => rfl⟩
  | BinOp _ _ _ _ => exact ⟨fun _ _ => rfl, fun _ _ => rfl, fun _ => rfl, fun _ _ => rfl, fun _ _ => rfl⟩
  | UnaryOp _ _ _ => exact ⟨fun _ _ => rfl, fun _ _ => rfl, fun _ => rfl, fun _ _ => rfl, fun _ _ => rfl⟩
  | IfExp _ _ _ _ => exact ⟨fun _ _ => rfl, fun _ _ => rfl, fun _ => rfl, fun _ _ => rfl, fun _ _ => rfl⟩
  | ListComp _ _ _ _ => exact ⟨fun _ _ => rfl, fun _ _ => rfl, fun _ => rfl, fun _ _ => rfl, fun _ _ => rfl⟩
  | Compare _ _ _ _ => exact ⟨fun _ _ => rfl, fun _ _ => rfl, fun _ => rfl, fun _ _ => rfl, fun _ _ => rfl⟩
  | FormattedValue _ _ _ _ => exact ⟨fun _ _ => rfl, fun _ _ => rfl, fun _ => rfl, fun _ _ => rfl, fun _ _ => rfl⟩
  | JoinedStr _ _ => exact ⟨fun _ _ => rfl, fun _ _ => rfl, fun _ => rfl, fun _ _ => rfl, fun _ _ => rfl⟩
  | Constant _ _ _ => exact ⟨fun _ _ => rfl, fun _ _ => rfl, fun _ => rfl, fun _ _ => rfl, fun _ _ => rfl⟩
  | Subscript _ _ _ => exact ⟨fun _ _ => rfl, fun _ _ => rfl, fun _ => rfl, fun _ _ => rfl, fun _ _ => rfl⟩
  | Name _ _ => exact ⟨fun _ _ => rfl, fun _ _ => rfl, fun _ => rfl, fun _ _ => rfl, fun _ _ => rfl⟩
  | List _ _ => exact ⟨fun _ _ => rfl, fun _ _ => rfl, fun _ => rfl, fun _ _ => rfl, fun _ _ => rfl⟩
  | Tuple _ _ _ => exact ⟨fun _ _ => rfl, fun _ _ => rfl, fun _ => rfl, fun _ _ => rfl, fun _ _ => rfl⟩
  | Call f as ks pos =>
    cases as with
    | cons a as => exact ⟨fun _ _ => rfl, fun _ _ => rfl, fun _ => rfl, fun _ _ => rfl, fun _ _ => by cases f <;> rfl⟩
    | nil => exact absurd h (by cases e <;> simp [chk])
  | _ => exact absurd h (by cases e <;> simp [chk])
end
end Mb
end

section
set_option Elab.async false
set_option linter.all false
set_option maxRecDepth 100000
set_option maxHeartbeats 1000000
/-! Mb22: what the small syntax denotes is what the machine does: expressions -/
namespace Mb
noncomputable section
open PySem PySem.Spec PyProof.Rows L2

theorem boAll_zeros {K : PySem.W.Frag} {G H : Hp} : ∀ {vs : List V} {as : List Ent} {ds : List PyData}, BoAll K G H vs as → zeros as = some ds → RzAll K G vs ds
  | _, _, _, .nil, h => by cases h; exact .nil
  | _, (0, d) :: as, ds, .cons r t, h => by
    obtain ⟨ds', h', rfl⟩ := Option.map_eq_some_iff.mp h
    exact .cons r (boAll_zeros t h')
  | _, (n + 1, d) :: as, ds, .cons r t, h => by cases h
theorem ok_tupD {K : PySem.W.Frag} : OkL K (fun xs H Q => xs.length ≤ sizeLine ∧ ∀ q, H q = none → Q (.ref q) (upd H q (.tup xs))) tupD := by
  intro G H vs as e Q g b h k
  unfold tupD at h
  split at h
  · rename_i ds hz
    split at h
    · rename_i hl
      cases h
      have r := boAll_zeros b hz
      exact ⟨by rw [r.length, ← lim_line]; exact hl, fun q hq => k _ _ (PRes.tup g hq r)⟩
    · cases h
  · cases h
theorem ok_lstD {K : PySem.W.Frag} : OkL K (fun xs H Q => xs.length ≤ sizeLine ∧ ∀ q, H q = none → Q (.ref q) (upd H q (.lst xs))) lstD := by
  intro G H vs as e Q g b h k
  unfold lstD at h
  split at h
  · rename_i ds hz
    split at h
    · rename_i hl
      cases h
      have r := boAll_zeros b hz
      exact ⟨by rw [r.length, ← lim_line]; exact hl, fun q hq => k _ _ (PRes.lst g hq r)⟩
    · cases h
  · cases h

/-- sorted(set(x)) -/
def SrtR (p : Pm) : Prop := ∀ (X : Cx) (Wx : WX) (m : Bool) (f : Ev → Res (Ent × Ev)) (a : Expr) (p1 p2 pos pos' : Pos), Cok X p → X.A.guards = some [] → Gl X "sorted" → Gl X "set" → X.mg "sorted" = none → X.mg "set" = none → PlE a →
  PE X a (tB p Wx m f) → PE X (.Call (.Name "sorted" p1) [.Call (.Name "set" p2) [a] [] pos'] [] pos) (tE p Wx m (fUn srtF f))

structure CtxOk (Γ : Gm) (N : List Str) (sc : Sc) (k : Nat) (X : Cx) (p : Pm) : Prop extends Cok X p where
  hN : X.N = N
  hsc : X.env.scope = sc.sc
  top : sc.top = true → X.stack = X.env :: X.outer ∧ X.env.frame = some X.env.locals
  gd : X.A.guards = some []
  room : Room k X.A
  fns : ∀ (j : Nat) (q : Str × FD), Γ.fns[j]? = some q → ∃ f fd ps, FnG X.prog X.w X.K X.mg X.base k f fd ps (spF p q.2) ∧ X.mg q.1 = some (.ref f) ∧ PySem.W.keepIn X.K (.ref f) = true ∧ Binds X.K fd ps []
  blt : ∀ x, Γ.blt.contains x = true → X.mg x = none
  glb : ∀ (j : Nat) (q : Str × PyData), Γ.glb[j]? = some q → ∃ u v, X.mg q.1 = some u ∧ RelV v u ∧ ∀ G, Rz p.K G v q.2

structure DenOk (X : Cx) (p : Pm) (Wx : WX) (ex : Expr) (d : Den) : Prop where
  v : PE X ex (tE p Wx d.m d.v)
  b : PE X ex (tB p Wx d.m d.b)
  t : PT X ex (tT p Wx d.m d.t)

section
variable {Γ : Gm} {N : List Str} {sc : Sc} {k : Nat} {X : Cx} {p : Pm} {Wx : WX} {ex : Expr} {m : Bool} {f : Ev → Res (Ent × Ev)}
theorem okVal (hK : X.K = p.K) (h : PE X ex (tE p Wx m f)) (he : ∀ whole, isTrue ex X.env whole = (do let v ← whole; standAt ex.pos; holding [v] (truthy v))) : DenOk X p Wx ex (.val f m) := ⟨h, den_frz h, den_truth hK (den_frz h) he⟩
theorem okBad : DenOk X p Wx ex .bad := ⟨⟨fun _ _ _ _ _ _ h => by obtain ⟨_, _, _, _, h⟩ := h; exact h.elim⟩, ⟨fun _ _ _ _ _ _ h => by obtain ⟨_, _, _, _, h⟩ := h; exact h.elim⟩, ⟨fun _ _ _ _ _ _ h => by obtain ⟨_, _, _, _, h⟩ := h; exact h.elim⟩⟩
theorem gl_of {x : Str} (c : CtxOk Γ N sc k X p) (h : gl sc x = true) : Gl X x := by
  unfold gl at h
  unfold Gl Env.kindOf
  rw [c.hsc]
  split at h
  · assumption
  · cases h
theorem vis_of {x : Str} (c : CtxOk Γ N sc k X p) (h : vis sc x = true) : Vis X.env.scope x := by
  unfold vis at h
  unfold Vis
  rw [c.hsc]
  split at h
  · exact .inl (by assumption)
  · exact .inr (.inl (by assumption))
  · exact .inr (.inr (by assumption))
  · cases h
theorem nmAt_of {i : Nat} {x : Str} (c : CtxOk Γ N sc k X p) (h : nmAt N i x = true) : X.N[i]? = some x := by
  unfold nmAt at h
  rw [c.hN]
  split at h
  · rename_i y hy
    rw [hy, beq_iff_eq.mp h]
  · cases h
theorem okN_of {x : Str} (h : okN x = true) : (x == ("__debug__" : Str)) = false ∧ (x == ("__classdict__" : Str)) = false ∧ x ≠ "__name__" := by
  unfold okN at h
  simp only [Bool.and_eq_true, Bool.not_eq_true'] at h
  refine ⟨h.1.1, h.1.2, fun e => ?_⟩
  have := h.2
  rw [e] at this
  simp at this
theorem tvar_of {i : Nat} {x : Str} {pos : Pos} (c : CtxOk Γ N sc k X p) (h : (nmAt N i x && vis sc x && okN x) = true) : PE X (.Name x pos) (tVar i) := by
  simp only [Bool.and_eq_true] at h
  obtain ⟨⟨h1, h2⟩, h3⟩ := h
  obtain ⟨d1, d2, _⟩ := okN_of h3
  exact pe_var (nmAt_of c h1) (vis_of c h2) d1 d2
structure BltP (X : Cx) (x : Str) : Prop where
  g : Gl X x
  m : X.mg x = none
  n : x ≠ "__name__"
  d : (x == ("__debug__" : Str)) = false
theorem blt_of {x : Str} (c : CtxOk Γ N sc k X p) (h : bltOk Γ sc x = true) : BltP X x := by
  unfold bltOk at h
  simp only [Bool.and_eq_true] at h
  obtain ⟨⟨h1, h2⟩, h3⟩ := h
  obtain ⟨d1, d2, d3⟩ := okN_of h3
  exact ⟨gl_of c h2, c.blt x h1, d3, d1⟩
theorem bop_ok (c : Cok X p) (o : BOp) : ∃ r : R2, OpR X (binaryOp o.op) r ∧ OkL p.K (b2 r) o.F := by
  cases o with
  | add => exact ⟨_, op_addP c, okD2⟩
  | sub => exact ⟨_, op_subP, okD2⟩
  | mul => exact ⟨_, op_mulP, okD2⟩
  | mod => exact ⟨_, op_modP, okD2⟩
  | div => exact ⟨_, op_divP, okD2⟩
theorem cop_ok (c : Cok X p) (o : COp) : ∃ r : R2, OpR X (compareOp o.op) r ∧ OkL p.K (b2 r) o.F := by
  cases o with
  | eq => exact ⟨_, op_eqP c, okD2⟩
  | ne => exact ⟨_, op_neP c, okD2⟩
  | lt => exact ⟨_, op_ltP c, okD2⟩
  | gt => exact ⟨_, op_gtP c, okD2⟩
  | le => exact ⟨_, op_leP c, okD2⟩
  | ge => exact ⟨_, op_geP c, okD2⟩
  | is => exact ⟨_, op_isP, okD2⟩
  | isn => exact ⟨_, op_isnP, okD2⟩
  | in' => exact ⟨_, op_inP c, okD2⟩
  | nin => exact ⟨_, op_ninP c, okD2⟩
theorem okBi {pos p' : Pos} {e : Expr} (c : Cok X p) (hg : X.A.guards = some []) (o : Bi) (b : BltP X o.name) (pl : PlE e) (he : PE X e (tB p Wx m f)) : PE X (.Call (.Name o.name p') [e] [] pos) (tE p Wx m (fOp o.F (fCons false f fNil))) := by
  have ha : PA X [e] (tA p Wx m (fCons false f fNil)) := by
    have := den_consA (m2 := false) he (den_nilA (p := p) (Wx := Wx)) (pl.st X.env [])
    rw [Bool.or_false] at this
    exact this
  have hs := pl.st X.env []
  have ht : (backTo pos (starEach [] X.env)).any (·.1) = false := rfl
  cases o with
  | len => exact den_callB (call_lenP c) okD b.g b.m (by rfl) ha b.n b.d hs ht
  | abs => exact den_callB call_absP okD b.g b.m (by rfl) ha b.n b.d hs ht
  | repr => exact den_callB (call_reprP c hg) okD b.g b.m (by rfl) ha b.n b.d hs ht
  | sum => exact den_callB (call_sumP c) okD b.g b.m (by rfl) ha b.n b.d hs ht
  | all => exact den_callB (call_allP c) okD b.g b.m (by rfl) ha b.n b.d hs ht
  | any => exact den_callB (call_anyP c) okD b.g b.m (by rfl) ha b.n b.d hs ht
  | int => exact den_callTy call_intP okD b.g b.m (by rfl) ha b.n b.d hs ht
  | str => exact den_callTy call_strP okD b.g b.m (by rfl) ha b.n b.d hs ht
  | tuple => exact den_callTy (call_tupP c) okD b.g b.m (by rfl) ha b.n b.d hs ht
  | list => exact den_callTy (call_lstP c) okD b.g b.m (by rfl) ha b.n b.d hs ht
end
end
end Mb
end

section
set_option Elab.async false
set_option linter.all false
set_option maxRecDepth 100000
set_option maxHeartbeats 2000000
/-! Mb23: what the small syntax denotes is what the machine does: expressions, all -/
namespace Mb
noncomputable section
open PySem PySem.Spec PyProof.Rows L2

/-- the store's reading of a target -/
def TgA.gr (K : PySem.W.Frag) : TgA → TG
  | .nm i => gName i
  | .tp is => gTup K is.length (gSet is)
theorem tgt_ok {K : PySem.W.Frag} {fx : List Nat} (t : TgA) : TgOk K fx (t.tgt fx) (t.gr K) := by
  cases t with
  | nm i => exact tg_name
  | tp is => exact tg_tup
theorem tgt_is {fx : List Nat} (t : TgA) : (t.tgt fx).is = t.slots := by cases t <;> rfl
section
variable {N : List Str} {sc : Sc} {Y : Cx}
theorem pg_n {e : Expr} {i : Nat} (hN : Y.N = N) (nd : Y.N.Nodup) (hl : ∀ x, locS sc x = true → Loc Y.env.scope x ∧ (Y.fn x = true ∨ Y.env.scope.names.lookup x = some .local)) (h : chkN N sc i e = true) : PG Y e (gName i) := by
  unfold chkN at h
  split at h
  · rename_i x _
    simp only [Bool.and_eq_true] at h
    obtain ⟨h1, h2⟩ := h
    obtain ⟨l1, l2⟩ := hl x h2
    refine pg_name nd ?_ l1 l2
    unfold nmAt at h1
    rw [hN]
    split at h1
    · rename_i y hy; rw [hy, beq_iff_eq.mp h1]
    · cases h1
  · cases h
theorem pg_ns (hN : Y.N = N) (nd : Y.N.Nodup) (hl : ∀ x, locS sc x = true → Loc Y.env.scope x ∧ (Y.fn x = true ∨ Y.env.scope.names.lookup x = some .local)) : ∀ {is : List Nat} {es : List Expr}, chkNs N sc is es = true →
    PGs Y es (gSet is) ∧ (assignEach es Y.env).length = is.length ∧ ∀ q ∈ assignEach es Y.env, q.1 = false
  | [], [], _ => ⟨pgs_nil, rfl, fun _ h => nomatch h⟩
  | i :: is, e :: es, h => by
    unfold chkNs at h
    simp only [Bool.and_eq_true] at h
    obtain ⟨h1, h2⟩ := h
    obtain ⟨a, b, c⟩ := pg_ns hN nd hl h2
    cases e with
    | Name x ps =>
      refine ⟨pgs_cons (pg_n hN nd hl h1) a (by rfl), ?_, ?_⟩
      · show (assignEach es Y.env).length + 1 = _
        rw [b]; rfl
      · intro q hq
        rcases List.mem_cons.mp hq with rfl | hq
        · rfl
        · exact c q hq
    | _ => cases h1
  | [], _ :: _, h => by cases h
  | _ :: _, [], h => by cases h
theorem findNone {α : Type} : ∀ {l : List (Bool × α)}, (∀ q ∈ l, q.1 = false) → l.findIdx? (·.1) = none := fun {l} h => by
  rw [List.findIdx?_eq_none_iff]
  exact fun x hx => h x hx
theorem pg_tg {e : Expr} {tg : TgA} (hc : Y.calm = true) (hN : Y.N = N) (nd : Y.N.Nodup) (hl : ∀ x, locS sc x = true → Loc Y.env.scope x ∧ (Y.fn x = true ∨ Y.env.scope.names.lookup x = some .local)) (h : chkTg N sc tg e = true) : PG Y e (tg.gr Y.K) := by
  cases tg with
  | nm i => exact pg_n hN nd hl h
  | tp is =>
    unfold chkTg at h
    split at h
    · rename_i i hh; cases hh
    · rename_i is' es _ _ hh
      cases hh
      obtain ⟨a, b, c⟩ := pg_ns hN nd hl h
      exact pg_tup hc a b (findNone c)
    · cases h
theorem locS_blk {X : Cx} {s : Shared} {H : Hp} {scope : Scope} {cl : List (Str × Addr)} {C : Addr} {fp : List Addr} : ∀ x, locS ⟨scope, false⟩ x = true →
    Loc (X.blk s H scope (compEnvC scope cl C X.env) fp).env.scope x ∧ ((X.blk s H scope (compEnvC scope cl C X.env) fp).fn x = true ∨ (X.blk s H scope (compEnvC scope cl C X.env) fp).env.scope.names.lookup x = some .local) := fun x h => by
  unfold locS at h
  have keep : ∀ k, k ≠ .free → scope.names.lookup x = some k → (relS scope X.env.scope).names.lookup x = some k := fun k hk h => lookup_relS_keep hk h
  show Loc (relS scope X.env.scope) x ∧ ((scope.names.lookup x == some .cell) = true ∨ (relS scope X.env.scope).names.lookup x = some .local)
  split at h
  · rename_i q
    exact ⟨.inl (keep _ (by decide) q), .inr (keep _ (by decide) q)⟩
  · rename_i q
    exact ⟨.inr (keep _ (by decide) q), .inl (by rw [q]; rfl)⟩
  · cases h
end

section
variable {Γ : Gm} {N : List Str} {sc : Sc} {k : Nat} {X : Cx} {p : Pm} {Wx : WX}
theorem CtxOk.blk {s : Shared} {H : Hp} {scope : Scope} {cl : List (Str × Addr)} {C : Addr} {fp : List Addr} (c : CtxOk Γ N sc k X p) : CtxOk Γ N (Sc.blk scope sc) k (X.blk s H scope (compEnvC scope cl C X.env) fp) p :=
  ⟨⟨c.hK, c.hmg, c.calm, c.nd, c.un⟩, c.hN, by show relS scope X.env.scope = relS scope sc.sc; rw [c.hsc], (fun z => nomatch z), c.gd, c.room, c.fns, c.blt, c.glb⟩
theorem CtxOk.blkE {s : Shared} {H : Hp} {scope : Scope} {cl : List (Str × Addr)} {C : Addr} {fp : List Addr} {xe : Value → Shared → Prop} (c : CtxOk Γ N sc k X p) : CtxOk Γ N (Sc.blk scope sc) k (blkE X s H scope (compEnvC scope cl C X.env) fp xe) p :=
  ⟨⟨c.hK, c.hmg, c.calm, c.nd, c.un⟩, c.hN, by show relS scope X.env.scope = relS scope sc.sc; rw [c.hsc], (fun z => nomatch z), c.gd, c.room, c.fns, c.blt, c.glb⟩
theorem locS_blkE {s : Shared} {H : Hp} {scope : Scope} {cl : List (Str × Addr)} {C : Addr} {fp : List Addr} {xe : Value → Shared → Prop} : ∀ x, locS ⟨scope, false⟩ x = true →
    Loc (blkE X s H scope (compEnvC scope cl C X.env) fp xe).env.scope x ∧ ((blkE X s H scope (compEnvC scope cl C X.env) fp xe).fn x = true ∨ (blkE X s H scope (compEnvC scope cl C X.env) fp xe).env.scope.names.lookup x = some .local) := fun x h => locS_blk (X := X) (s := s) (H := H) (cl := cl) (C := C) (fp := fp) x h
def wNo : WX := fun _ _ _ _ => False
theorem takes_no {Y : Cx} : Takes Y wNo := fun u s' ⟨_, _, _, _, _, _, _, _, _, _, _, _, _, _, _, _, h⟩ => h.elim
theorem bt_ty {T : String} (h : tyNames.contains T = true) : bootBuiltins (Str.ofString T) = some (.type T) := by
  unfold tyNames at h
  simp only [List.contains_eq_mem, List.mem_cons, List.not_mem_nil, or_false, decide_eq_true_eq] at h
  rcases h with rfl | rfl | rfl | rfl | rfl <;> rfl
theorem chkS_pl : ∀ {es : Exs} {xs : List Expr}, chkS Γ N sc es xs = true → ∀ e ∈ xs, PlE e
  | .nil, [], _ => fun _ h => nomatch h
  | .nil, _ :: _, h => by simp [chkS] at h
  | .cons e es, [], h => by simp [chkS] at h
  | .cons e es, x :: r, h => by
    simp only [chkS, Bool.and_eq_true] at h
    intro y hy
    rcases List.mem_cons.mp hy with rfl | hy
    · exact chk_plain e _ h.1
    · exact chkS_pl h.2 y hy
theorem chkG_st : ∀ {as : Ags} {xs : List Expr}, chkG Γ N sc as xs = true → ∀ e ∈ xs, ∀ env r, starEach (e :: r) env = (false, eval e env) :: starEach r env
  | .nil, [], _ => fun _ h => nomatch h
  | .nil, _ :: _, h => by simp [chkG] at h
  | .val e as, [], h => by simp [chkG] at h
  | .own i as, [], h => by simp [chkG] at h
  | .val e as, x :: r, h => by
    simp only [chkG, Bool.and_eq_true] at h
    intro y hy
    rcases List.mem_cons.mp hy with rfl | hy
    · exact (chk_plain e _ h.1).st
    · exact chkG_st h.2 y hy
  | .own i as, x :: r, h => by
    unfold chkG at h
    split at h
    · rename_i hh
      cases hh
      simp only [Bool.and_eq_true] at h
      intro y hy
      rcases List.mem_cons.mp hy with rfl | hy
      · exact fun _ _ => rfl
      · exact chkG_st h.2 y hy
    · cases h
theorem chkR_fo {src : Sr} {x tg : Expr} (h : chkR Γ N sc src x tg = true) : ∀ env v, foldedSetIterable x env v = pure v := by
  cases src with
  | inn e => exact (chk_plain e _ h).fo
  | rng1 e => unfold chkR at h; split at h <;> first | exact fun _ _ => rfl | cases h
  | enum e => unfold chkR at h; split at h <;> first | exact fun _ _ => rfl | cases h
  | zip e e' => unfold chkR at h; split at h <;> first | exact fun _ _ => rfl | cases h
  | rng2 e e' => unfold chkR at h; split at h <;> first | exact fun _ _ => rfl | cases h
/-- a test of and, or: whatever the whole is -/
theorem pw_of {op : BoolOp} {es : List Expr} {pos : Pos} {t : TT} (h : PT X (.BoolOp op es pos) t) : PW X (.BoolOp op es pos) t := ⟨fun _ pins s σ H Q I q => h.run pins s σ H Q I q⟩
theorem pt_ifE {c a b : Expr} {pos : Pos} {tc ta tb : TT} (hc : PT X c tc) (ha : PT X a ta) (hb : PT X b tb) : PT X (.IfExp c a b pos) (fun σ H Q => tc σ H fun d H1 => if d = true then ta σ H1 Q else tb σ H1 Q) := by
  refine ⟨fun pins s σ H Q I h => ?_⟩
  refine isTrue_IfExp (thn (hc.run pins s σ H _ I h) fun d s1 ⟨H1, I1, q1⟩ => ?_)
  cases d with
  | true => exact ha.run pins s1 σ H1 Q I1 q1
  | false => exact hb.run pins s1 σ H1 Q I1 q1
end
end
end Mb
end

section
set_option Elab.async false
set_option linter.all false
set_option maxRecDepth 100000
set_option maxHeartbeats 4000000
/-! Mb24: THE SOUNDNESS of expressions -/
namespace Mb
noncomputable section
open PySem PySem.Spec PyProof.Rows L2

abbrev tG (p : Pm) (Wx : WX) (m : Bool) (σ0 : L2.St) (f : Ev → Res (List Ag × Ev)) : TA := fun σ H Q => σ = σ0 ∧ tR p Wx m (relC p σ0) f σ H Q
theorem isT_fst {X : Cx} {pos : Pos} {es : List Expr} : ∀ whole, isTrue (.JoinedStr es pos) X.env whole = (do let v ← whole; standAt pos; holding [v] (truthy v)) := fun _ => rfl
mutual
theorem snd {Γ : Gm} {N : List Str} {k : Nat} {p : Pm} (hs : SrtR p) : ∀ (e : Ex) {sc : Sc} {X : Cx} {Wx : WX} {ex : Expr}, CtxOk Γ N sc k X p → Takes X Wx → chk Γ N sc e ex = true → DenOk X p Wx ex (den Γ e)
  | .var i, sc, X, Wx, ex, c, tk, h => by
    unfold chk at h
    split at h
    · have hv := tvar_of (pos := ‹Pos›) c h
      exact ⟨den_var hv, den_varB hv, den_truth c.hK (den_varB hv) fun _ => rfl⟩
    · cases h
  | .non, sc, X, Wx, ex, c, tk, h => by
    unfold chk at h
    split at h
    · exact okVal c.hK (den_const pe_non fun _ => .non) fun _ => rfl
    · cases h
  | .bl b, sc, X, Wx, ex, c, tk, h => by
    unfold chk at h
    split at h
    · rw [beq_iff_eq.mp h]; exact okVal c.hK (den_const pe_bl fun _ => .bl _) fun _ => rfl
    · cases h
  | .int b, sc, X, Wx, ex, c, tk, h => by
    unfold chk at h
    split at h
    · rw [beq_iff_eq.mp h]; exact okVal c.hK (den_const pe_int fun _ => .int _) fun _ => rfl
    · cases h
  | .str b, sc, X, Wx, ex, c, tk, h => by
    unfold chk at h
    split at h
    · rw [beq_iff_eq.mp h]; exact okVal c.hK (den_const pe_str fun _ => .str _) fun _ => rfl
    · cases h
  | .glob j, sc, X, Wx, ex, c, tk, h => by
    unfold chk at h
    split at h
    · rename_i x _ q hq
      simp only [Bool.and_eq_true] at h
      obtain ⟨u, v, h1, h2, h3⟩ := c.glb j q hq
      unfold den
      rw [hq]
      rw [beq_iff_eq.mp h.1.1] at h1
      exact okVal c.hK (den_const (pe_glob (gl_of c h.1.2) h1 h2 (okN_of h.2).1) h3) fun _ => rfl
    · cases h
  | .tup es, sc, X, Wx, ex, c, tk, h => by
    unfold chk at h
    split at h
    · exact okVal c.hK (den_tup ok_tupD (sndS hs es c tk h)) fun _ => rfl
    · cases h
  | .lst es, sc, X, Wx, ex, c, tk, h => by
    unfold chk at h
    split at h
    · exact okVal c.hK (den_lst ok_lstD (sndS hs es c tk h)) fun _ => rfl
    · cases h
  | .bin o a b, sc, X, Wx, ex, c, tk, h => by
    unfold chk at h
    split at h
    · simp only [Bool.and_eq_true, decide_eq_true_eq] at h
      obtain ⟨⟨e, h1⟩, h2⟩ := h
      subst e
      obtain ⟨r, r1, r2⟩ := bop_ok c.toCok o
      exact okVal c.hK (den_bin r1 r2 (snd hs a c tk h1).b (snd hs b c tk h2).b) fun _ => rfl
    · cases h
  | .neg a, sc, X, Wx, ex, c, tk, h => by
    unfold chk at h
    split at h
    · exact okVal c.hK (den_neg (snd hs a c tk h).b) fun _ => rfl
    · cases h
  | .cmp o a b, sc, X, Wx, ex, c, tk, h => by
    unfold chk at h
    split at h
    · simp only [Bool.and_eq_true, decide_eq_true_eq] at h
      obtain ⟨⟨e, h1⟩, h2⟩ := h
      subst e
      obtain ⟨r, r1, r2⟩ := cop_ok c.toCok o
      have bh := (chk_plain b _ h2).bh o.op
      have v := den_cmp (pos := ‹Pos›) r1 r2 (snd hs a c tk h1).b (snd hs b c tk h2).b bh
      exact ⟨v, den_frz v, den_cmpT r1 r2 (snd hs a c tk h1).b (snd hs b c tk h2).b bh⟩
    · cases h
  | .chain o o' a b d, sc, X, Wx, ex, c, tk, h => by
    unfold chk at h
    split at h
    · simp only [Bool.and_eq_true, decide_eq_true_eq] at h
      obtain ⟨⟨⟨⟨e, e'⟩, h1⟩, h2⟩, h3⟩ := h
      subst e e'
      unfold den
      by_cases hm : ((den Γ b).m || (den Γ d).m) = true
      · rw [if_pos hm]; exact okBad
      · rw [if_neg hm]
        rw [Bool.not_eq_true, Bool.or_eq_false_iff] at hm
        obtain ⟨r, r1, r2⟩ := cop_ok c.toCok o
        obtain ⟨r', r3, r4⟩ := cop_ok c.toCok o'
        have bh := (chk_plain d _ h3).bh o'.op
        have hb := (snd hs b c tk h2).b
        have hd := (snd hs d c tk h3).b
        rw [hm.1] at hb
        rw [hm.2] at hd
        have v := den_chain (pos := ‹Pos›) r1 r3 r2 r4 (snd hs a c tk h1).b hb hd bh
        exact ⟨v, den_frz v, den_chainT r1 r3 r2 r4 (snd hs a c tk h1).b hb hd bh⟩
    · cases h
  | .and a b, sc, X, Wx, ex, c, tk, h => by
    unfold chk at h
    split at h
    · simp only [Bool.and_eq_true] at h
      obtain ⟨h1, h2⟩ := h
      have ia := snd hs a c tk h1
      have ib := snd hs b c tk h2
      have v : PE X _ (tE p Wx ((den Γ a).m || (den Γ b).m) (fAnd (den Γ a).v (den Γ b).v)) := PE.imp (pe_andT ia.v (pe_one (pos := ‹Pos›) ib.v)) fun σ H Q h => by rw [c.hK]; exact tE_and h
      exact ⟨v, den_frz v, PT.imp (pw_and ia.t (pw_and1 ib.t)).pt fun _ _ _ h => tT_and h⟩
    · simp only [Bool.and_eq_true] at h
      obtain ⟨h1, h2⟩ := h
      have ia := snd hs a c tk h1
      have ib := snd hs b c tk h2
      have v : PE X _ (tE p Wx ((den Γ a).m || (den Γ b).m) (fAnd (den Γ a).v (den Γ b).v)) := PE.imp (pe_andT ia.v ib.v) fun σ H Q h => by rw [c.hK]; exact tE_and h
      exact ⟨v, den_frz v, PT.imp (pw_and ia.t (pw_of ib.t)).pt fun _ _ _ h => tT_and h⟩
    · cases h
  | .or a b, sc, X, Wx, ex, c, tk, h => by
    unfold chk at h
    split at h
    · simp only [Bool.and_eq_true] at h
      obtain ⟨h1, h2⟩ := h
      have ia := snd hs a c tk h1
      have ib := snd hs b c tk h2
      have v : PE X _ (tE p Wx ((den Γ a).m || (den Γ b).m) (fOr (den Γ a).v (den Γ b).v)) := PE.imp (pe_orT ia.v (pe_one (pos := ‹Pos›) ib.v)) fun σ H Q h => by rw [c.hK]; exact tE_or h
      exact ⟨v, den_frz v, PT.imp (pw_or ia.t (pw_or1 ib.t)).pt fun _ _ _ h => tT_or h⟩
    · simp only [Bool.and_eq_true] at h
      obtain ⟨h1, h2⟩ := h
      have ia := snd hs a c tk h1
      have ib := snd hs b c tk h2
      have v : PE X _ (tE p Wx ((den Γ a).m || (den Γ b).m) (fOr (den Γ a).v (den Γ b).v)) := PE.imp (pe_orT ia.v ib.v) fun σ H Q h => by rw [c.hK]; exact tE_or h
      exact ⟨v, den_frz v, PT.imp (pw_or ia.t (pw_of ib.t)).pt fun _ _ _ h => tT_or h⟩
    · cases h
  | .not a, sc, X, Wx, ex, c, tk, h => by
    unfold chk at h
    split at h
    · have ia := snd hs a c tk h
      have v := den_not (pos := ‹Pos›) c.hK ia.b
      exact ⟨v, den_frz v, PT.imp (pt_not ia.t) fun _ _ _ h => tT_not h⟩
    · cases h
  | .ite z a b, sc, X, Wx, ex, c, tk, h => by
    unfold chk at h
    split at h
    · simp only [Bool.and_eq_true] at h
      obtain ⟨⟨h1, h2⟩, h3⟩ := h
      have iz := snd hs z c tk h1
      have ia := snd hs a c tk h2
      have ib := snd hs b c tk h3
      have wa : (((den Γ a).m || (den Γ b).m) = false → (den Γ a).m = false) := fun q => (Bool.or_eq_false_iff.mp q).1
      have wb : (((den Γ a).m || (den Γ b).m) = false → (den Γ b).m = false) := fun q => (Bool.or_eq_false_iff.mp q).2
      have v := den_if (pos := ‹Pos›) iz.t (den_weak wa ia.v) (den_weak wb ib.v)
      exact ⟨v, den_frz v, PT.imp (pt_ifE iz.t (den_weakT wa ia.t) (den_weakT wb ib.t)) fun _ _ _ h => tR_if h⟩
    · cases h
  | .idx a b, sc, X, Wx, ex, c, tk, h => by
    unfold chk at h
    split at h
    · simp only [Bool.and_eq_true] at h
      have v := den_ixB (pos := ‹Pos›) c.toCok (snd hs a c tk h.1).b (snd hs b c tk h.2).b (chk_plain b _ h.2).ix
      exact ⟨den_only0 v, v, den_truth c.hK v fun _ => rfl⟩
    · cases h
  | .ixv i b, sc, X, Wx, ex, c, tk, h => by
    unfold chk at h
    split at h
    · rw [Bool.and_eq_true] at h
      have v := fun p1 p2 => den_ixV (pos := p1) c.toCok (tvar_of (pos := p2) c h.1) (snd hs b c tk h.2).b (chk_plain b _ h.2).ix
      exact ⟨den_only0 (v _ _), v _ _, den_truth c.hK (v _ _) fun _ => rfl⟩
    · cases h
  | .sl a lo hi, sc, X, Wx, ex, c, tk, h => by
    unfold chk at h
    split at h
    · simp only [Bool.and_eq_true] at h
      exact okVal c.hK (den_sl (sl_rule c.toCok) okSlD (snd hs a c tk h.1.1).b (sndO hs lo c tk h.1.2) (sndO hs hi c tk h.2)) fun _ => rfl
    · cases h
  | .bi f a, sc, X, Wx, ex, c, tk, h => by
    unfold chk at h
    split at h
    · simp only [Bool.and_eq_true, beq_iff_eq] at h
      obtain ⟨⟨e, h1⟩, h2⟩ := h
      subst e
      exact okVal c.hK (okBi c.toCok c.gd f (blt_of c h1) (chk_plain a _ h2) (snd hs a c tk h2).b) fun _ => rfl
    · cases h
  | .me f o a, sc, X, Wx, ex, c, tk, h => by
    unfold chk at h
    split at h
    · simp only [Bool.and_eq_true] at h
      obtain ⟨⟨⟨e, hl⟩, h1⟩, h2⟩ := h
      have e := beq_iff_eq.mp e
      subst e
      have io := (snd hs o c tk h1).b
      have ia := (snd hs a c tk h2).b
      have st := (chk_plain a _ h2).st X.env []
      have ab := (chk_plain o _ h1).ab
      cases f with
      | split => exact okVal c.hK (den_m1 PySem.F.slot_str_split PySem.F.type_str_split mt_splitP okM1 io ia st (ab _ _) hl) fun _ => rfl
      | join => exact okVal c.hK (den_m1 PySem.F.slot_str_join PySem.F.type_str_join (mt_joinP c.toCok) okM1 io ia st (ab _ _) hl) fun _ => rfl
      | partition => exact okVal c.hK (den_m1 PySem.F.slot_str_partition PySem.F.type_str_partition mt_partP okM1 io ia st (ab _ _) hl) fun _ => rfl
    · cases h
  | .isi T a, sc, X, Wx, ex, c, tk, h => by
    unfold chk at h
    split at h
    · simp only [Bool.and_eq_true] at h
      obtain ⟨⟨⟨⟨⟨e, h1⟩, h2⟩, e'⟩, h3⟩, h4⟩ := h
      have e := beq_iff_eq.mp e
      subst e
      have e' := beq_iff_eq.mp e'
      subst e'
      have b1 := blt_of c h1
      have b2 := blt_of c h3
      exact okVal c.hK (den_isi c.toCok b1.g b1.m b2.g b2.m (bt_ty h2) (by rfl) b2.n b2.d (snd hs a c tk h4).b ((chk_plain a _ h4).st _ _)) fun _ => rfl
    · cases h
  | .call j as, sc, X, Wx, ex, c, tk, h => by
    unfold chk at h
    split at h
    · rename_i x p' y r pos q hq
      simp only [Bool.and_eq_true] at h
      obtain ⟨⟨⟨e, h1⟩, h2⟩, h3⟩ := h
      have e := beq_iff_eq.mp e
      subst e
      obtain ⟨f, fd, ps, F, hm, hk, hb⟩ := c.fns j q hq
      have st := chkG_st h3
      have ha := fun σ => sndG hs as c tk h3 σ
      have P := pe_callG (p' := p') (pos := pos) F c.room c.gd tk (gl_of c h1) hm hk hb ha (okN_of h2).1 (st _ List.mem_cons_self _ _) (starEach_any fun e he r => st e (List.mem_cons_of_mem _ he) _ r)
      unfold den
      rw [hq]
      dsimp only
      by_cases ho : (denG Γ as).2.2 = true
      · rw [if_pos ho]
        exact okVal c.hK (PE.imp P fun σ H Q h => ⟨rfl, tR.weak (m := true) (fun z => by cases z) (tE_callO h)⟩) fun _ => rfl
      · rw [if_neg ho]
        exact okVal c.hK (PE.imp P fun σ H Q h => ⟨rfl, tE_callV h⟩) fun _ => rfl
    · cases h
  | .comp own tg src cond elt, sc, X, Wx, ex, c, tk, h => by
    unfold chk at h
    split at h
    · rename_i y tg' it ifs as' scope pos
      simp only [Bool.and_eq_true, decide_eq_true_eq] at h
      obtain ⟨⟨⟨⟨⟨⟨e, h1⟩, h2⟩, h3⟩, h4⟩, h5⟩, h6⟩ := h
      subst e
      have bo : BlkOk X.N X.env.scope scope own := by rw [c.hN, c.hsc]; exact blkOk_by h3
      have P := pe_lc (pos := pos) (X := X) (g := tg.gr X.K) c.calm c.nd (sndR hs src c tk h4) bo (fun s H C cl fp => pg_tg (sc := ⟨scope, false⟩) c.calm c.hN c.nd locS_blk h1)
        (fun s H C cl fp => sndC hs cond (c.blk (s := s) (H := H) (scope := scope) (cl := cl) (C := C) (fp := fp)) takes_no h5)
        (fun s H C cl fp => (snd hs elt (c.blk (s := s) (H := H) (scope := scope) (cl := cl) (C := C) (fp := fp)) takes_no h6).v) (fun x => chkR_fo h4 _ x)
      refine okVal c.hK (PE.imp P fun σ H Q h => ?_) fun _ => rfl
      rw [c.hK]
      refine tE_comp (tgt_ok tg) (fun j hj => ?_) (fun z => ?_) h
      · rw [tgt_is] at hj
        exact by simpa using List.all_eq_true.mp h2 j hj
      · simpa [Bool.or_eq_false_iff] using z
    · cases h
  | .compX own tg src cond elt, sc, X, Wx, ex, c, tk, h => by
    unfold chk at h
    split at h
    · rename_i y tg' it ifs as' scope pos
      simp only [Bool.and_eq_true, decide_eq_true_eq] at h
      obtain ⟨⟨⟨⟨⟨⟨⟨e0, e⟩, h1⟩, h2⟩, h3⟩, h4⟩, h5⟩, h6⟩ := h
      subst e
      have bo : BlkOk X.N X.env.scope scope own := by rw [c.hN, c.hsc]; exact blkOk_by h3
      have P := pe_lcX (pos := pos) (X := X) (g := tg.gr X.K) (Wx := Wx) (tt := fun σ0 => tT p (fun cls d _ H => Wx cls d σ0 H) (denC Γ cond).2 (denC Γ cond).1) (te := fun σ0 => tE p (fun cls d _ H => Wx cls d σ0 H) (den Γ elt).m (den Γ elt).v)
        c.calm c.nd (c.top e0) tk (sndR hs src c tk h4) bo (fun s H C cl fp xe => pg_tg (sc := ⟨scope, false⟩) c.calm c.hN c.nd locS_blkE h1)
        (fun σ0 s H C cl fp xe t => sndC hs cond (c.blkE (s := s) (H := H) (scope := scope) (cl := cl) (C := C) (fp := fp) (xe := xe)) t h5)
        (fun σ0 s H C cl fp xe t => (snd hs elt (c.blkE (s := s) (H := H) (scope := scope) (cl := cl) (C := C) (fp := fp) (xe := xe)) t h6).v) (fun x => chkR_fo h4 _ x)
      refine okVal c.hK (PE.imp P fun σ H Q h => ?_) fun _ => rfl
      rw [c.hK]
      refine tE_compX (tgt_ok tg) (fun j hj => ?_) (fun z => ?_) h
      · rw [tgt_is] at hj
        exact by simpa using List.all_eq_true.mp h2 j hj
      · simpa [Bool.or_eq_false_iff] using z
    · cases h
  | .fmt a, sc, X, Wx, ex, c, tk, h => by
    unfold chk at h
    split at h
    · simp only [Bool.and_eq_true, decide_eq_true_eq] at h
      obtain ⟨e, h1⟩ := h
      subst e
      exact okVal c.hK (den_fmt (snd hs a c tk h1).b) fun _ => rfl
    · simp only [Bool.and_eq_true, decide_eq_true_eq] at h
      obtain ⟨e, h1⟩ := h
      subst e
      exact okVal c.hK (pe_joined1 (den_fmt (snd hs a c tk h1).b)) fun _ => rfl
    · cases h
  | .fstr es, sc, X, Wx, ex, c, tk, h => by
    unfold chk at h
    split at h
    · exact okVal c.hK (den_fstr (sndJ hs es c tk h)) fun _ => rfl
    · cases h
  | .srt a, sc, X, Wx, ex, c, tk, h => by
    unfold chk at h
    split at h
    · simp only [Bool.and_eq_true] at h
      obtain ⟨⟨⟨⟨e, e'⟩, h1⟩, h2⟩, h3⟩ := h
      have e := beq_iff_eq.mp e
      subst e
      have e' := beq_iff_eq.mp e'
      subst e'
      have b1 := blt_of c h1
      have b2 := blt_of c h2
      exact okVal c.hK (hs X Wx _ _ _ _ _ _ _ c.toCok c.gd b1.g b2.g b1.m b2.m (chk_plain a _ h3) (snd hs a c tk h3).b) fun _ => rfl
    · cases h
theorem sndS {Γ : Gm} {N : List Str} {k : Nat} {p : Pm} (hs : SrtR p) : ∀ (es : Exs) {sc : Sc} {X : Cx} {Wx : WX} {xs : List Expr}, CtxOk Γ N sc k X p → Takes X Wx → chkS Γ N sc es xs = true → PA X xs (tA p Wx (denV Γ es).2 (denV Γ es).1)
  | .nil, sc, X, Wx, xs, c, tk, h => by
    unfold chkS at h
    split at h
    · exact den_nilA
    · cases h
  | .cons e es, sc, X, Wx, xs, c, tk, h => by
    unfold chkS at h
    split at h
    · simp only [Bool.and_eq_true] at h
      exact den_consA (den_frz (snd hs e c tk h.1).v) (sndS hs es c tk h.2) ((chk_plain e _ h.1).st _ _)
    · cases h
theorem sndO {Γ : Gm} {N : List Str} {k : Nat} {p : Pm} (hs : SrtR p) : ∀ (o : Exo) {sc : Sc} {X : Cx} {Wx : WX} {x : Option Expr}, CtxOk Γ N sc k X p → Takes X Wx → chkO Γ N sc o x = true → PO X x (tO p Wx (denO Γ o).2 (denO Γ o).1)
  | .no, sc, X, Wx, x, c, tk, h => by
    unfold chkO at h
    split at h
    · exact den_noPart
    · cases h
  | .so e, sc, X, Wx, x, c, tk, h => by
    unfold chkO at h
    split at h
    · exact den_part (snd hs e c tk h).b
    · cases h
theorem sndC {Γ : Gm} {N : List Str} {k : Nat} {p : Pm} (hs : SrtR p) : ∀ (o : Exo) {sc : Sc} {X : Cx} {Wx : WX} {x : List Expr}, CtxOk Γ N sc k X p → Takes X Wx → chkC Γ N sc o x = true → PTs X x (tT p Wx (denC Γ o).2 (denC Γ o).1)
  | .no, sc, X, Wx, x, c, tk, h => by
    unfold chkC at h
    split at h
    · refine ⟨fun pins s σ H Q I h => pts_nil.run pins s σ H Q I ?_⟩
      obtain ⟨ε, G, fps, r, a⟩ := h
      exact a true G H fps [] r ⟨rfl, rfl⟩ Tr.refl fun _ => Same.refl _
    · cases h
  | .so e, sc, X, Wx, x, c, tk, h => by
    unfold chkC at h
    split at h
    · exact pts_one (snd hs e c tk h).t
    · cases h
theorem sndG {Γ : Gm} {N : List Str} {k : Nat} {p : Pm} (hs : SrtR p) : ∀ (as : Ags) {sc : Sc} {X : Cx} {Wx : WX} {xs : List Expr}, CtxOk Γ N sc k X p → Takes X Wx → chkG Γ N sc as xs = true → ∀ σ0, PA X xs (tG p Wx (denG Γ as).2.1 σ0 (denG Γ as).1)
  | .nil, sc, X, Wx, xs, c, tk, h => by
    unfold chkG at h
    split at h
    · exact fun σ0 => PA.imp pa_nil fun σ H Q ⟨e, h⟩ => by subst e; exact tC_nil h
    · cases h
  | .own i as, sc, X, Wx, xs, c, tk, h => by
    unfold chkG at h
    split at h
    · rw [Bool.and_eq_true] at h
      intro σ0
      refine PA.imp (pa_cons (tvar_of c h.1) (sndG hs as c tk h.2 σ0) (by rfl)) fun σ H Q ⟨e, h⟩ => ?_
      subst e
      obtain ⟨v, e, h⟩ := tC_own h
      exact ⟨v, e, rfl, h⟩
    · cases h
  | .val e as, sc, X, Wx, xs, c, tk, h => by
    unfold chkG at h
    split at h
    · simp only [Bool.and_eq_true] at h
      intro σ0
      refine PA.imp (pa_cons (snd hs e c tk h.1).v (sndG hs as c tk h.2 σ0) ((chk_plain e _ h.1).st _ _)) fun σ H Q ⟨e, h⟩ => ?_
      subst e
      exact tR.mono (tC_val h) fun x H1 q => ⟨rfl, q⟩
    · cases h
theorem sndR {Γ : Gm} {N : List Str} {k : Nat} {p : Pm} (hs : SrtR p) : ∀ (src : Sr) {sc : Sc} {X : Cx} {Wx : WX} {x tg : Expr}, CtxOk Γ N sc k X p → Takes X Wx → chkR Γ N sc src x tg = true → PI X tg x (tIt p Wx (denR Γ src).2 (denR Γ src).1)
  | .inn e, sc, X, Wx, x, tg, c, tk, h => by
    unfold chkR at h
    exact PI.imp (pi_any (snd hs e c tk h).v) fun σ H R h => by rw [c.hK]; exact tIt_in h
  | .rng1 e, sc, X, Wx, x, tg, c, tk, h => by
    unfold chkR at h
    split at h
    · simp only [Bool.and_eq_true] at h
      have e' := beq_iff_eq.mp h.1.1
      subst e'
      have b := blt_of c h.1.2
      have st := (chk_plain e _ h.2).st X.env []
      exact PI.imp (pi_range1 b.g b.m (pa_cons (snd hs e c tk h.2).v pa_nil st) st) fun σ H R h => tIt_rng1 h
    · cases h
  | .enum e, sc, X, Wx, x, tg, c, tk, h => by
    unfold chkR at h
    split at h
    · simp only [Bool.and_eq_true] at h
      have e' := beq_iff_eq.mp h.1.1.2
      subst e'
      have b := blt_of c h.1.2
      have st := (chk_plain e _ h.2).st X.env []
      cases tg with
      | Tuple es kk tp => exact PI.imp (pi_enum b.g b.m (pa_cons (snd hs e c tk h.2).v pa_nil st) st) fun σ H R h => by rw [c.hK]; exact tIt_enum h
      | _ => exact absurd h.1.1.1 (by simp [isTup])
    · cases h
  | .zip e e', sc, X, Wx, x, tg, c, tk, h => by
    unfold chkR at h
    split at h
    · simp only [Bool.and_eq_true] at h
      obtain ⟨⟨⟨⟨h0, h1⟩, h2⟩, h3⟩, h4⟩ := h
      have e1 := beq_iff_eq.mp h1
      subst e1
      have b := blt_of c h2
      have st := (chk_plain e _ h3).st X.env
      have st2 := (chk_plain e' _ h4).st X.env []
      cases tg with
      | Tuple es kk tp => exact PI.imp (RZ.pi_zipA b.g b.m (pa_cons (snd hs e c tk h3).v (pa_cons (snd hs e' c tk h4).v pa_nil st2) (st _)) (st _) (by rw [st2]; rfl)) fun σ H R h => by rw [c.hK]; exact tIt_zip h
      | _ => exact absurd h0 (by simp [isTup])
    · cases h
  | .rng2 e e', sc, X, Wx, x, tg, c, tk, h => by
    unfold chkR at h
    split at h
    · simp only [Bool.and_eq_true] at h
      obtain ⟨⟨⟨h1, h2⟩, h3⟩, h4⟩ := h
      have e1 := beq_iff_eq.mp h1
      subst e1
      have b := blt_of c h2
      have st := (chk_plain e _ h3).st X.env
      have st2 := (chk_plain e' _ h4).st X.env []
      exact PI.imp (pi_range2 b.g b.m (pa_cons (snd hs e c tk h3).v (pa_cons (snd hs e' c tk h4).v pa_nil st2) (st _)) (by rw [st, st2]; rfl) st2) fun σ H R h => tIt_rng2 h
    · cases h
theorem sndJ {Γ : Gm} {N : List Str} {k : Nat} {p : Pm} (hs : SrtR p) : ∀ (es : Exs) {sc : Sc} {X : Cx} {Wx : WX} {xs : List Expr}, CtxOk Γ N sc k X p → Takes X Wx → chkS Γ N sc es xs = true → PJ X xs ((denJ Γ es).map fun f => tB p Wx f.1 f.2)
  | .nil, sc, X, Wx, xs, c, tk, h => by
    unfold chkS at h
    split at h
    · exact .nil
    · cases h
  | .cons e es, sc, X, Wx, xs, c, tk, h => by
    unfold chkS at h
    split at h
    · simp only [Bool.and_eq_true] at h
      exact .cons (snd hs e c tk h.1).b (sndJ hs es c tk h.2)
    · cases h
end
end
end Mb
end

section
set_option Elab.async false
set_option linter.all false
set_option maxRecDepth 100000
set_option maxHeartbeats 1000000
/-! Mb25: raise, try, a tuple of owned values as a tuple -/
namespace Mb
noncomputable section
open PySem PySem.Spec PyProof.Rows L2

section
variable {p : Pm} {Wx : WX} {m : Bool} {σ : L2.St} {G H : Hp} {fps : Fps} {ε : Ev} {fx : List Nat} {D : Ends}
/-- the heap with a fresh dict of an exception, or as it was -/
def XdOf (H H2 : Hp) : Prop := H2 = H ∨ ∃ (dx : Addr) (fs : List (Str × V)), H dx = none ∧ H2 = upd H dx (.xd fs)
theorem tS_rais {F : List Ent → Option Exn} {h : Ev → Res (List Ent × Ev)} (hh : tS p Wx fx (fRais F h) D σ H) :
    tA p Wx m h σ H fun vs H1 => ∃ (as : List Ent) (G : Hp) (x : Exn), Same G H1 ∧ BoAll p.K G H1 vs as ∧ F as = some x ∧ ∀ cls d H2, XdOf H1 H2 → ExcAt p x cls d H2 → Wx cls d σ H2 := by
  refine tS_val (k := fun as ε => match F as with | some x => .exc x ε | none => .bad) hh fun vs as ε1 G G1 H1 fps fps1 fp r1 o t a => ?_
  obtain ⟨rfl, o⟩ := o
  cases e : F as with
  | none => rw [e] at a; exact a.elim
  | some x =>
    rw [e] at a
    refine ⟨as, G1, x, r1.sub, o, e, fun cls d H2 z ex => ?_⟩
    rcases z with rfl | ⟨dx, fs, hd, rfl⟩
    · exact a cls d σ G1 H2 fps1 r1 t Fixed.refl ex
    · have gD : G1 dx = none := free_sub r1.sub hd
      have nW : ¬ Wf fps1 [] dx := fun w => (r1.off dx w).2 hd
      refine a cls d σ G1 _ fps1 (r1.other gD nW) ⟨fun b o hb hw => ?_, fun b hb => ?_, t.grow, t.new, t.wnew⟩ Fixed.refl ex
      · rw [upd_ne (ne_of_none (t.keep b o hb hw) hd)]; exact t.keep b o hb hw
      · by_cases q : b = dx
        · subst q; rw [upd_same]; exact fun z => nomatch z
        · rw [upd_ne q]; exact t.there b hb
/-- the suite's reading -/
def tHd (p : Pm) (fx : List Nat) (c : Str) (hd : Exn → Ev → Res (Ent × Ev)) : Addr → Value → Option Addr → TS := fun a cls d D σ H =>
  ∃ x, x.cls = c ∧ ExcAt p x cls d H ∧ ∃ (ε : Ev) (G : Hp) (fps : Fps), Rel p.K ε σ G H fps [] ∧ AfterS p wNo fx σ G H fps (match hd x ε with | .ok q => .ok (.ret q.1, q.2) | _ => .bad) D
theorem tS_try {c : Str} {b : Ev → Res (Fl × Ev)} {hd : Exn → Ev → Res (Ent × Ev)} {cv : Value} (hc : p.mg c = some cv) (he : PySem.W.exmOne p.K cv cv = some true) (h : tS p Wx fx (fTry c b hd none) D σ H) :
    tS p (wOnly p.K cv (tHd p fx c hd) wNo D) fx b D σ H := by
  obtain ⟨ε, G, fps, r, a⟩ := h
  refine ⟨ε, G, fps, r, ?_⟩
  unfold fTry at a
  cases e : b ε with
  | ok q => obtain ⟨fl, ε'⟩ := q; rw [e] at a; cases fl <;> exact a
  | bad => rw [e] at a; exact a
  | exc x ε' =>
    rw [e] at a
    dsimp only at a
    intro cls d σ' G' H' fps' r' t f ex
    by_cases hx : x.cls = c
    · rw [if_pos ⟨hx, rfl⟩] at a
      obtain ⟨C, h1, h2, h3⟩ := ex
      rw [hx, hc] at h1
      cases h1
      subst h2
      refine ⟨true, he, fun _ ad na => ⟨x, hx, ⟨C, by rw [hx]; exact hc, rfl, h3⟩, ε', G', fps', r', ?_⟩, fun z => nomatch z⟩
      cases e2 : hd x ε' with
      | ok q =>
        have e2' : hd x (forgetE none ε') = .ok q := e2
        rw [e2'] at a
        exact AfterS.later (r := .ok (.ret q.1, q.2)) t f a
      | exc _ _ => have e2' : hd x (forgetE none ε') = _ := e2; rw [e2'] at a; exact a.elim
      | bad => have e2' : hd x (forgetE none ε') = _ := e2; rw [e2'] at a; exact a.elim
    · rw [if_neg fun z => hx z.1] at a; exact a.elim
theorem tS_tryAs {c : Str} {b : Ev → Res (Fl × Ev)} {hd : Exn → Ev → Res (Ent × Ev)} {cv : Value} {i : Nat} (hi : i ∉ fx) (hc : p.mg c = some cv) (he : PySem.W.exmOne p.K cv cv = some true) (h : tS p Wx fx (fTry c b hd (some i)) D σ H) :
    tS p (wAs p.K cv i (fun a cls d D' σ' H' => σ'[i]? = some (some (.ref a)) ∧ tHd p fx c hd a cls d D' σ' H') wNo D) fx b D σ H := by
  obtain ⟨ε, G, fps, r, a⟩ := h
  refine ⟨ε, G, fps, r, ?_⟩
  unfold fTry at a
  cases e : b ε with
  | ok q => obtain ⟨fl, ε'⟩ := q; rw [e] at a; cases fl <;> exact a
  | bad => rw [e] at a; exact a
  | exc x ε' =>
    rw [e] at a
    dsimp only at a
    intro cls d σ' G' H' fps' r' t f ex
    by_cases hx : x.cls = c ∧ okSlot (some i) ε' = true
    · rw [if_pos hx] at a
      obtain ⟨hx, hlt⟩ := hx
      have hlt : i < ε'.length := of_decide_eq_true hlt
      obtain ⟨C, h1, h2, h3⟩ := ex
      rw [hx, hc] at h1
      cases h1
      subst h2
      refine ⟨true, he, fun _ ad na => ⟨?_, x, hx, ⟨C, by rw [hx]; exact hc, rfl, h3⟩, ε'.set i none, G', _, r'.forget i (some (.ref ad)), ?_⟩, fun z => nomatch z⟩
      · rw [List.getElem?_set_self (by rw [r'.len]; exact hlt)]
      cases e2 : hd x (ε'.set i none) with
      | ok q =>
        have e2' : hd x (forgetE (some i) ε') = .ok q := e2
        rw [e2'] at a
        have b : AfterS p Wx fx σ' G' H' fps' (.ok (.ret q.1, q.2)) D := AfterS.later t f a
        refine AfterS.later (r := .ok (.ret q.1, q.2)) (Tr.refl.wsub fun _ w => w.forget) (Fixed.set hi) ?_
        exact b
      | exc _ _ => have e2' : hd x (forgetE (some i) ε') = _ := e2; rw [e2'] at a; exact a.elim
      | bad => have e2' : hd x (forgetE (some i) ε') = _ := e2; rw [e2'] at a; exact a.elim
    · rw [if_neg hx] at a; exact a.elim
/-- the values stand in a tuple that is let go -/
theorem tS_parT {is : List Nat} {h : Ev → Res (List Ent × Ev)} (hh : tS p Wx fx (fPar fx is h) D σ H) : tR p Wx m (relAO p) h σ H fun vs H1 => vs.length = is.length ∧ ∀ q, H1 q = none → D.nx (setAllV is vs σ) (upd H1 q (.tup vs)) := by
  refine tS_val (k := fun es ε => if es.length = is.length ∧ is.all (fun i => !fx.contains i) = true then .ok (.next, setEnts is es ε) else .bad) hh fun vs es ε1 G G1 H1 fps fps1 fp r1 o t a => ?_
  by_cases c : es.length = is.length ∧ is.all (fun i => !fx.contains i) = true
  · rw [if_pos c] at a
    obtain ⟨fps', r', w⟩ := r1.setEnts is o
    refine ⟨(AllE.length o).trans c.1, fun q hq => ?_⟩
    have gq : G1 q = none := free_sub r1.sub hq
    have nW : ¬ Wf fps1 fp q := fun w => (r1.off q w).2 hq
    refine a _ G1 _ fps' (r'.other gq fun z => nW (w q z)) ⟨fun b o hb hw => ?_, fun b hb => ?_, t.grow, t.new, fun b hb => t.wnew b (w b hb)⟩ (Fixed.setAll is _ σ fun i hi => ?_)
    · rw [upd_ne (ne_of_none (t.keep b o hb hw) hq)]; exact t.keep b o hb hw
    · by_cases z : b = q
      · subst z; rw [upd_same]; exact fun z => nomatch z
      · rw [upd_ne z]; exact t.there b hb
    · have := List.all_eq_true.mp c.2 i hi
      exact not_fx (by simpa using this)
  · rw [if_neg c] at a; exact a.elim
end
end
end Mb
end

section
set_option Elab.async false
set_option linter.all false
set_option maxRecDepth 100000
set_option maxHeartbeats 2000000
/-! Mb26: statements: the check, and the ground for their soundness -/
namespace Mb
noncomputable section
open PySem PySem.Spec PyProof.Rows L2

theorem swLc {elt : Expr} {gs : List Comprehension} {scope : Scope} {pos : Pos} {t : Str} {tp : Pos} {line : Nat} {env : Env} :
  swapsWith (.ListComp elt gs scope pos) (some (.Name t tp)) line env = pure (env.blockKind == .function && env.kindOf t == some .local && tp.line == pos.line && !(scope.names.any fun (n, k) => n == t && (k == .local || k == .cell))) := by
  rfl
def blkKind (sc : Scope) : ScopeKind := if sc.kind.isAnnotationScope then .function else sc.kind
def swp (sc : Scope) (ts vs : List Expr) : Option (Option (List Str)) :=
  if (!(ts.length == 2 || ts.length == 3) || vs.length != ts.length || blkKind sc != .function) = true then some none
  else if (vs.any fun | .Starred .. => true | _ => false) = true then some none
  else
    let line := (ts.head?.map (·.pos.line)).getD 0
    let names := ts.filterMap fun
      | .Name id pos => if sc.names.lookup id == some .local && pos.line == line then some id else none
      | _ => none
    if (names.length != ts.length || names.eraseDups.length != names.length) = true then some none
    else if vs.all (foldedForSure 8) = true then some none
    else if vs.all (constantsAlone 8) = true then none
    else some (some names)
theorem swp_ok {env : Env} {ts vs : List Expr} {k k2 : Nat} {p p2 : Pos} {r : Option (List Str)} (h : swp env.scope ts vs = some r) : swappedStores [.Tuple ts k p] (.Tuple vs k2 p2) env = pure r := by
  unfold swp at h
  show (do
    if (!(ts.length == 2 || ts.length == 3) || vs.length != ts.length || blkKind env.scope != .function) = true then return none
    if (vs.any fun | .Starred .. => true | _ => false) = true then return none
    let line := (ts.head?.map (·.pos.line)).getD 0
    let names := ts.filterMap fun
      | .Name id pos => if env.scope.names.lookup id == some .local && pos.line == line then some id else none
      | _ => none
    if (names.length != ts.length || names.eraseDups.length != names.length) = true then return none
    if vs.all (foldedForSure 8) = true then return none
    if vs.all (constantsAlone 8) = true then unsupported "assign.tuple-of-constant-expressions:order-of-the-stores"
    return some names : Sem (Option (List Str))) = pure r
  split at h
  · rename_i c; cases h; rw [if_pos c]
  · rename_i c
    rw [if_neg c]
    split at h
    · rename_i c; cases h; rw [if_pos c]
    · rename_i c
      rw [if_neg c]
      dsimp only at h ⊢
      split at h
      · rename_i c; cases h; rw [if_pos c]
      · rename_i c
        rw [if_neg c]
        split at h
        · rename_i c; cases h; rw [if_pos c]
        · rename_i c
          rw [if_neg c]
          split at h
          · cases h
          · rename_i c; cases h; rw [if_neg c]

theorem chk_sw {Γ : Gm} {N : List Str} {sc : Sc} : ∀ (e : Ex) (ex : Expr), chk Γ N sc e ex = true → (∃ elt gs scope pos, ex = .ListComp elt gs scope pos) ∨ ∀ t l env, swapsWith ex t l env = pure false := by
  intro e ex h
  cases ex with
  | ListComp a b c d => exact .inl ⟨a, b, c, d, rfl⟩
  | SetComp _ _ _ _ => exact absurd h (by cases e <;> simp [chk])
  | DictComp _ _ _ _ _ => exact absurd h (by cases e <;> simp [chk])
  | _ => exact .inr fun _ _ _ => rfl
def isCall : Expr → Bool
  | .Call _ _ _ _ => true
  | _ => false
/-- constants, and tuples of constants -/
def cst : Ex → Bool
  | .non => true
  | .bl _ => true
  | .int _ => true
  | .str _ => true
  | _ => false
def csts : Exs → Bool
  | .nil => true
  | .cons e es => cst e && csts es
def cstT : Ex → Bool
  | .tup es => csts es
  | e => cst e
def isX : Ex → Bool
  | .compX _ _ _ _ _ => true
  | _ => false
def chkHd (Γ : Gm) (N : List Str) (sc : Sc) : Hd → Option Str → List Stmt → Bool
  | .k e, on, ss => match on, ss with
    | none, [.Return (some v) _] => cstT e && chk Γ N sc e v
    | _, _ => false
  | .fld i f, on, ss => match on, ss with
    | some n, [.Return (some (.Attribute (.Name x _) f' _)) _] => (x == n) && (f' == f) && (f == ("line" : Str)) && nmAt N i n && decide (sc.sc.names.lookup n = some .local) && okN n
    | _, _ => false
  | .fldIf i f c a b, on, ss => match on, ss with
    | some n, [.Return (some (.IfExp (.Compare (.Attribute (.Name x _) f' _) [.Eq] [.Constant (.int c') _ _] _) va vb _)) _] => (x == n) && (f' == f) && (f == ("line" : Str)) && (c == c') && nmAt N i n && decide (sc.sc.names.lookup n = some .local) && okN n && cstT a && cstT b && chk Γ N sc a va && chk Γ N sc b vb
    | _, _ => false
def par2 (sc : Sc) : List Nat → List Expr → List Expr → Bool
  | [i, j], [.Name x _, .Name y _], [_, _] => decide (i ≠ j) && decide (sc.sc.names.lookup x = some .local) && decide (sc.sc.names.lookup y = some .local)
  | [i, j, l], [.Name x _, .Name y _, .Name z _], [_, _, _] => decide (i ≠ j) && decide (i ≠ l) && decide (j ≠ l) && decide (sc.sc.names.lookup x = some .local) && decide (sc.sc.names.lookup y = some .local) && decide (sc.sc.names.lookup z = some .local)
  | _, _, _ => false
def nms : List Expr → List Str
  | .Name x _ :: r => x :: nms r
  | _ => []
def parOk (sc : Sc) (is : List Nat) (ts vs : List Expr) : Bool := match swp sc.sc ts vs with
  | some none => decide (is.length < 1000)
  | some (some ns) => decide (ns = nms ts) && par2 sc is ts vs
  | none => false
mutual
def chkSt (Γ : Gm) (N : List Str) (sc : Sc) : Sm → Stmt → Bool
  | .asg i e, st => match st with
    | .Assign [t] v _ => !isX e && chkN N sc i t && chk Γ N sc e v
    | _ => false
  | .par is es, st => match st with
    | .Assign [.Tuple ts _ _] (.Tuple vs _ _) _ => chkNs N sc is ts && chkS Γ N sc es vs && parOk sc is ts vs
    | _ => false
  | .asgT is e, st => match st with
    | .Assign [.Tuple ts _ _] v _ => chkNs N sc is ts && chk Γ N sc e v && !isTup v
    | _ => false
  | .app i e, st => match st with
    | .Expr (.Call (.Attribute (.Name x _) nm apos) [y] [] pos) _ => (nm == ("append" : Str)) && (apos.endLine == pos.line) && (nmAt N i x && vis sc x && okN x) && chk Γ N sc e y
    | _ => false
  | .setL i j e, st => match st with
    | .Assign [.Subscript (.Name x _) jx _] v _ => (nmAt N i x && vis sc x && okN x) && chk Γ N sc j jx && chk Γ N sc e v
    | _ => false
  | .expr e, st => match st with
    | .Expr v _ => isCall v && chk Γ N sc e v
    | _ => false
  | .ite c a b, st => match st with
    | .If x y z _ => chk Γ N sc c x && chkSs Γ N sc a y && chkSs Γ N sc b z
    | _ => false
  | .whl c b, st => match st with
    | .While x y [] _ => chk Γ N sc c x && chkSs Γ N sc b y
    | _ => false
  | .forr tg src b, st => match st with
    | .For t it y [] _ => chkTg N sc tg t && chkR Γ N sc src it t && chkSs Γ N sc b y
    | _ => false
  | .ret e, st => match st with
    | .Return (some v) _ => chk Γ N sc e v
    | _ => false
  | .retV i, st => match st with
    | .Return (some (.Name x _)) _ => nmAt N i x && vis sc x && okN x
    | _ => false
  | .retN, st => match st with
    | .Return none _ => true
    | _ => false
  | .brk, st => match st with
    | .Break _ => true
    | _ => false
  | .cont, st => match st with
    | .Continue _ => true
    | _ => false
  | .pass, st => match st with
    | .Pass _ => true
    | _ => false
  | .rais j es, st => match st, Γ.exs[j]? with
    | .Raise (some (.Call (.Name x _) (y :: r) [] _)) none _, some q => (q.1 == x) && gl sc x && okN x && chkS Γ N sc es (y :: r)
    | _, _ => false
  | .tryK b j h, st => match st, Γ.exs[j]? with
    | .Try bx [.ExceptHandler (some (.Name x _)) on hb _] [] [] _, some q => (q.1 == x) && gl sc x && okN x && chkSs Γ N sc b bx && chkHd Γ N sc h on hb
    | _, _ => false
def chkSs (Γ : Gm) (N : List Str) (sc : Sc) : Sms → List Stmt → Bool
  | .nil, r => match r with
    | [] => true
    | _ => false
  | .cons s r, l => match l with
    | st :: l => chkSt Γ N sc s st && chkSs Γ N sc r l
    | _ => false
end
/-- the maker of an exception -/
def MkR (X : Cx) (p : Pm) (x : Str) (F : List Ent → Option Exn) : Prop := ∀ (Wx : WX) (m : Bool) (f : Ev → Res (List Ent × Ev)) (e : Expr) (es : List Expr) (p' pos : Pos), Gl X x → (x == ("__debug__" : Str)) = false →
  starEach (e :: es) X.env = (false, eval e X.env) :: starEach es X.env → (backTo pos (starEach es X.env)).any (·.1) = false → PA X (e :: es) (tA p Wx m f) →
  PMk X (.Call (.Name x p') (e :: es) [] pos) (fun σ H Q => tA p Wx m f σ H fun vs H1 => ∃ (as : List Ent) (G : Hp) (x' : Exn), Same G H1 ∧ BoAll p.K G H1 vs as ∧ F as = some x' ∧ ∀ cls d H2, XdOf H1 H2 → ExcAt p x' cls d H2 → Q cls d H2)
structure ExOk (X : Cx) (p : Pm) (q : Str × (List Ent → Option Exn)) : Prop where
  at' : ∃ C : Addr, p.mg q.1 = some (.ref C) ∧ PySem.W.exmOne p.K (.ref C) (.ref C) = some true ∧ XfC X.K C ∧ PySem.W.findIn X.K (.ref C) "line" = some none
  made : ∀ pn xe, MkR (X.tr pn xe) p q.1 q.2
structure StOk (Γ : Gm) (N : List Str) (sc : Sc) (k : Nat) (X : Cx) (p : Pm) : Prop extends CtxOk Γ N sc k X p where
  fn : ∀ x, X.fn x = true
  pass : PassesOwn (model X.prog X.w) X.A X.env X.xe
  stk : X.stack = X.env :: X.outer
  fr : X.env.frame = some X.env.locals
  exs : ∀ (j : Nat) (q : Str × (List Ent → Option Exn)), Γ.exs[j]? = some q → ExOk X p q
theorem StOk.tr {Γ : Gm} {N : List Str} {sc : Sc} {k : Nat} {X : Cx} {p : Pm} (c : StOk Γ N sc k X p) (pn : List (Addr × Obj)) (xe : Value → Shared → Prop) (h : PassesOwn (model X.prog X.w) X.A X.env xe) : StOk Γ N sc k (X.tr pn xe) p :=
  ⟨⟨⟨c.hK, c.hmg, c.calm, c.nd, c.un⟩, c.hN, c.hsc, c.top, c.gd, c.room, c.fns, c.blt, c.glb⟩, c.fn, h, c.stk, c.fr, fun j q e => ⟨(c.exs j q e).at', fun pn' xe' => (c.exs j q e).made pn' xe'⟩⟩
theorem locS_st {Γ : Gm} {N : List Str} {sc : Sc} {k : Nat} {X : Cx} {p : Pm} (c : StOk Γ N sc k X p) : ∀ x, locS sc x = true → Loc X.env.scope x ∧ (X.fn x = true ∨ X.env.scope.names.lookup x = some .local) := fun x h => by
  refine ⟨?_, .inl (c.fn x)⟩
  unfold locS at h
  unfold L2.Loc
  rw [c.hsc]
  split at h
  · exact .inl (by assumption)
  · exact .inr (by assumption)
  · cases h
/-- what is denoted by a constant, anywhere -/
theorem sndCst {Γ : Gm} {N : List Str} {sc : Sc} {p : Pm} {Y : Cx} {Wx : WX} : ∀ (e : Ex) (ex : Expr), cst e = true → chk Γ N sc e ex = true → PE Y ex (tE p Wx (den Γ e).m (den Γ e).v) := by
  intro e ex h1 h2
  cases e with
  | non => unfold chk at h2; split at h2 <;> first | exact den_const pe_non fun _ => .non | cases h2
  | bl b => unfold chk at h2; split at h2 <;> first | (rw [beq_iff_eq.mp h2]; exact den_const pe_bl fun _ => .bl _) | cases h2
  | int b => unfold chk at h2; split at h2 <;> first | (rw [beq_iff_eq.mp h2]; exact den_const pe_int fun _ => .int _) | cases h2
  | str b => unfold chk at h2; split at h2 <;> first | (rw [beq_iff_eq.mp h2]; exact den_const pe_str fun _ => .str _) | cases h2
  | _ => cases h1
theorem sndCsts {Γ : Gm} {N : List Str} {sc : Sc} {p : Pm} {Y : Cx} {Wx : WX} : ∀ (es : Exs) (xs : List Expr), csts es = true → chkS Γ N sc es xs = true → PA Y xs (tA p Wx (denV Γ es).2 (denV Γ es).1)
  | .nil, xs, _, h => by
    unfold chkS at h
    split at h
    · exact den_nilA
    · cases h
  | .cons e es, xs, h1, h => by
    unfold chkS at h
    split at h
    · simp only [Bool.and_eq_true] at h
      unfold csts at h1
      rw [Bool.and_eq_true] at h1
      exact den_consA (den_frz (sndCst e _ h1.1 h.1)) (sndCsts es _ h1.2 h.2) ((chk_plain e _ h.1).st _ _)
    · cases h
theorem sndCstT {Γ : Gm} {N : List Str} {sc : Sc} {p : Pm} {Y : Cx} {Wx : WX} (e : Ex) (ex : Expr) (h1 : cstT e = true) (h2 : chk Γ N sc e ex = true) : PE Y ex (tE p Wx (den Γ e).m (den Γ e).v) := by
  unfold cstT at h1
  split at h1
  · rename_i es
    unfold chk at h2
    split at h2
    · exact den_tup ok_tupD (sndCsts es _ h1 h2)
    · cases h2
  · exact sndCst e ex h1 h2
end
end Mb
end

section
set_option Elab.async false
set_option linter.all false
set_option maxRecDepth 100000
set_option maxHeartbeats 4000000
/-! Mb27: THE SOUNDNESS of statements -/
namespace Mb
noncomputable section
open PySem PySem.Spec PyProof.Rows L2

section
variable {Γ : Gm} {N : List Str} {sc : Sc} {k : Nat} {X : Cx} {p : Pm} {Wx : WX} {fx : List Nat}
theorem swF {e : Ex} {v : Expr} {t : Option Expr} {l : Nat} {env : Env} (h : chk Γ N sc e v = true) (hv : ∀ a b c d, v ≠ .ListComp a b c d) : swapsWith v t l env = pure false := by
  rcases chk_sw e v h with ⟨a, b, c, d, q⟩ | q
  · exact absurd q (hv a b c d)
  · exact q t l env
theorem chk_asgS {e : Ex} {i o : Expr} {pos : Pos} {env : Env} (h : chk Γ N sc e i = true) : ∀ v, assign (.Subscript o i pos) env v = (do
      let ov ← holding [v] (eval o env)
      let iv ← holding [v, ov] (eval i env)
      standAt pos
      holding [v, ov, iv] (setItem ov iv v)
      release [v, ov, iv] []) := by
  cases i with
  | Slice a b c d => exact absurd h (by cases e <;> simp [chk])
  | _ => exact fun _ => rfl
/-- name = value -/
theorem snd_asg (hs : SrtR p) {i : Nat} {e : Ex} {t v : Expr} {pos : Pos} (c : StOk Γ N sc k X p) (tk : Takes X Wx) (h0 : isX e = false) (h1 : chkN N sc i t = true) (h2 : chk Γ N sc e v = true) : PS X (.Assign [t] v pos) (tS p Wx fx (fAsg fx i (den Γ e).v)) := by
  unfold chkN at h1
  split at h1
  · rename_i x xp
    simp only [Bool.and_eq_true] at h1
    obtain ⟨l1, l2⟩ := locS_st c x h1.2
    have hi := nmAt_of c.toCtxOk h1.1
    by_cases hv : ∃ a b d g, v = .ListComp a b d g
    · obtain ⟨elt, gs, scope, lp, rfl⟩ := hv
      have sw := @swLc elt gs scope lp x xp pos.line X.env
      cases hb : (X.env.blockKind == .function && X.env.kindOf x == some .local && xp.line == lp.line && !(scope.names.any fun (n, k) => n == x && (k == .local || k == .cell))) with
      | false =>
        rw [hb] at sw
        exact PS.imp (ps_set c.nd hi l1 (snd hs e c.toCtxOk tk h2).v sw l2) fun D σ H h => tS_asg h
      | true =>
        rw [hb] at sw
        have hyl : X.env.scope.names.lookup x = some .local := by
          simp only [Bool.and_eq_true, beq_iff_eq] at hb
          exact hb.1.1.2
        cases e with
        | comp own tg src cond elt' =>
          unfold chk at h2
          split at h2
          · rename_i y tg' it ifs as' scope' pos' hh
            cases hh
            simp only [Bool.and_eq_true, decide_eq_true_eq] at h2
            obtain ⟨⟨⟨⟨⟨⟨e', h1'⟩, h2'⟩, h3⟩, h4⟩, h5⟩, h6⟩ := h2
            subst e'
            have bo : BlkOk X.N X.env.scope scope own := by rw [c.hN, c.hsc]; exact blkOk_by h3
            have P := ps_setLc (X := X) (g := tg.gr X.K) c.calm c.nd hi hyl sw (sndR hs src c.toCtxOk tk h4) bo (fun s H C cl fp => pg_tg (sc := ⟨scope, false⟩) c.calm c.hN c.nd locS_blk h1')
              (fun s H C cl fp => sndC hs cond (c.toCtxOk.blk (s := s) (H := H) (scope := scope) (cl := cl) (C := C) (fp := fp)) takes_no h5)
              (fun s H C cl fp => (snd hs elt' (c.toCtxOk.blk (s := s) (H := H) (scope := scope) (cl := cl) (C := C) (fp := fp)) takes_no h6).v) (fun x => chkR_fo h4 _ x)
            refine PS.imp P fun D σ H h => ?_
            have h := tS_asg (m := (denR Γ src).2 || ((denC Γ cond).2 || (den Γ elt').m)) h
            rw [c.hK]
            refine tE_comp (tgt_ok tg) (fun j hj => ?_) (fun z => ?_) h
            · rw [tgt_is] at hj
              exact by simpa using List.all_eq_true.mp h2' j hj
            · simpa [Bool.or_eq_false_iff] using z
          · cases h2
        | compX own tg src cond elt' => cases h0
        | _ => exact absurd h2 (by simp [chk])
    · exact PS.imp (ps_set c.nd hi l1 (snd hs e c.toCtxOk tk h2).v (swF h2 fun a b d g z => hv ⟨a, b, d, g, z⟩) l2) fun D σ H h => tS_asg h
  · cases h1
theorem sndOw (hs : SrtR p) : ∀ (es : Exs) {xs : List Expr}, CtxOk Γ N sc k X p → Takes X Wx → chkS Γ N sc es xs = true → PA X xs (tR p Wx true (relAO p) (denOw Γ es))
  | .nil, xs, c, tk, h => by
    unfold chkS at h
    split at h
    · exact PA.imp pa_nil fun σ H Q h => tAO_nil h
    · cases h
  | .cons e es, xs, c, tk, h => by
    unfold chkS at h
    split at h
    · simp only [Bool.and_eq_true] at h
      exact PA.imp (pa_cons (den_weak (m := true) (fun z => nomatch z) (snd hs e c tk h.1).v) (sndOw hs es c tk h.2) ((chk_plain e _ h.1).st _ _)) fun σ H Q h => tAO_cons h
    · cases h
theorem snd_par (hs : SrtR p) {is : List Nat} {es : Exs} {ts vs : List Expr} {k1 k2 : Nat} {tp vp pos : Pos} (c : StOk Γ N sc k X p) (tk : Takes X Wx) (h1 : chkNs N sc is ts = true) (h2 : chkS Γ N sc es vs = true) (h3 : parOk sc is ts vs = true) :
    PS X (.Assign [.Tuple ts k1 tp] (.Tuple vs k2 vp) pos) (tS p Wx fx (fPar fx is (denOw Γ es))) := by
  have ha := sndOw hs es c.toCtxOk tk h2
  unfold parOk at h3
  split at h3
  · rename_i hw
    rw [← c.hsc] at hw
    obtain ⟨g1, g2, g3⟩ := pg_ns c.hN c.nd (locS_st c) h1
    refine PS.imp (ps_asg (pe_tup ha) (pg_tup c.calm g1 g2 (findNone g3)) (by rfl) (swp_ok hw)) fun D σ H h => ?_
    refine tR.mono (tS_parT h) fun vs H1 ⟨hl, q⟩ => ?_
    refine ⟨by rw [hl, ← lim_line]; have := of_decide_eq_true h3; unfold LIM; omega, fun a hq => ⟨a, vs, rfl, .inl (.inl upd_same), hl, gSet_of is vs σ _ _ hl (q a hq)⟩⟩
  · rename_i ns hw
    rw [← c.hsc] at hw
    rw [Bool.and_eq_true, decide_eq_true_eq] at h3
    obtain ⟨e, h3⟩ := h3
    subst e
    unfold par2 at h3
    split at h3
    · rename_i i j x px y py a b
      simp only [Bool.and_eq_true, decide_eq_true_eq] at h3
      obtain ⟨⟨q1, q2⟩, q3⟩ := h3
      simp only [chkNs, chkN, Bool.and_eq_true] at h1
      rw [← c.hsc] at q2 q3
      refine PS.imp (ps_par c.calm c.nd (nmAt_of c.toCtxOk h1.1.1) (nmAt_of c.toCtxOk h1.2.1.1) q1 q2 q3 ha (swp_ok hw)) fun D σ H h => ?_
      refine tR.mono (tS_par h) fun vs H1 ⟨hl, q⟩ => ?_
      match vs, hl with
      | [v, w], _ => exact ⟨v, w, rfl, q⟩
    · rename_i i j l x px y py z pz a b d
      simp only [Bool.and_eq_true, decide_eq_true_eq] at h3
      obtain ⟨⟨⟨⟨⟨q1, q2⟩, q3⟩, q4⟩, q5⟩, q6⟩ := h3
      simp only [chkNs, chkN, Bool.and_eq_true] at h1
      rw [← c.hsc] at q4 q5 q6
      refine PS.imp (ps_par3 c.calm c.nd (nmAt_of c.toCtxOk h1.1.1) (nmAt_of c.toCtxOk h1.2.1.1) (nmAt_of c.toCtxOk h1.2.2.1.1) q1 q2 q3 q4 q5 q6 ha (swp_ok hw)) fun D σ H h => ?_
      refine tR.mono (tS_par h) fun vs H1 ⟨hl, q⟩ => ?_
      match vs, hl with
      | [u, v, w], _ => exact ⟨u, v, w, rfl, q⟩
    · cases h3
  · cases h3
theorem pair_lookup {R : V → PyData → Prop} : ∀ {fs : List (Str × V)} {gs : List (Str × PyData)} {f : Str} {d : PyData}, PySem.Paired (fun (a : Str × V) (b : Str × PyData) => a.1 = b.1 ∧ R a.2 b.2) fs gs → gs.lookup f = some d → ∃ v, fs.lookup f = some v ∧ R v d
  | _, _, _, _, .nil, h => nomatch h
  | (a, v) :: fs, (b, e) :: gs, f, d, .cons ⟨h1, h2⟩ t, h => by
    have h1 : a = b := h1
    subst h1
    simp only [List.lookup_cons] at h ⊢
    split at h
    · cases h; exact ⟨v, rfl, h2⟩
    · exact pair_lookup t h
theorem exc_fld {x : Exn} {cls : Value} {d : Option Addr} {H : Hp} {f : Str} {e : PyData} {C : Addr} (ex : ExcAt p x cls d H) (hm : p.mg x.cls = some (.ref C)) (h : x.fs.lookup f = some e) : cls = .ref C ∧ ∃ (dd : Addr) (fs : List (Str × V)) (v : V), d = some dd ∧ H dd = some (.xd fs) ∧ fs.lookup f = some v ∧ Rz p.K (fun _ => none) v e := by
  obtain ⟨C', h1, h2, h3⟩ := ex
  rw [hm] at h1
  cases h1
  refine ⟨h2, ?_⟩
  rcases h3 with ⟨z, _⟩ | ⟨dx, fs, e1, e2, e3⟩
  · rw [z] at h; cases h
  · obtain ⟨v, hv, r⟩ := pair_lookup e3 h
    exact ⟨dx, fs, v, e1, e2, hv, r⟩
theorem psBad {st : Stmt} : PS X st (tS p Wx fx fun _ => .bad) := ⟨fun _ _ _ _ _ _ h => by obtain ⟨_, _, _, _, h⟩ := h; exact h.elim⟩
theorem hd_shape {h : Hd} {i : Nat} {on : Option Str} {hb : List Stmt} (c : StOk Γ N sc k X p) (hi : h.slot = some i) (hc : chkHd Γ N sc h on hb = true) : ∃ n, on = some n ∧ X.N[i]? = some n ∧ X.env.kindOf n = some .local ∧ ∃ b0 r, hb = b0 :: r := by
  cases h with
  | k e => cases hi
  | fld j f =>
    cases hi
    dsimp only [chkHd] at hc
    split at hc
    · simp only [Bool.and_eq_true, decide_eq_true_eq] at hc
      exact ⟨_, rfl, nmAt_of c.toCtxOk hc.1.1.2, by unfold Env.kindOf; rw [c.hsc]; exact hc.1.2, _, _, rfl⟩
    · cases hc
  | fldIf j f z a b =>
    cases hi
    dsimp only [chkHd] at hc
    split at hc
    · simp only [Bool.and_eq_true, decide_eq_true_eq] at hc
      exact ⟨_, rfl, nmAt_of c.toCtxOk hc.1.1.1.1.1.1.2, by unfold Env.kindOf; rw [c.hsc]; exact hc.1.1.1.1.1.2, _, _, rfl⟩
    · cases hc
/-- the suite of a clause -/
theorem snd_hdK {e : Ex} {on : Option Str} {hb : List Stmt} {a : Addr} {oe : Obj} {cls : Value} {d : Option Addr} {pn : List (Addr × Obj)} {cn : Str} (h : chkHd Γ N sc (.k e) on hb = true) :
    on = none ∧ ∃ b0 r, hb = b0 :: r ∧ PSs (X.suite a pn) (b0 :: r) (tHd p fx cn (dHd Γ (.k e)) a cls d) := by
  dsimp only [chkHd] at h
  split at h
  · rw [Bool.and_eq_true] at h
    refine ⟨rfl, _, _, rfl, pss_one (PS.imp (ps_ret (sndCstT (p := p) (Wx := wNo) e _ h.1 h.2)) fun D σ H ⟨x, _, _, ε, G, fps, r, q⟩ => tS_ret (fx := fx) ⟨ε, G, fps, r, ?_⟩)⟩
    unfold dHd at q
    dsimp only at q
    unfold fRet
    cases z : (den Γ e).v ε with
    | ok y => rw [z] at q; exact q
    | exc _ _ => rw [z] at q; exact q.elim
    | bad => rw [z] at q; exact q.elim
  · cases h
theorem snd_hdF {i : Nat} {f : Str} {on : Option Str} {hb : List Stmt} {a C : Addr} {oe : Obj} {cls : Value} {d : Option Addr} {pn : List (Addr × Obj)} {cn : Str} (c : StOk Γ N sc k X p) (hm : p.mg cn = some (.ref C)) (T : XfC X.K C) (hno : PySem.W.findIn X.K (.ref C) "line" = some none)
    (hz : Zc cls d oe) (hf : ∃ vs, oe.data = .fields vs) (h : chkHd Γ N sc (.fld i f) on hb = true) :
    ∃ n, on = some n ∧ X.N[i]? = some n ∧ X.env.kindOf n = some .local ∧ ∃ b0 r, hb = b0 :: r ∧
      PSs (X.suite a ((a, oe) :: pn)) (b0 :: r) (fun D σ H => σ[i]? = some (some (.ref a)) ∧ tHd p fx cn (dHd Γ (.fld i f)) a cls d D σ H) := by
  dsimp only [chkHd] at h
  split at h
  · rename_i n x xp f' ap rp
    simp only [Bool.and_eq_true, decide_eq_true_eq, beq_iff_eq] at h
    obtain ⟨⟨⟨⟨⟨e1, e2⟩, e3⟩, h1⟩, h2⟩, h3⟩ := h
    subst e1 e2 e3
    have hi := nmAt_of c.toCtxOk h1
    have hl : X.env.kindOf x = some .local := by unfold Env.kindOf; rw [c.hsc]; exact h2
    obtain ⟨d1, d2, _⟩ := okN_of h3
    refine ⟨x, rfl, hi, hl, _, _, rfl, pss_one (PS.imp (ps_ret (pe_xf (pos := ap) T hno hz hf (pe_var (X := X.suite a ((a, oe) :: pn)) (pos := xp) hi (.inl hl) d1 d2))) fun D σ H ⟨hσ, y, hy, ex, ε, G, fps, r, q⟩ => ?_)⟩
    unfold dHd at q
    dsimp only at q
    cases z : y.fs.lookup ("line" : Str) with
    | none => rw [z] at q; exact q.elim
    | some e =>
      rw [z] at q
      rw [← hy] at hm
      obtain ⟨q1, dd, fs, v, q2, q3, q4, q5⟩ := exc_fld ex hm z
      exact ⟨_, hσ, rfl, q1, dd, fs, v, q2, q3, q4, q v σ G H fps [] r ⟨rfl, q5.same fun _ _ z => by cases z⟩ Tr.refl Fixed.refl⟩
  · cases h
theorem snd_hdI {i : Nat} {f : Str} {z : Int} {ea eb : Ex} {on : Option Str} {hb : List Stmt} {a C : Addr} {oe : Obj} {cls : Value} {d : Option Addr} {pn : List (Addr × Obj)} {cn : Str} (c : StOk Γ N sc k X p) (hm : p.mg cn = some (.ref C)) (T : XfC X.K C) (hno : PySem.W.findIn X.K (.ref C) "line" = some none)
    (hz : Zc cls d oe) (hf : ∃ vs, oe.data = .fields vs) (h : chkHd Γ N sc (.fldIf i f z ea eb) on hb = true) :
    ∃ n, on = some n ∧ X.N[i]? = some n ∧ X.env.kindOf n = some .local ∧ ∃ b0 r, hb = b0 :: r ∧
      PSs (X.suite a ((a, oe) :: pn)) (b0 :: r) (fun D σ H => σ[i]? = some (some (.ref a)) ∧ tHd p fx cn (dHd Γ (.fldIf i f z ea eb)) a cls d D σ H) := by
  dsimp only [chkHd] at h
  split at h
  · rename_i n x xp f' ap c' kk cp cmp va vb ip rp
    simp only [Bool.and_eq_true, decide_eq_true_eq, beq_iff_eq] at h
    obtain ⟨⟨⟨⟨⟨⟨⟨⟨⟨⟨e1, e2⟩, e3⟩, e4⟩, h1⟩, h2⟩, h3⟩, k1⟩, k2⟩, k3⟩, k4⟩ := h
    subst e1 e2 e3 e4
    have hi := nmAt_of c.toCtxOk h1
    have hl : X.env.kindOf x = some .local := by unfold Env.kindOf; rw [c.hsc]; exact h2
    obtain ⟨d1, d2, _⟩ := okN_of h3
    have pf := pe_xf (pos := ap) T hno hz hf (pe_var (X := X.suite a ((a, oe) :: pn)) (pos := xp) hi (.inl hl) d1 d2)
    refine ⟨x, rfl, hi, hl, _, _, rfl, pss_one (PS.imp (ps_ret (pe_ifExp (pt_cmp (pc_eqI pf pe_int)) (sndCstT (p := p) (Wx := wNo) ea _ k1 k3) (sndCstT (p := p) (Wx := wNo) eb _ k2 k4))) fun D σ H ⟨hσ, y, hy, ex, ε, G, fps, r, q⟩ => ?_)⟩
    unfold dHd at q
    dsimp only at q
    cases z' : y.fs.lookup ("line" : Str) with
    | none => rw [z'] at q; exact q.elim
    | some e =>
      rw [z'] at q
      cases e with
      | int n =>
        dsimp only at q
        rw [← hy] at hm
        obtain ⟨q1, dd, fs, v, q2, q3, q4, q5⟩ := exc_fld ex hm z'
        cases q5
        refine ⟨_, hσ, rfl, q1, dd, fs, _, q2, q3, q4, n, z, rfl, rfl, _, rfl, ?_⟩
        have fin : ∀ e' : Ex, AfterS p wNo fx σ G H fps (match (den Γ e').v ε with | .ok q => .ok (.ret q.1, q.2) | _ => .bad) D → tE p wNo (den Γ e').m (den Γ e').v σ H D.rt := fun e' q => tS_ret (fx := fx) ⟨ε, G, fps, r, by
          unfold fRet
          cases w : (den Γ e').v ε with
          | ok y => rw [w] at q; exact q
          | exc _ _ => rw [w] at q; exact q.elim
          | bad => rw [w] at q; exact q.elim⟩
        show (if decide (n = z) = true then tE p wNo (den Γ ea).m (den Γ ea).v σ H D.rt else tE p wNo (den Γ eb).m (den Γ eb).v σ H D.rt)
        by_cases hn : n = z
        · rw [if_pos hn] at q
          rw [decide_eq_true hn, if_pos rfl]
          exact fin ea q
        · rw [if_neg hn] at q
          rw [decide_eq_false hn, if_neg Bool.false_ne_true]
          exact fin eb q
      | _ => exact q.elim
  · cases h
end
mutual
theorem sndSt {Γ : Gm} {N : List Str} {sc : Sc} {k : Nat} {p : Pm} {fx : List Nat} (hs : SrtR p) : ∀ (s : Sm) {X : Cx} {Wx : WX} {st : Stmt}, StOk Γ N sc k X p → Takes X Wx → chkSt Γ N sc s st = true → PS X st (tS p Wx fx (dS Γ fx s))
  | .asg i e, X, Wx, st, c, tk, h => by
    unfold chkSt at h
    split at h
    · simp only [Bool.and_eq_true, Bool.not_eq_true'] at h
      exact snd_asg hs c tk h.1.1 h.1.2 h.2
    · cases h
  | .par is es, X, Wx, st, c, tk, h => by
    unfold chkSt at h
    split at h
    · simp only [Bool.and_eq_true] at h
      exact snd_par hs c tk h.1.1 h.1.2 h.2
    · cases h
  | .asgT is e, X, Wx, st, c, tk, h => by
    unfold chkSt at h
    split at h
    · rename_i ts k1 p1 v pos
      simp only [Bool.and_eq_true] at h
      obtain ⟨g1, g2, g3⟩ := pg_ns c.hN c.nd (locS_st c) h.1.1
      refine PS.imp (ps_asg (snd hs e c.toCtxOk tk h.1.2).v (pg_tup c.calm g1 g2 (findNone g3)) ?_ ?_) fun D σ H q => by rw [c.hK]; exact tS_asgT q
      · cases v <;> rfl
      · cases v with
        | Tuple _ _ _ => exact absurd h.2 (by simp [isTup])
        | _ => rfl
    · cases h
  | .app i e, X, Wx, st, c, tk, h => by
    unfold chkSt at h
    split at h
    · rename_i x xp nm apos y pos epos
      simp only [Bool.and_eq_true] at h
      obtain ⟨⟨⟨e1, e2⟩, h1⟩, h2⟩ := h
      have e1 := beq_iff_eq.mp e1
      subst e1
      have pl := chk_plain e _ h2
      have hv := tvar_of (pos := xp) c.toCtxOk (by simp only [Bool.and_eq_true]; exact h1)
      refine PS.imp (ps_expr (pe_bm PySem.F.plainAttrs_list PySem.F.slot_list_append PySem.F.type_list_append mt_append hv (pa_cons (snd hs e c.toCtxOk tk h2).v pa_nil (pl.st _ _)) (by rfl) (by rw [pl.st]; rfl) e2 (pl.st _ _) (by rfl))) fun D σ H q => by rw [c.hK]; exact tS_app q
    · cases h
  | .setL i j e, X, Wx, st, c, tk, h => by
    unfold chkSt at h
    split at h
    · rename_i x xp jx sp v pos
      simp only [Bool.and_eq_true] at h
      obtain ⟨⟨h1, h2⟩, h3⟩ := h
      have hv := tvar_of (pos := xp) c.toCtxOk (by simp only [Bool.and_eq_true]; exact h1)
      refine PS.imp (ps_asg (snd hs e c.toCtxOk tk h3).v (pg_sub hv (snd hs j c.toCtxOk tk h2).b set_list (chk_asgS h2)) ?_ (by cases v <;> rfl) (by rfl)) fun D σ H q => tS_setL q
      cases v <;> rfl
    · cases h
  | .expr e, X, Wx, st, c, tk, h => by
    unfold chkSt at h
    split at h
    · rename_i v pos
      simp only [Bool.and_eq_true] at h
      refine PS.imp (ps_expr (snd hs e c.toCtxOk tk h.2).v (swF h.2 fun a b d g z => ?_)) fun D σ H q => tS_expr q
      rw [z] at h
      cases h.1
    · cases h
  | .ite z a b, X, Wx, st, c, tk, h => by
    unfold chkSt at h
    split at h
    · simp only [Bool.and_eq_true] at h
      exact PS.imp (ps_if (snd hs z c.toCtxOk tk h.1.1).t (sndSs hs a c tk h.1.2) (sndSs hs b c tk h.2)) fun D σ H q => tS_if q
    · cases h
  | .whl z b, X, Wx, st, c, tk, h => by
    unfold chkSt at h
    split at h
    · simp only [Bool.and_eq_true] at h
      exact PS.imp (ps_while c.pass (snd hs z c.toCtxOk tk h.1).t (sndSs hs b c tk h.2)) fun D σ H q => tS_while q
    · cases h
  | .forr tg src b, X, Wx, st, c, tk, h => by
    unfold chkSt at h
    split at h
    · simp only [Bool.and_eq_true] at h
      exact PS.imp (ps_for c.pass c.calm (sndR hs src c.toCtxOk tk h.1.2) (pg_tg c.calm c.hN c.nd (locS_st c) h.1.1) (sndSs hs b c tk h.2) (fun x => chkR_fo h.1.2 _ x)) fun D σ H q => tS_for (by rw [c.hK]; exact tgt_ok tg) q
    · cases h
  | .ret e, X, Wx, st, c, tk, h => by
    unfold chkSt at h
    split at h
    · exact PS.imp (ps_ret (snd hs e c.toCtxOk tk h).v) fun D σ H q => tS_ret q
    · cases h
  | .retV i, X, Wx, st, c, tk, h => by
    unfold chkSt at h
    split at h
    · exact PS.imp (ps_ret (tvar_of c.toCtxOk h)) fun D σ H q => tS_retV q
    · cases h
  | .retN, X, Wx, st, c, tk, h => by
    unfold chkSt at h
    split at h
    · exact PS.imp ps_retN fun D σ H q => tS_retN q
    · cases h
  | .brk, X, Wx, st, c, tk, h => by
    unfold chkSt at h
    split at h
    · exact PS.imp ps_break fun D σ H q => tS_brk q
    · cases h
  | .cont, X, Wx, st, c, tk, h => by
    unfold chkSt at h
    split at h
    · exact PS.imp ps_continue fun D σ H q => tS_cont q
    · cases h
  | .pass, X, Wx, st, c, tk, h => by
    unfold chkSt at h
    split at h
    · exact PS.imp ps_pass fun D σ H q => tS_next q
    · cases h
  | .rais j es, X, Wx, st, c, tk, h => by
    unfold chkSt at h
    split at h
    · rename_i x xp y r cp rp q hq
      simp only [Bool.and_eq_true] at h
      obtain ⟨⟨⟨e, h1⟩, h2⟩, h3⟩ := h
      have e := beq_iff_eq.mp e
      subst e
      have st := chkS_pl h3
      have M := (c.exs j q hq).made X.pn X.xe Wx _ _ y r xp cp (gl_of c.toCtxOk h1) (okN_of h2).1 ((st _ List.mem_cons_self).st _ _) (starEach_any fun e he r => (st e (List.mem_cons_of_mem _ he)).st _ r) (sndS hs es c.toCtxOk tk h3)
      refine PS.imp (ps_raise c.calm tk M) fun D σ H q' => ?_
      unfold dS at q'
      rw [hq] at q'
      exact tS_rais q'
    · cases h
  | .tryK b j hd, X, Wx, st, c, tk, h => by
    unfold chkSt at h
    split at h
    · rename_i bx x xp on hb hp pos q hq
      simp only [Bool.and_eq_true] at h
      obtain ⟨⟨⟨⟨e, h1⟩, h2⟩, h3⟩, h4⟩ := h
      have e := beq_iff_eq.mp e
      subst e
      obtain ⟨C, m1, m2, m3, m4⟩ := (c.exs j q hq).at'
      have nm : Names X q.1 (.ref C) := ⟨gl_of c.toCtxOk h1, (okN_of h2).1, .inl (by rw [c.hmg]; exact m1)⟩
      have body := fun (W : WX) pn xe (t : Takes (X.tr pn xe) W) (pw : PassesOwn (model X.prog X.w) X.A X.env xe) => sndSs hs b (c.tr pn xe pw) t h3 (fx := fx)
      unfold dS
      rw [hq]
      dsimp only
      by_cases hfx' : hd.slot.all (fun i => !fx.contains i) = true
      case neg => rw [if_neg hfx']; exact psBad
      rw [if_pos hfx']
      cases hd with
      | k e =>
        have H := snd_hdK (X := X) (p := p) (fx := fx) (cn := q.1) (a := 0) (oe := default) (cls := .none) (d := none) (pn := []) h4
        obtain ⟨e1, b0, r, e2, _⟩ := H
        subst e1 e2
        refine PS.imp (ps_try_only (c := .ref C) (tb := fun W => tS p W fx (dSs Γ fx b)) (ts := tHd p fx q.1 (dHd Γ (.k e))) (Wout := wNo) c.stk c.fr nm takes_no body fun a oe cls d pn _ _ => ?_) fun D σ H q' => ?_
        · obtain ⟨_, b0', r', e2, P⟩ := snd_hdK (X := X) (p := p) (fx := fx) (cn := q.1) (a := a) (oe := oe) (cls := cls) (d := d) (pn := (a, oe) :: pn) h4
          cases e2
          exact P
        · rw [c.hK]
          exact tS_try m1 m2 q'
      | fld i f =>
        obtain ⟨n, e1, hi, hl, b0, r, e2⟩ := hd_shape c (i := i) rfl h4
        subst e1 e2
        have hfx : i ∉ fx := fun z => by simp [Hd.slot, z] at hfx'
        refine PS.imp (ps_try_as (c := .ref C) (tb := fun W => tS p W fx (dSs Γ fx b)) (ts := fun a cls d D' σ' H' => σ'[i]? = some (some (.ref a)) ∧ tHd p fx q.1 (dHd Γ (.fld i f)) a cls d D' σ' H') (Wout := wNo) c.stk c.fr c.nd hi hl nm takes_no body fun a oe cls d pn hz hf => ?_) fun D σ H q' => ?_
        · obtain ⟨_, _, _, _, b0', r', e2, P⟩ := snd_hdF (X := X) (fx := fx) (a := a) (oe := oe) (cls := cls) (d := d) (pn := pn) (cn := q.1) c m1 m3 m4 hz hf h4
          cases e2
          exact P
        · rw [c.hK]
          exact tS_tryAs hfx m1 m2 q'
      | fldIf i f z ea eb =>
        obtain ⟨n, e1, hi, hl, b0, r, e2⟩ := hd_shape c (i := i) rfl h4
        subst e1 e2
        have hfx : i ∉ fx := fun z => by simp [Hd.slot, z] at hfx'
        refine PS.imp (ps_try_as (c := .ref C) (tb := fun W => tS p W fx (dSs Γ fx b)) (ts := fun a cls d D' σ' H' => σ'[i]? = some (some (.ref a)) ∧ tHd p fx q.1 (dHd Γ (.fldIf i f z ea eb)) a cls d D' σ' H') (Wout := wNo) c.stk c.fr c.nd hi hl nm takes_no body fun a oe cls d pn hz hf => ?_) fun D σ H q' => ?_
        · obtain ⟨_, _, _, _, b0', r', e2, P⟩ := snd_hdI (X := X) (fx := fx) (a := a) (oe := oe) (cls := cls) (d := d) (pn := pn) (cn := q.1) c m1 m3 m4 hz hf h4
          cases e2
          exact P
        · rw [c.hK]
          exact tS_tryAs hfx m1 m2 q'
    · cases h
theorem sndSs {Γ : Gm} {N : List Str} {sc : Sc} {k : Nat} {p : Pm} {fx : List Nat} (hs : SrtR p) : ∀ (s : Sms) {X : Cx} {Wx : WX} {st : List Stmt}, StOk Γ N sc k X p → Takes X Wx → chkSs Γ N sc s st = true → PSs X st (tS p Wx fx (dSs Γ fx s))
  | .nil, X, Wx, st, c, tk, h => by
    unfold chkSs at h
    split at h
    · exact PSs.imp pss_nil fun D σ H q => tS_next q
    · cases h
  | .cons s r, X, Wx, st, c, tk, h => by
    unfold chkSs at h
    split at h
    · rw [Bool.and_eq_true] at h
      exact PSs.imp (pss_cons (sndSt hs s c tk h.1) (sndSs hs r c tk h.2)) fun D σ H q => tS_seq q
    · cases h
end
end
end Mb
end

section
set_option Elab.async false
set_option linter.all false
set_option maxRecDepth 100000
set_option maxHeartbeats 2000000
/-! Mb28: defs of the text, the law's end -/
namespace Mb
noncomputable section
open PySem PySem.Spec PyProof.Rows L2

/-- the module's facts for a def's body -/
structure GmOk (P : Program) (w : World) (K : PySem.W.Frag) (mg : Str → Option Value) (base : Heap) (k : Nat) (Γ : Gm) : Prop where
  fns : ∀ (j : Nat) (q : Str × FD), Γ.fns[j]? = some q → ∃ f fd ps, FnG P w K mg base k f fd ps (spF ⟨K, mg⟩ q.2) ∧ mg q.1 = some (.ref f) ∧ PySem.W.keepIn K (.ref f) = true ∧ Binds K fd ps []
  blt : ∀ x, Γ.blt.contains x = true → mg x = none
  glb : ∀ (j : Nat) (q : Str × PyData), Γ.glb[j]? = some q → ∃ u v, mg q.1 = some u ∧ RelV v u ∧ ∀ G, Rz K G v q.2
  exs : ∀ (X : Cx) (j : Nat) (q : Str × (List Ent → Option Exn)), X.prog = P → X.w = w → X.K = K → X.mg = mg → X.base = base → X.calm = true → X.env.scope.kind = .function → Room k X.A → X.A.guards = some [] → Γ.exs[j]? = some q → ExOk X ⟨K, mg⟩ q

theorem fnG_d {P : Program} {w : World} {K : PySem.W.Frag} {mg : Str → Option Value} {base : Heap} {k : Nat} {f : Addr} {x qual : Str} {params : Arguments} {body : List Stmt} {scope : Scope} {fd : FuncData} {N ps : List Str} {fx : List Nat} {Γ : Gm} {sms : Sms}
    (D : FunD K x qual params body scope [] [] f fd) (S : FnScope N ps scope) (hs : SrtR ⟨K, mg⟩) (g : GmOk P w K mg base k Γ) (hc : chkSs Γ N ⟨scope, true⟩ sms body = true) :
    FnG P w K mg base (k + 1) f fd ps (spF ⟨K, mg⟩ (runF N.length ps.length fx (dSs Γ fx sms))) := by
  obtain ⟨oc, od, dV, kV, doc, pm, an, cdv, ct, osl, rfl, lk, hcd, _, _⟩ := D.ex
  refine fnG_of lk hcd S fun A outer s H E hr hg => ?_
  refine sndSs hs sms ⟨⟨⟨rfl, rfl, rfl, S.nd, hr.units⟩, rfl, rfl, (fun _ => ⟨rfl, rfl⟩), ?_, hr, g.fns, g.blt, g.glb⟩, fun _ => rfl, passes_of rfl, rfl, rfl, fun j q e => g.exs _ j q rfl rfl rfl rfl rfl rfl S.kind hr ?_ e⟩ (takes_of rfl rfl rfl rfl) hc
  all_goals exact hg
end
end Mb
end

section
set_option Elab.async false
set_option linter.all false
set_option maxRecDepth 100000
set_option maxHeartbeats 2000000
/-! Mb29: the law's end -/
namespace Mb
noncomputable section
open PySem PySem.Spec PyProof.Rows L2

/-- how the law's call ends -/
abbrev LawEnd (s : Shared) : Result → Shared → Prop := fun r t => r = .ok (.ret (.bool true)) ∧ OldK s.heap t.heap ∧ t.os = s.os ∧ AllBare t.gens
section
variable {P : Program} {w : World} {K : PySem.W.Frag} {mg mb : Str → Option Value} {k : Nat} {fa a : Addr} {fd : FuncData} {x : Str} {sp : Sp} {s : Shared} {vs : List Value} {ns : List Int}
/-- from an abstract heap that tracks at most the script -/
theorem law_from {T : Hp} (KX : K.In s.heap) (gl : s.heap.Ns mainGlobals mg) (gb : s.heap.Ns builtinsNs mb) (bb : ∀ y : Str, y ≠ "__name__" → mb y = bootBuiltins y) (nl : s.heap.NoLimit) (ge : s.gens = #[])
    (ha : s.heap.get? a = some { cls := .type "list", data := .seq vs.toArray }) (room : Room k callerA)
    (F : ∀ base : Heap, K.In base → base.Ns mainGlobals mg → FnG P w K mg base k fa fd [x] sp) (bind : ∀ (t : Shared) (u : Value), BindsTo t fd ⟨[u], []⟩ [(x, u)])
    (pr : sp [.ref a] T (fun v _ => v = .bl true) fun _ _ _ => False) (only : ∀ b, T b = none ∨ ∃ o ys, T b = some (.frz o (.lst ys))) (ok : HOk P w T s.heap) (at1 : ∀ b, T b ≠ none → b = a ∧ K.lookup a = none) :
    codeAny (model P w) callerA (.call (.ref fa) ⟨[.ref a], []⟩) (LawEnd s) s := by
  have dicts : ∀ {b : Addr} {o : Obj}, s.heap.get? b = some o → (∀ its n, o.data ≠ .seq its n) → T b = none := fun {b o} e nd => by
    rcases only b with z | ⟨_, _, z⟩
    · exact z
    · have := (at1 b (by rw [z]; exact fun q => nomatch q)).1
      subst this
      rw [ha] at e
      cases e
      exact absurd rfl (nd _ _)
  have stays : ∀ {b : Addr} {m : Str → Option Value}, s.heap.Ns b m → (hidT s.heap T).Ns b m := fun {b m} ⟨o, es, ep, e, d, r⟩ => ⟨o, es, ep, hidT_get e (dicts e fun its n z => by rw [d] at z; cases z), d, r⟩
  have kin : K.In (hidT s.heap T) := fun b o e => hidT_get (KX b o e) (by
    cases q : T b with
    | none => rfl
    | some u =>
      obtain ⟨e1, e2⟩ := at1 b (by rw [q]; exact fun z => nomatch z)
      rw [e1, e2] at e
      cases e)
  obtain ⟨mc, l1, l2⟩ := nl
  have M : Mod K mg (hidT s.heap T) := ⟨kin, stays gl, ⟨mb, stays gb, bb⟩, ⟨mc, stays l1, l2⟩⟩
  have en : Env0 P w K mg (hidT s.heap T) callerA [] s T := ⟨rfl, M, fun b o e => of_hidT e, Nat.le_of_eq (hidT_size _ _), trivial, fun _ z => (nomatch z), ok, .of_eq ge⟩
  have R := (F _ kin (stays gl)).run callerA [] s T ⟨[.ref a], []⟩ [.ref a] [.ref a] _ _ room rfl en (bind s (.ref a)) (.cons rfl .nil) pr
  refine codeAny_mono R fun r t h => ?_
  match r, h with
  | .error e, ⟨_, _, _, _, _, _, _, _, _, _, _, _, z⟩ => exact z.elim
  | .ok (.ret u), ⟨v, T', os, bare, un, ok', rel, q⟩ =>
    have q : v = .bl true := q
    subst q
    have rel : u = Value.bool true := rel
    subst rel
    refine ⟨rfl, OldK.of_keep fun b o e => ?_, os, bare⟩
    rcases only b with z | ⟨ob, ys, z⟩
    · exact un.keep b o e z (fun y => nomatch y) (fun y => nomatch y)
    · have z2 := un.frzs b ob _ z
      obtain ⟨e1, _⟩ := ok b _ z
      obtain ⟨e2, _⟩ := ok' b _ z2
      rw [e] at e1
      cases e1
      exact e2
theorem law_callG (KX : K.In s.heap) (noL : ∀ b o, K.lookup b = some o → o.cls ≠ .type "list") (gl : s.heap.Ns mainGlobals mg) (gb : s.heap.Ns builtinsNs mb) (bb : ∀ y : Str, y ≠ "__name__" → mb y = bootBuiltins y) (nl : s.heap.NoLimit) (ge : s.gens = #[])
    (ha : s.heap.get? a = some { cls := .type "list", data := .seq vs.toArray }) (hi : IntsAre vs ns) (hl : ns.length ≤ sizeLine) (room : Room k callerA)
    (F : ∀ base : Heap, K.In base → base.Ns mainGlobals mg → FnG P w K mg base k fa fd [x] sp) (bind : ∀ (t : Shared) (u : Value), BindsTo t fd ⟨[u], []⟩ [(x, u)])
    (pr : ∀ T : Hp, Rd T a (.lst (ns.map V.int)) → sp [.ref a] T (fun v _ => v = .bl true) fun _ _ _ => False) :
    codeAny (model P w) callerA (.call (.ref fa) ⟨[.ref a], []⟩) (LawEnd s) s := by
  have rv := vals_ints hi
  have hk : K.lookup a = none := by
    cases q : K.lookup a with
    | none => rfl
    | some o =>
      have e := KX a o q
      rw [ha] at e
      cases e
      exact absurd rfl (noL a _ q)
  let o : Obj := { cls := .type "list", data := .seq vs.toArray }
  let T : Hp := upd (fun _ => none) a (.frz o (.lst (ns.map V.int)))
  have Ta : T a = some (.frz o (.lst (ns.map V.int))) := upd_same
  have Tn : ∀ b, b ≠ a → T b = none := fun b z => upd_ne z
  refine law_from (T := T) KX gl gb bb nl ge ha room F bind (pr T (.inr ⟨o, Ta⟩)) (fun b => ?_) (fun b u z => ?_) fun b z => ⟨?_, hk⟩
  · by_cases q : b = a
    · rw [q]; exact .inr ⟨o, _, Ta⟩
    · exact .inl (Tn b q)
  · by_cases q : b = a
    · subst q
      rw [Ta] at z
      cases z
      exact ⟨ha, by rw [List.length_map]; exact hl, vs, _, rv, ha⟩
    · rw [Tn b q] at z; cases z
  · by_cases q : b = a
    · exact q
    · exact absurd (Tn b q) z
end
theorem spF_law {K : PySem.W.Frag} {mg : Str → Option Value} {FF : FD} {ns : List Int} {ps : List (Option Ent)} {T : Hp} {a : Addr} (h : FF [(0, .list (ns.map PyData.int))] = .ok (0, .bool true) ps) (hS : Rd T a (.lst (ns.map V.int))) :
    spF ⟨K, mg⟩ FF [.ref a] T (fun v _ => v = .bl true) fun _ _ _ => False := by
  refine ⟨[(0, .list (ns.map PyData.int))], T, fun _ => [], ⟨rfl, Same.refl T, fun b w => ?_, fun _ => .nil, fun _ _ _ z => (nomatch z), .nil, fun _ _ z => (nomatch z), fun i e he => ?_⟩, fun _ _ => rfl, ?_⟩
  · rcases w with w | ⟨_, w⟩ <;> cases w
  · match i, he with
    | 0, he =>
      cases he
      exact ⟨.ref a, rfl, rfl, .lst hS (map_rz PyData.int V.int (fun i => .int i) ns)⟩
  · rw [h]
    intro v G' H' fps' fp _ o _ _
    cases o.2
    rfl
/-- the goal of the head: F gives the written part, the def, what it computes -/
theorem walkG {l : PySem.W.OpenLaw} {n k : Nat} {q : Program} {loose : List Str} {XP : (Str → Option Value) → Heap → Prop} {YP : World → Heap → Prop} {d : DefRec} {x : Str} (hn : l.most = some n) (hn2 : n ≤ sizeLine) (hdf : d.params.defaults = []) (hr : Room k callerA)
    (F : ∀ (w : World) (mg : Str → Option Value) (fa : Addr) (h : Heap), YP w h → h.Ns mainGlobals mg → mg d.name = some (.ref fa) →
      ∃ (K : PySem.W.Frag) (fd : FuncData) (FF : FD), K.In h ∧ (∀ b o, K.lookup b = some o → o.cls ≠ .type "list") ∧ (∀ (s : Shared) (u : Value), BindsTo s fd ⟨[u], []⟩ [(x, u)]) ∧ (∀ ns : List Int, ns.length ≤ n → ∃ ps, FF [(0, .list (ns.map PyData.int))] = .ok (0, .bool true) ps) ∧
        ∀ base : Heap, K.In base → base.Ns mainGlobals mg → FnG l.prog w K mg base k fa fd [x] (spF ⟨K, mg⟩ FF)) :
    PySem.W.WalkO q loose XP YP l.row.toRowW d [] (fun f vs => PySem.call f vs) := by
  refine Att.attach_call hn hdf fun w s0 s mg mb fa o pm cd doc a vs ns G Y ho hd hcd hmg hobj hints hlen hg => ?_
  obtain ⟨K, fd, FF, KX, noL, hb, hv, hF⟩ := F w mg fa _ Y G.T.g hmg
  obtain ⟨ps, hv⟩ := hv ns hlen
  refine law_callG KX noL G.T.g G.T.b G.T.builtins G.T.nolimit hg hobj hints (Nat.le_trans hlen hn2) hr hF hb fun T hS => spF_law hv hS

/-! ### the head's facts -/
def notL (K : PySem.W.Frag) : Bool := K.all fun q => decide (q.2.cls ≠ .type "list")
theorem notL_ok {K : PySem.W.Frag} (h : notL K = true) (b : Addr) (o : Obj) (e : K.lookup b = some o) : o.cls ≠ .type "list" := by
  have m : ∀ {l : PySem.W.Frag}, l.lookup b = some o → (b, o) ∈ l := by
    intro l
    induction l with
    | nil => intro z; cases z
    | cons q r ih =>
      intro z
      obtain ⟨b', o'⟩ := q
      rw [List.lookup_cons] at z
      split at z
      · rename_i e'
        cases z
        rw [beq_iff_eq.mp e']
        exact List.mem_cons_self
      · exact List.mem_cons_of_mem _ (ih z)
  exact of_decide_eq_true (List.all_eq_true.mp h _ (m e))
def obsM (n : Nat) (fa : List He.Fa) (fn : List He.DefD) (ex : PySem.W.Frag → Bool) (g : Addr → Option Obj) : He.AlD :=
  ((He.obsD fa fn (He.frG g (He.asD g n))).1 && ex (He.frG g (He.asD g n)), (He.obsD fa fn (He.frG g (He.asD g n))).2)
def SaysM (fa : List He.Fa) (fn : List He.DefD) (ex : PySem.W.Frag → Bool) (K : PySem.W.Frag) : Prop := He.SaysD fa fn K ∧ ex K = true
def hookM (n : Nat) (fa : List He.Fa) (fn : List He.DefD) (ex : PySem.W.Frag → Bool) : PySem.W.Hook where
  α := He.AlD
  obs := fun s => obsM n fa fn ex s.heap.get?
  val := fun _ => He.valD fn
  says := fun _ h => ∃ K : PySem.W.Frag, K.In h ∧ SaysM fa fn ex K
  of := fun _ s e => by
    refine ⟨He.frG s.heap.get? (He.asD s.heap.get? n), He.frG_in, ?_, ?_⟩
    · have e1 := congrArg (fun z : He.AlD => z.1) e
      have e2 := congrArg (fun z : He.AlD => z.2) e
      exact Prod.ext ((Bool.and_eq_true_iff.mp e1).1) e2
    · have e1 := congrArg (fun z : He.AlD => z.1) e
      exact (Bool.and_eq_true_iff.mp e1).2
  keeps := fun _ _ _ ⟨K, hK, c⟩ k => ⟨K, PySem.W.Frag.In.keeps hK k, c⟩
theorem obsM_eq {n : Nat} {fa : List He.Fa} {fn : List He.DefD} {ex : PySem.W.Frag → Bool} {g : Addr → Option Obj} {s : Shared} (h : ∀ a, g a = s.heap.get? a) : obsM n fa fn ex g = (hookM n fa fn ex).obs s := by
  have e : g = s.heap.get? := funext h
  rw [e]; rfl
end
end Mb
end

section
set_option Elab.async false
set_option linter.all false
set_option maxRecDepth 100000
set_option maxHeartbeats 2000000
/-! Mb30: makers of exceptions -/
namespace Mb
noncomputable section
open PySem PySem.Spec PyProof.Rows L2
def mkLine (c : Str) : List Ent → Option Exn
  | [(_, .int i)] => if i.natAbs.log2 < 1920 then some ⟨c, [("line", .int i)]⟩ else none
  | _ => none
def mkTxt (c : Str) : List Ent → Option Exn
  | [(_, .str s)] => some ⟨c, []⟩
  | _ => none
end
end Mb
end

section
set_option Elab.async false
set_option linter.all false
set_option maxRecDepth 100000
set_option maxHeartbeats 3200000
/-! Mb31: sets of keys that can be walked: made of a list -/
namespace Mb
noncomputable section
open PySem PySem.Spec PyProof.Rows L2

theorem Prd.perm {α β : Type} {R : α → β → Prop} {xs xs' : List α} (h : xs'.Perm xs) : ∀ {ys : List β}, PySem.Paired R xs ys → ∃ ys', PySem.Paired R xs' ys' ∧ ys'.Perm ys := by
  induction h with
  | nil => intro ys p; cases p; exact ⟨[], .nil, .rfl⟩
  | cons x h ih =>
    intro ys p
    cases p with
    | cons r t => obtain ⟨ys', q, pm⟩ := ih t; exact ⟨_, .cons r q, pm.cons _⟩
  | swap x y l =>
    intro ys p
    cases p with
    | cons r t =>
      cases t with
      | cons r' t => exact ⟨_, .cons r' (.cons r t), List.Perm.swap _ _ _⟩
  | trans h1 h2 ih1 ih2 =>
    intro ys p
    obtain ⟨ys1, q1, pm1⟩ := ih2 p
    obtain ⟨ys2, q2, pm2⟩ := ih1 q1
    exact ⟨ys2, q2, pm2.trans pm1⟩
theorem Prd.mem {α β : Type} {R : α → β → Prop} : ∀ {xs : List α} {ys : List β} {x : α}, PySem.Paired R xs ys → x ∈ xs → ∃ y ∈ ys, R x y
  | _, _, _, .cons r t, h => by
    rcases List.mem_cons.mp h with rfl | h
    · exact ⟨_, List.mem_cons_self, r⟩
    · obtain ⟨y, hy, q⟩ := Prd.mem t h; exact ⟨y, List.mem_cons_of_mem _ hy, q⟩
theorem Prd.mem' {α β : Type} {R : α → β → Prop} : ∀ {xs : List α} {ys : List β} {y : β}, PySem.Paired R xs ys → y ∈ ys → ∃ x ∈ xs, R x y
  | _, _, _, .cons r t, h => by
    rcases List.mem_cons.mp h with rfl | h
    · exact ⟨_, List.mem_cons_self, r⟩
    · obtain ⟨x, hx, q⟩ := Prd.mem' t h; exact ⟨x, List.mem_cons_of_mem _ hx, q⟩

section
variable {P : Program} {w : World}
abbrev isE (P : Program) (w : World) : Int × Value → Key → Prop := fun e k => (mixKind P w).is k e.2 = true
/-- the walkable set at a, its members L (in some order) -/
structure SG (P : Program) (w : World) (h : Heap) (a : Addr) (L : List Key) : Prop where
  ex : ∃ (o : Obj) (es : Array (Int × Value)) (ep : Nat) (t : SetTable), h.get? a = some o ∧ o.ExactSet ∧ o.data = .set es ep t ∧ ElemsOf (mixKind P w) es.toList ∧ (∃ M, PySem.Paired (isE P w) es.toList M ∧ M.Perm L) ∧
    es.size < scanBound ∧ t.fits es.size = true ∧ Ris t.place.toList ∧ (w.params.followText "set-order" = true ∨ t.led = true)
  nd : L.Nodup
variable {h h' : Heap} {a : Addr} {L : List Key}
theorem SG.at (R : SG P w h a L) (k : ∀ o, h.get? a = some o → h'.get? a = some o) : SG P w h' a L := by
  obtain ⟨⟨o, es, ep, t, ho, r⟩, nd⟩ := R
  exact ⟨⟨o, es, ep, t, k o ho, r⟩, nd⟩
end
section
variable {P : Program} {w : World} {A : Around} {E : Value → Shared → Prop} {s : Shared} {a : Addr} {L : List Key}
/-- the table is stored, and laid anew where it is too full -/
theorem sg_tail {gv : Bool → Sem Unit} (hgv : ∀ (b : Bool) (s1 : Shared) (Z : Unit → Shared → Prop), Z () s1 → wpAny (model P w) A (gv b) Z E s1)
    {o : Obj} {es : Array (Int × Value)} {ep : Nat} {t : SetTable} (ho : s.heap.get? a = some o) (hex : o.ExactSet) (hd : o.data = .set es ep t) {fs : Array (Int × Value)} {t2 : SetTable} {M N : List Key} (el : ElemsOf (mixKind P w) fs.toList)
    (pr : PySem.Paired (isE P w) fs.toList M) (pm : M.Perm N) (nd : N.Nodup) (hb : fs.size < scanBound) (hf : t2.fits fs.size = true) (hr : Ris t2.place.toList) (hl : w.params.followText "set-order" = true ∨ t2.led = true) {wd : Bool} {Z : Option Bool → Shared → Prop}
    (hZ : ∀ h', Heap.SameBut a s.heap h' → SG P w h' a N → Z (some true) { s with heap := h' }) :
    wpAny (model P w) A (storeSet a fs t2 >>= fun _ => if (!wd && t2.tooFull) = true then (do
            gv (relayAll t2 fs (SetTable.grown fs.size)).2.2
            storeSet a (relayAll t2 fs (SetTable.grown fs.size)).1 (relayAll t2 fs (SetTable.grown fs.size)).2.1
            pure (some true)) else pure (some true)) Z E s := by
  refine wpAny_bind (wpAny_storeSet_of ho hd ?_ (fits_of_scanBound hb))
  have at1 := store_at (es' := fs) (t' := t2) ho hd
  have but1 := Heap.SameBut.update s.heap a (Obj.putSet fs t2)
  by_cases full : (!wd && t2.tooFull) = true
  · rw [if_pos full]
    have p2 := relayAll_perm t2 fs (SetTable.grown fs.size)
    have f2 := relayAll_fits t2 fs (SetTable.grown fs.size)
    have r2 := relayAll_ris t2 fs (SetTable.grown fs.size)
    have l2 := relayAll_led t2 fs (SetTable.grown fs.size)
    revert p2 f2 r2 l2
    rcases relayAll t2 fs (SetTable.grown fs.size) with ⟨gs, t3, gave⟩
    intro p2 f2 r2 l2
    have sz : gs.size = fs.size := by have := p2.length_eq; simpa using this
    have b2 : gs.size < scanBound := by rw [sz]; exact hb
    obtain ⟨M2, pr2, pm2⟩ := Prd.perm p2 pr
    refine wpAny_bind (hgv _ _ _ (wpAny_bind (wpAny_storeSet_of at1 rfl ?_ (fits_of_scanBound b2))))
    exact wpAny_pure (hZ _ (but1.trans (Heap.SameBut.update _ a _)) ⟨⟨_, gs, _, t3, store_at (es' := gs) (t' := t3) at1 rfl, hex, rfl, el.perm p2, ⟨M2, pr2, pm2.trans pm⟩, b2, f2, r2, hl.imp id fun z => l2.trans z⟩, nd⟩)
  · rw [if_neg full]
    exact wpAny_pure (hZ _ but1 ⟨⟨_, fs, _, t2, at1, hex, rfl, el, ⟨M, pr, pm⟩, hb, hf, hr, hl⟩, nd⟩)
/-- one more key in the list -/
def insK (L : List Key) (k : Key) : List Key := if L.any (fun j => decide (j = k)) = true then L else k :: L
theorem insK_in {L : List Key} {k : Key} (h : k ∈ L) : insK L k = L := by
  unfold insK
  rw [if_pos (List.any_eq_true.mpr ⟨k, h, decide_eq_true rfl⟩)]
theorem insK_out {L : List Key} {k : Key} (h : k ∉ L) : insK L k = k :: L := by
  unfold insK
  rw [if_neg]
  intro z
  obtain ⟨j, hj, e⟩ := List.any_eq_true.mp z
  exact h (of_decide_eq_true e ▸ hj)
/-- one more key -/
theorem sg_add {k : Key} {u : Value} {Z : Bool → Shared → Prop} (ku : (mixKind P w).is k u = true) (sc : u.scannable = true) (R : SG P w s.heap a L) (room : L.length + 1 < scanBound)
    (hZ : ∀ b h', Heap.SameBut a s.heap h' → SG P w h' a (insK L k) → Z b { s with heap := h' }) :
    wpAny (model P w) A (setAddHashed a u ((mixKind P w).hash k)) Z E s := by
  obtain ⟨⟨o, es, ep, t, ho, hex, hd, el, ⟨M, pr, pm⟩, hb, hf, hr, hl⟩, nd⟩ := R
  unfold setAddHashed setAddHashedIn
  refine wpAny_holding (wpAny_bind (wpAny_setState_of ho hd hf ?_))
  dsimp only
  rw [byScan_of sc hb el]
  simp only [↓reduceIte]
  unfold setAddByScan
  refine wpAny_bind (wpAny_bind (wpAny_rule (wpAny_bind (wpAny_setScan_of ku ho hd hf el ?_))))
  have size : es.size = L.length := by have := Paired.length pr; rw [← pm.length_eq, ← this]; simp
  cases scan : List.findIdx? (fun e => (mixKind P w).is k e.2) es.toList with
  | some j =>
    dsimp only
    obtain ⟨hj, at', _⟩ := List.findIdx?_eq_some_iff_getElem.mp scan
    obtain ⟨k', hk', q'⟩ := Prd.mem pr (List.getElem_mem hj)
    have same : k' = k := (mixKind P w).inj _ _ _ q' at'
    have inL : k ∈ L := pm.mem_iff.mp (same ▸ hk')
    have z := hZ false s.heap (Heap.SameBut.refl a s.heap)
    rw [insK_in inL] at z
    exact wpAny_pure (wpAny_pure (z ⟨⟨o, es, ep, t, ho, hex, hd, el, ⟨M, pr, pm⟩, hb, hf, hr, hl⟩, nd⟩))
  | none =>
    dsimp only
    have out : k ∉ L := fun z => by
      obtain ⟨e, he, q⟩ := Prd.mem' pr (pm.mem_iff.mpr z)
      have := List.findIdx?_eq_none_iff.mp scan e he
      rw [show (mixKind P w).is k e.2 = true from q] at this
      cases this
    have gave : ∀ (b : Bool) {s1 : Shared} {Y : Unit → Shared → Prop}, Y () s1 → wpAny (model P w) A (match b with | true => rule "set.scan.the-table-gave-way" | false => pure ()) Y E s1 := by
      intro b s1 Y y
      cases b
      · exact wpAny_pure y
      · exact wpAny_rule y
    have p1 := layNew_perm t es ((mixKind P w).hash k) u
    have f1 := layNew_fits t es ((mixKind P w).hash k) u
    have r1 := layNew_ris t es ((mixKind P w).hash k) u hr
    have l1 := layNew_led t es ((mixKind P w).hash k) u
    revert p1 f1 r1 l1
    rcases layNew t es ((mixKind P w).hash k) u with ⟨fs, t1, wd, gv⟩
    intro p1 f1 r1 l1
    dsimp only at p1 f1 r1 l1 ⊢
    rw [Array.toList_push] at p1
    have el1 : ElemsOf (mixKind P w) fs.toList := (el.push ku sc).perm p1
    obtain ⟨M1, pr1, pm1⟩ := Prd.perm (p1.trans (List.perm_append_singleton _ _)) (PySem.Paired.cons (show isE P w ((mixKind P w).hash k, u) k from ku) pr)
    have pmL : M1.Perm (k :: L) := pm1.trans (pm.cons k)
    have nd1 : (k :: L).Nodup := List.nodup_cons.mpr ⟨out, nd⟩
    have sz1 : fs.size = L.length + 1 := by have := p1.length_eq; simp at this; omega
    have b1 : fs.size < scanBound := by rw [sz1]; exact room
    have led1 : w.params.followText "set-order" = true ∨ t1.led = true := hl.imp id fun z => l1.trans z
    have done : ∀ h', Heap.SameBut a s.heap h' → SG P w h' a (k :: L) → Z true { s with heap := h' } := fun h' sb r => hZ true h' sb (by rw [insK_out out]; exact r)
    refine wpAny_bind (gave _ ?_)
    split
    · refine wpAny_bind ?_
      rw [hashByValue_scannable 8 sc]
      refine wpAny_pure (sg_tail (N := k :: L) ?_ ho hex hd el1 pr1 pmL nd1 b1 ?_ ?_ ?_ ?_)
      · intro b s1 Y y; exact gave b y
      · first | (split <;> first | exact f1 | exact SetTable.fits_plain_off f1) | exact f1
      · first | (split <;> exact r1) | exact r1
      · first | (split <;> exact led1) | exact led1
      · intro h' sb r; dsimp only; exact wpAny_pure (done h' sb r)
    · refine wpAny_bind (wpAny_pure ?_)
      simp only [↓reduceIte]
      refine sg_tail (N := k :: L) ?_ ho hex hd el1 pr1 pmL nd1 b1 f1 r1 led1 ?_
      · intro b s1 Y y; exact gave b y
      · intro h' sb r; dsimp only; exact wpAny_pure (done h' sb r)
end
end
end Mb
end

section
set_option Elab.async false
set_option linter.all false
set_option maxRecDepth 100000
set_option maxHeartbeats 3200000
/-! Mb32: set(list of keys) -/
namespace Mb
noncomputable section
open PySem PySem.Spec PyProof.Rows L2

/-- the keys, each once -/
def onceK (ks : List Key) : List Key := ks.foldl insK []
theorem insK_len (L : List Key) (k : Key) : (insK L k).length ≤ L.length + 1 := by
  unfold insK
  split
  · omega
  · simp
theorem fold_len : ∀ (ks L : List Key), (ks.foldl insK L).length ≤ L.length + ks.length
  | [], L => by simp
  | k :: r, L => by
    have h1 := fold_len r (insK L k)
    have h2 := insK_len L k
    simp only [List.foldl_cons, List.length_cons]
    omega
theorem once_next {ks : List Key} {i : Nat} {k : Key} (h : ks[i]? = some k) : onceK (ks.take (i + 1)) = insK (onceK (ks.take i)) k := by
  unfold onceK
  rw [List.take_add_one, h, List.foldl_append]
  rfl
theorem once_len (ks : List Key) (i : Nat) : (onceK (ks.take i)).length ≤ i := by
  have h := fold_len (ks.take i) []
  have : (ks.take i).length ≤ i := List.length_take_le _ _
  unfold onceK
  simp at h
  omega
section
variable {P : Program} {w : World} {A : Around} {E : Value → Shared → Prop} {s : Shared}
theorem sg_loop {J : Addr} {fp wr : List Addr} {Gn : Array GenState → Array GenState → Prop} {n : Nat} {Pv : Nat → Value → Prop} {St : Nat → Shared → Prop} {R : Result → Shared → Prop}
    (W : WalksS P w A.in1 J fp wr Gn n Pv St) (a : Addr) (ha : a ∉ fp) (ks : List Key) (hn : n = ks.length) (few : ks.length + 1 < scanBound) (val : ∀ i v, Pv i v → ∃ k, ks[i]? = some k ∧ RelV (kV k) v) :
    ∀ (m i : Nat) (t : Shared), n - i = m → i ≤ n → St i t → SG P w t.heap a (onceK (ks.take i)) →
      (∀ t', Moved (a :: wr) Gn t t' → SG P w t'.heap a (onceK ks) → R (.ok (.ret .none)) t') → codeAny (model P w) A (.builtin "set.update.loop" ⟨[.ref a, .ref J], []⟩) R t := by
  have aw : a ∉ wr := fun z => ha (W.sub _ z)
  have up : ∀ b ∈ wr, b ∈ a :: wr := fun b z => List.mem_cons_of_mem _ z
  intro m
  induction m with
  | zero =>
    intro i t e le st R0 fin
    obtain rfl : i = n := by omega
    refine codeAny_builtin F.entry_set_update_loop ?_
    rw [Around.under_plainId F.plain_set_update_loop _]
    show wpAny _ A.in1 (pyNext (.ref J) >>= fun v => _) _ _ t
    refine wpAny_bind (W.done t _ _ st fun t' mv => ?_)
    refine wpAny_pure (fin t' (mv.mono up) ?_)
    rw [List.take_of_length_le (by omega)] at R0
    exact R0.at fun o q => mv.heap a o aw q
  | succ m ih =>
    intro i t e le st R0 fin
    have lt : i < n := by omega
    refine codeAny_builtin F.entry_set_update_loop ?_
    rw [Around.under_plainId F.plain_set_update_loop _]
    show wpAny _ A.in1 (pyNext (.ref J) >>= fun v => _) _ _ t
    refine wpAny_bind (W.item i t _ _ lt st fun v t1 pv st1 mv => ?_)
    obtain ⟨k, hk, rv⟩ := val i v pv
    have R1 : SG P w t1.heap a (onceK (ks.take i)) := R0.at fun o q => mv.heap a o aw q
    show wpAny _ A.in1 (holding [v] (setAdd a v) >>= fun _ => _) _ _ t1
    refine wpAny_bind (wpAny_holding ?_)
    unfold setAdd
    refine wpAny_holding (wpAny_bind ((mixKind P w).pyHash (k := k) (kV_is rv) ?_))
    have sc : v.scannable = true := by
      cases k with
      | inl j => obtain ⟨q, rfl⟩ := rv; rfl
      | inr y => obtain ⟨q, rfl⟩ := rv; rfl
    refine sg_add (s := { t1 with toks := t1.toks + 1 }) (kV_is rv) sc R1 (by have := once_len ks i; omega) fun b h' sb R2 => ?_
    rw [← once_next hk] at R2
    refine wpAny_pure ⟨plainId_quiet F.plain_set_update_loop _, ih (i + 1) _ (by omega) lt (W.frame _ t1 _ _ st1 (Nat.le_succ _) fun c hc o q => ?_) R2 fun t2 mv2 R3 => fin t2 ?_ R3⟩
    · exact (sb.2 c fun z : c = a => ha (z ▸ hc)).trans q
    · exact Moved.trans W.gtrans ((mv.mono up).then_heap (Nat.le_succ _) fun c o hc q => (sb.2 c fun z : c = a => hc (z ▸ List.mem_cons_self)).trans q) mv2

abbrev freshSet (w : World) : Obj := { cls := .type "set", dict := none, data := .set #[] 0 (.fresh 0 0 (!w.params.followText "set-order")) }
theorem sg_new {h : Heap} {a : Addr} (ho : h.get? a = some (freshSet w)) : SG P w h a [] :=
  ⟨⟨_, #[], 0, _, ho, ⟨rfl, rfl, rfl⟩, rfl, (fun e he => by simp at he), ⟨[], .nil, .rfl⟩, by decide, by rfl, List.Pairwise.nil, by
    show _ ∨ (!w.params.followText "set-order") = true
    cases w.params.followText "set-order"
    · exact .inr rfl
    · exact .inl rfl⟩, List.nodup_nil⟩
theorem set_of_list {l : Addr} {items : Array Value} {ks : List Key} {Z : Value → Shared → Prop} (hh : A.handled = none) (hl : s.heap.IsList l items) (val : ∀ (i : Nat) (v : Value), items[i]? = some v → ∃ k, ks[i]? = some k ∧ RelV (kV k) v) (hn : items.size = ks.length) (few : ks.length + 1 < scanBound)
    (h : ∀ (h' : Heap) (tk : Nat), SG P w h' s.heap.objs.size (onceK ks) → (∀ b o, s.heap.get? b = some o → h'.get? b = some o) → Z (.ref s.heap.objs.size) { s with heap := h', toks := tk }) :
    wpAny (model P w) A (call (.type "set") [.ref l]) Z E s := by
  obtain ⟨c, tl, hmro⟩ := F.called_set.mro
  have made := F.called_set.made
  have sub := F.called_set.sub
  refine wpAny_call (codeAny_of_tree ?_)
  show wpAny _ _ (callAny (.type "set") ⟨[.ref l], []⟩) _ _ _
  refine wpAny_pure ⟨Code.quiet_builtin _ (by decide +kernel), codeAny_builtin F.entry_type_call ?_⟩
  rw [Around.under_plain (weight_type_call_type "set" [.ref l] []) rfl]
  have nt := F.called_set.notType
  have cc := F.called_set.canCreate
  have tc := F.typeCall_set_1 (.ref l)
  repeat (any_goals (first | assumption | wp_step))
  refine codeAny_mono (code_set_led1 (.ref l) (E := E) (Q₁ := fun ob s1 => ob = .ref s.heap.objs.size ∧ s1 = { s with heap := s.heap.push (freshSet w) }) ⟨rfl, rfl⟩) fun r s1 hr => ?_
  cases r with
  | error e => exact hr
  | ok fl =>
    cases fl with
    | ret ob =>
      obtain ⟨rfl, rfl⟩ := hr
      have atS : (s.heap.push (freshSet w)).get? s.heap.objs.size = some (freshSet w) := Heap.get?_push_size _ rfl
      have tyS : Shared.TypeIs { s with heap := s.heap.push (freshSet w) } (.ref s.heap.objs.size) "set" := ⟨_, atS, rfl⟩
      have li := F.called_set.init.lookup
      have bi := F.called_set.init.bind (.ref s.heap.objs.size)
      repeat (any_goals (first | assumption | wp_step))
      refine codeAny_mono (codeAny_call_builtin (R := wants (fun r t => r = .none ∧ ∃ h' tk, t = { s with heap := h', toks := tk } ∧ SG P w h' s.heap.objs.size (onceK ks) ∧ (∀ b o, s.heap.get? b = some o → h'.get? b = some o)) E)
        F.called_set.init.plain F.entry_set_init (check_set_init_1 tyS ?_)) fun r2 t2 hr2 => ?_
      · obtain ⟨ol, hol, hcl, nl, hdl⟩ := hl
        obtain ⟨cl, di, da, sl⟩ := ol
        simp only at hcl hdl
        subst hcl hdl
        have holp : (s.heap.push (freshSet w)).get? l = some { cls := .type "list", dict := di, data := .seq items nl, slots := sl } := Heap.get?_push_of_some _ hol
        have k1 := F.sub_list_set
        have k2 := F.sub_list_frozenset
        have k3 : (Value.type "list" == Value.type "dict") = false := by decide
        have isl : (s.heap.push (freshSet w)).IsList l items := ⟨_, holp, rfl, nl, rfl⟩
        unfold Builtin.«set.__init__» noKeywords Builtin.Frozenset.updateFrom
        generalize itq : pyIter = IT
        wp_walk
        subst itq
        refine wpAny_pyIter_list isl (wpAny_bind (wpAny_runValue ?_))
        have llt : l < s.heap.objs.size := Heap.lt_size hol
        have hh3 : A.in1.in1.in1.handled = none := by simp [hh]
        have szp : (s.heap.push (freshSet w)).objs.size = s.heap.objs.size + 1 := Heap.size_push ..
        have ne1 : l ≠ (s.heap.push (freshSet w)).objs.size := szp ▸ Nat.ne_of_lt (Nat.lt_succ_of_lt llt)
        have out : s.heap.objs.size ∉ [(s.heap.push (freshSet w)).objs.size, l] := by
          rw [szp]
          simp only [List.mem_cons, List.not_mem_nil, or_false, not_or]
          exact ⟨Nat.ne_of_lt (Nat.lt_succ_self _), fun z => Nat.ne_of_gt llt z⟩
        refine sg_loop ((Walks.list hh3 _ l ne1 items).toS) s.heap.objs.size out ks hn few val (items.size - 0) 0 _ (by omega) (Nat.zero_le _) ⟨⟨_, Heap.get?_push_size _ rfl, rfl, rfl⟩, (isl.push _)⟩ ?z0 ?zR
        case z0 => exact sg_new (Heap.get?_push_of_some _ atS)
        case zR =>
          intro t mv R
          obtain ⟨h', g2, d2, tk', os'⟩ := t
          have eg : g2 = s.gens := mv.gens
          have ed : d2 = s.drawn := mv.drawn
          have eo : os' = s.os := mv.os
          subst eg ed eo
          refine wpAny_pure (wpAny_pure ⟨rfl, h', tk', rfl, R, fun b o q => ?_⟩)
          have blt : b < s.heap.objs.size := Heap.lt_size q
          refine mv.heap b o ?_ (Heap.get?_push_of_some _ (Heap.get?_push_of_some _ q))
          simp only [List.mem_cons, List.not_mem_nil, or_false, not_or]
          exact ⟨fun z => Nat.ne_of_lt blt z, szp ▸ Nat.ne_of_lt (Nat.lt_succ_of_lt blt)⟩
      · cases r2 with
        | error e => exact hr2
        | ok fl2 =>
          cases fl2 with
          | ret r =>
            obtain ⟨rfl, h', tk, rfl, R, kp⟩ := hr2
            repeat (any_goals (first | assumption | wp_step))
            exact h _ _ R kp
          | _ => exact hr2.elim
    | _ => exact hr.elim
end
end
end Mb
end

section
set_option Elab.async false
set_option linter.all false
set_option maxRecDepth 100000
set_option maxHeartbeats 3200000
/-! Mb33: sorted(set(list)) -/
namespace Mb
noncomputable section
open PySem PySem.Spec PyProof.Rows L2

/-! ### plain: the members, sorted -/
theorem mem_insK {L : List Key} {k j : Key} : j ∈ insK L k ↔ j = k ∨ j ∈ L := by
  by_cases h : k ∈ L
  · rw [insK_in h]
    exact ⟨.inr, fun z => z.elim (fun e => e ▸ h) id⟩
  · rw [insK_out h, List.mem_cons]
theorem mem_fold : ∀ (ks L : List Key) (j : Key), j ∈ ks.foldl insK L ↔ j ∈ L ∨ j ∈ ks
  | [], L, j => by simp
  | k :: r, L, j => by
    rw [List.foldl_cons, mem_fold r, mem_insK, List.mem_cons]
    constructor
    · rintro ((h | h) | h)
      · exact .inr (.inl h)
      · exact .inl h
      · exact .inr (.inr h)
    · rintro (h | h | h)
      · exact .inl (.inr h)
      · exact .inl (.inl h)
      · exact .inr h
theorem mem_once {ks : List Key} {j : Key} : j ∈ onceK ks ↔ j ∈ ks := by
  unfold onceK
  rw [mem_fold]
  simp
theorem mem_dedS : ∀ {l : List Str} {x : Str}, x ∈ dedS l ↔ x ∈ l
  | [], x => by unfold dedS; exact Iff.rfl
  | y :: r, x => by
    unfold dedS
    split
    · rename_i h
      rw [mem_dedS, List.mem_cons]
      constructor
      · exact .inr
      · rintro (rfl | h')
        · exact mem_dedS.mp (by simpa using h)
        · exact h'
    · rw [List.mem_cons, List.mem_cons, mem_dedS]
theorem nd_dedS : ∀ (l : List Str), (dedS l).Nodup
  | [] => by unfold dedS; exact List.nodup_nil
  | y :: r => by
    unfold dedS
    split
    · exact nd_dedS r
    · rename_i h
      exact List.nodup_cons.mpr ⟨fun z => h (by simpa using z), nd_dedS r⟩
theorem mem_dedI : ∀ {l : List Int} {x : Int}, x ∈ dedI l ↔ x ∈ l
  | [], x => by unfold dedI; exact Iff.rfl
  | y :: r, x => by
    unfold dedI
    split
    · rename_i h
      rw [mem_dedI, List.mem_cons]
      constructor
      · exact .inr
      · rintro (rfl | h')
        · exact mem_dedI.mp (by simpa using h)
        · exact h'
    · rw [List.mem_cons, List.mem_cons, mem_dedI]
theorem nd_dedI : ∀ (l : List Int), (dedI l).Nodup
  | [] => by unfold dedI; exact List.nodup_nil
  | y :: r => by
    unfold dedI
    split
    · exact nd_dedI r
    · rename_i h
      exact List.nodup_cons.mpr ⟨fun z => h (by simpa using z), nd_dedI r⟩
theorem str_inj {a b : Str} (h : a.cps.toList = b.cps.toList) : a = b := by
  cases a
  cases b
  congr 1
  exact Array.toList_inj.mp h
theorem leS_total (a b : Str) : (leS a b || leS b a) = true := by
  unfold leS
  rw [Bool.or_eq_true, decide_eq_true_eq, decide_eq_true_eq]
  exact List.le_total _ _
theorem leS_trans (a b c : Str) (h1 : leS a b = true) (h2 : leS b c = true) : leS a c = true := by
  unfold leS at *
  rw [decide_eq_true_eq] at *
  exact List.le_trans h1 h2
theorem leS_anti {a b : Str} (h1 : leS a b = true) (h2 : leS b a = true) : a = b := by
  unfold leS at *
  rw [decide_eq_true_eq] at *
  exact str_inj (List.le_antisymm h1 h2)
theorem rising_pw : ∀ {p : Str} {l : List Str}, risingS p l = true → (p :: l).Pairwise fun a b => leS a b = true
  | p, [], _ => by simp
  | p, x :: r, h => by
    have h : (!ltCps x.cps.toList p.cps.toList && risingS x r) = true := h
    rw [Bool.and_eq_true] at h
    have ih := rising_pw h.2
    have le : leS p x = true := by
      have h1 := h.1
      rw [ltCps_eq] at h1
      unfold leS
      rw [decide_eq_true_eq]
      simpa using h1
    refine List.pairwise_cons.mpr ⟨fun y hy => ?_, ih⟩
    rcases List.mem_cons.mp hy with rfl | hy
    · exact le
    · exact leS_trans _ _ _ le ((List.pairwise_cons.mp ih).1 y hy)
theorem sorted_pw : ∀ {l : List Str}, sortedS l = true → l.Pairwise fun a b => leS a b = true
  | [], _ => List.Pairwise.nil
  | _ :: _, h => rising_pw h
theorem srt_texts {ss ys : List Str} {ks : List Key} (hk : ks = ss.map Sum.inr) (pm : (ys.map Sum.inr : List Key).Perm (onceK ks)) (nd : (onceK ks).Nodup) (so : sortedS ys = true) : ys = (dedS ss).mergeSort leS := by
  have ndy : ys.Nodup := by
    have := pm.nodup_iff.mpr nd
    exact List.Pairwise.of_map _ (fun a b h e => h (congrArg _ e)) this
  have mem : ∀ x, x ∈ ys ↔ x ∈ dedS ss := fun x => by
    rw [mem_dedS]
    have h1 : x ∈ ys ↔ (Sum.inr x : Key) ∈ (ys.map Sum.inr : List Key) := by simp
    rw [h1, pm.mem_iff, mem_once, hk]
    simp
  have pm2 : ys.Perm (dedS ss) := (List.perm_ext_iff_of_nodup ndy (nd_dedS ss)).mpr mem
  exact List.Perm.eq_of_pairwise (fun a b _ _ h1 h2 => leS_anti h1 h2) (sorted_pw so) (List.pairwise_mergeSort leS_trans leS_total _) (pm2.trans (List.mergeSort_perm _ _).symm)
theorem srt_ints {ss ys : List Int} {ks : List Key} (hk : ks = ss.map Sum.inl) (pm : (ys.map Sum.inl : List Key).Perm (onceK ks)) (nd : (onceK ks).Nodup) (so : ys.Pairwise (· ≤ ·)) : ys = (dedI ss).mergeSort fun a b => decide (a ≤ b) := by
  have ndy : ys.Nodup := by
    have := pm.nodup_iff.mpr nd
    exact List.Pairwise.of_map _ (fun a b h e => h (congrArg _ e)) this
  have mem : ∀ x, x ∈ ys ↔ x ∈ dedI ss := fun x => by
    rw [mem_dedI]
    have h1 : x ∈ ys ↔ (Sum.inl x : Key) ∈ (ys.map Sum.inl : List Key) := by simp
    rw [h1, pm.mem_iff, mem_once, hk]
    simp
  have pm2 : ys.Perm (dedI ss) := (List.perm_ext_iff_of_nodup ndy (nd_dedI ss)).mpr mem
  refine List.Perm.eq_of_pairwise (le := fun a b => a ≤ b) (fun a b _ _ h1 h2 => by omega) so ?_ (pm2.trans (List.mergeSort_perm _ _).symm)
  have := List.pairwise_mergeSort (le := fun a b : Int => decide (a ≤ b)) (fun a b c h1 h2 => by simp at *; omega) (fun a b => by simp; omega) (dedI ss)
  exact this.imp fun h => by simpa using h
end
end Mb
end

section
set_option Elab.async false
set_option linter.all false
set_option maxRecDepth 100000
set_option maxHeartbeats 3200000
/-! Mb34: the rules of set(list), sorted(set) -/
namespace Mb
noncomputable section
open PySem PySem.Spec PyProof.Rows L2

theorem strs_of_keys : ∀ {vs : List Value} {M : List Key} {ss : List Str}, PySem.Paired (fun v k => keyIs k v = true) vs M → M = ss.map Sum.inr → StrsAre vs ss
  | _, _, [], p, e => by
    subst e
    cases p
    exact .nil
  | _, _, s :: ss, p, e => by
    subst e
    cases p with
    | cons r t =>
      rcases keyIs_shape r with ⟨i, t', e1, _⟩ | ⟨x, t', e1, e2⟩
      · cases e1
      · cases e1; subst e2; exact .cons _ _ (strs_of_keys t rfl)
theorem ints_of_keys : ∀ {vs : List Value} {M : List Key} {ss : List Int}, PySem.Paired (fun v k => keyIs k v = true) vs M → M = ss.map Sum.inl → IntsAre vs ss
  | _, _, [], p, e => by
    subst e
    cases p
    exact .nil
  | _, _, s :: ss, p, e => by
    subst e
    cases p with
    | cons r t =>
      rcases keyIs_shape r with ⟨i, t', e1, e2⟩ | ⟨x, t', e1, _⟩
      · cases e1; subst e2; exact .cons _ _ (ints_of_keys t rfl)
      · cases e1
theorem keys_r {ss : List Str} : ∀ {M : List Key}, (∀ k ∈ M, k ∈ ss.map (Sum.inr : Str → Key)) → ∃ ys : List Str, M = ys.map Sum.inr
  | [], _ => ⟨[], rfl⟩
  | k :: M, h => by
    obtain ⟨ys, rfl⟩ := keys_r (ss := ss) fun k hk => h k (List.mem_cons_of_mem _ hk)
    obtain ⟨x, _, rfl⟩ := List.mem_map.mp (h _ List.mem_cons_self)
    exact ⟨x :: ys, rfl⟩
theorem keys_l {ss : List Int} : ∀ {M : List Key}, (∀ k ∈ M, k ∈ ss.map (Sum.inl : Int → Key)) → ∃ ys : List Int, M = ys.map Sum.inl
  | [], _ => ⟨[], rfl⟩
  | k :: M, h => by
    obtain ⟨ys, rfl⟩ := keys_l (ss := ss) fun k hk => h k (List.mem_cons_of_mem _ hk)
    obtain ⟨x, _, rfl⟩ := List.mem_map.mp (h _ List.mem_cons_self)
    exact ⟨x :: ys, rfl⟩
theorem prd_map2 {es : List (Int × Value)} {M : List Key} (h : PySem.Paired (fun (e : Int × Value) k => keyIs k e.2 = true) es M) : PySem.Paired (fun v k => keyIs k v = true) (es.map (·.2)) M := by
  induction h with
  | nil => exact .nil
  | cons r t ih => exact .cons r ih
section
variable {P : Program} {w : World} {A : Around} {E : Value → Shared → Prop} {s : Shared} {a : Addr}
/-- sorted of a walkable set: the list of the members is sorted in place -/
theorem sorted_sg {L : List Key} {Z : Value → Shared → Prop} (R : SG P w s.heap a L) (hh : A.handled = none)
    (srt : ∀ (t : Shared) (q : Addr) (n : Nat) (vs : List Value) (M : List Key), PySem.Paired (fun v k => keyIs k v = true) vs M → M.Perm L → vs.length ≤ sizeLine → t.heap.get? q = some (seqObj "list" vs.toArray n) →
      (∀ b o, s.heap.get? b = some o → t.heap.get? b = some o) → s.heap.objs.size ≤ q → t.gens = s.gens → t.os = s.os →
      wpAny (model P w) A.in1.in1 (Builtin.«list.sort» ⟨[.ref q], []⟩) (fun fin t' => fin = .done (.ret .none) ∧ Z (.ref q) t') E t) :
    wpAny (model P w) A (call (.builtin "sorted") [.ref a]) Z E s := by
  obtain ⟨⟨o, es, ep, t, ho, hex, hd, el, ⟨M, pr, pm⟩, hb, hf, hr, hl⟩, nd⟩ := R
  refine Calls.call_function_entry kind_sorted plain_sorted entry_sorted (args_sorted1 _) ?_
  unfold Builtin.«sorted»
  refine wpAny_bind (m := checkCount "sorted" 1 1 _) (wpAny_pure ?_)
  refine wpAny_bind (collect_set (A := A.in1) hh ⟨o, ho, hex.1, hd⟩ hf hb hr hl fun s1 vs k1 z1 g1 o1 p1 => ?_)
  obtain ⟨M', pr', pm'⟩ := Prd.perm p1 (prd_map2 pr)
  have len : vs.length ≤ sizeLine := by
    have sz : vs.length = es.size := by rw [p1.length_eq]; simp
    rw [sz]
    exact fits_of_scanBound hb
  refine wpAny_bind (wpAny_newList ?_ len)
  have at1 : (s1.heap.push (seqObj "list" vs.toArray 0)).get? s1.heap.objs.size = some (seqObj "list" vs.toArray 0) := Heap.get?_push_size _ rfl
  have S := srt { s1 with heap := s1.heap.push (seqObj "list" vs.toArray 0) } s1.heap.objs.size 0 vs M' pr' (pm'.trans pm) len at1 (fun b u q => Heap.get?_push_of_some _ (k1 b u q)) z1 g1 o1
  refine wpAny_bind (wpAny_holding (wpAny_call_entry slot_list_sort ⟨_, at1, rfl⟩ entry_list_sort ?_ (args_list_sort _)))
  refine wpAny_mono S (fun fin t' q => ?_) fun _ _ z => z
  obtain ⟨rfl, z⟩ := q
  exact ⟨_, rfl, wpAny_pure ⟨_, rfl, z⟩⟩
end

/-! ### over the abstract heap -/
/-- the set at a -/
def SGo (P : Program) (w : World) (a : Addr) (L : List Key) : HO := .ext fun h => SG P w h a L
theorem sgo_new {P : Program} {w : World} {H : Hp} {h : Heap} {a : Addr} {L : List Key} (R : SG P w h a L) : ObjOk P w H h a (SGo P w a L) :=
  let ⟨o, _, _, _, ho, _⟩ := R.ex
  ⟨R, ⟨o, ho⟩, fun _ _ q k => SG.at q k⟩
section
variable {X : Cx} {p : Pm} {Wx : WX} {m : Bool} {σ : L2.St} {H : Hp}
def rSetOf (K : PySem.W.Frag) (P : Program) (w : World) : List V → Hp → VK → Prop := fun vs H Q => ∃ (l : Addr) (ks : List Key), vs = [V.ref l] ∧ SqL K H l (ks.map kV) ∧ ks.length + 1 < scanBound ∧ ∀ a, H a = none → Q (.ref a) (upd H a (SGo P w a (onceK ks)))
theorem prd_get {α β : Type} {R : α → β → Prop} {xs : List α} {ys : List β} {i : Nat} {y : β} (h : PySem.Paired R xs ys) (e : ys[i]? = some y) : ∃ x, xs[i]? = some x ∧ R x y := pair_get h e
theorem call_setOf (hc : X.calm = true) : CallR X (.type "set") (rSetOf X.K X.prog X.w) := by
  intro pins s σ H vs us Q I r h
  obtain ⟨l, ks, rfl, hs, few, q⟩ := h
  obtain ⟨its, rv, pl, _⟩ := I.list hs
  rw [Vals.ref1 r]
  have hlen : its.length = ks.length := by have := rv.length; simpa using this.symm
  refine set_of_list (ks := ks) (I.ok.hd hc) pl.isList (fun i v hv => ?_) (by simpa using hlen) few fun h' tk R kp => ?_
  · have hv' : its[i]? = some v := by simpa using hv
    obtain ⟨x, hx, rx⟩ := pair_get (j := i) rv hv'
    rw [List.getElem?_map] at hx
    cases e : ks[i]? with
    | none => rw [e] at hx; cases hx
    | some k => rw [e] at hx; cases hx; exact ⟨k, rfl, rx⟩
  · have n : H s.heap.objs.size = none := I.hok.fresh (Nat.le_refl _)
    exact ⟨.ref _, _, I.laid (t' := tk) kp (Nat.le_refl _) (sgo_new R), rfl, q _ n⟩
def rSortSet (P : Program) (w : World) : List V → Hp → VK → Prop := fun vs H Q => ∃ (a : Addr) (ks : List Key), vs = [V.ref a] ∧ H a = some (SGo P w a (onceK ks)) ∧
  ((∃ ss : List Str, ks = ss.map Sum.inr ∧ ∀ q, H q = none → Q (.ref q) (upd H q (.lst (((dedS ss).mergeSort leS).map V.str)))) ∨
    ∃ ss : List Int, ks = ss.map Sum.inl ∧ ∀ q, H q = none → Q (.ref q) (upd H q (.lst (((dedI ss).mergeSort fun a b => decide (a ≤ b)).map V.int))))
theorem call_sortSet (hc : X.calm = true) : CallR X (.builtin "sorted") (rSortSet X.prog X.w) := by
  intro pins s σ H vs us Q I r h
  obtain ⟨a, ks, rfl, ha, q⟩ := h
  rw [Vals.ref1 r]
  have R : SG X.prog X.w s.heap a (onceK ks) := (I.hok a _ ha).1
  refine sorted_sg R (I.ok.hd hc) fun t b n vs M pr pm len hb kp z g o => ?_
  obtain ⟨hp, gs, dr, tk, os⟩ := t
  have o : os = s.os := o
  have g : gs = s.gens := g
  subst o g
  have fin : ∀ (out : Array Value) (c : Nat) (xs : List V), Vals xs out.toList → xs.length ≤ sizeLine → (sortedHeap hp b vs out).get? b = some (seqObj "list" out c) → (∀ q, H q = none → Q (.ref q) (upd H q (.lst xs))) →
      EP X pins σ Q (.ref b) { heap := sortedHeap hp b vs out, gens := s.gens, drawn := dr, toks := tk, os := s.os } := fun out c xs rv hz hg k => by
    have nb : H b = none := I.hok.fresh z
    have kp2 : ∀ d u, s.heap.get? d = some u → (sortedHeap hp b vs out).get? d = some u := fun d u e => by
      have lt : d < s.heap.objs.size := Heap.lt_size e
      rw [sortedHeap_old (Nat.ne_of_lt (Nat.lt_of_lt_of_le lt z)) (Heap.lt_size (kp d u e))]
      exact kp d u e
    have J : Inv X pins σ (upd H b (.lst xs)) { s with heap := sortedHeap hp b vs out, gens := s.gens, drawn := dr, toks := tk } :=
      I.call (ch := []) (Un.laid kp2 z nb) (I.hok.laid kp2 z ⟨hz, out.toList, c, rv, hg⟩) I.bare fun _ y => nomatch y
    exact ⟨.ref b, _, J, rfl, k b nb⟩
  rcases q with ⟨ss, hk, q⟩ | ⟨ss, hk, q⟩
  · obtain ⟨ys, rfl⟩ := keys_r (ss := ss) (M := M) fun k hk' => by rw [← hk, ← mem_once]; exact pm.mem_iff.mp hk'
    have sv := strs_of_keys pr rfl
    refine list_sort_treeKAny strKind_oneLt hb sv.keysOf (fun v1 v2 rest e => keyKind_strs (by rw [← e]; exact sv)) len fun st' h1 h2 => ⟨rfl, ?_⟩
    obtain ⟨zs, a1, a2, a3⟩ := sorted_out_str sv h1 h2
    have e := srt_texts hk ((a2.map Sum.inr).trans pm) R.nd a3
    obtain ⟨c, hg⟩ := sortedHeap_at (out := (arrOf st').map (·.2)) hb
    have lz : (zs.map V.str).length ≤ sizeLine := by
      rw [List.length_map, a2.length_eq]
      have := pr.length
      rw [List.length_map] at this
      rw [← this]
      exact len
    exact fin _ c _ (vals_of_strs a1) lz hg fun b' nb => by rw [e]; exact q b' nb
  · obtain ⟨ys, rfl⟩ := keys_l (ss := ss) (M := M) fun k hk' => by rw [← hk, ← mem_once]; exact pm.mem_iff.mp hk'
    have sv := ints_of_keys pr rfl
    refine list_sort_treeAny hb sv len fun out zs a1 a2 a3 => ⟨rfl, ?_⟩
    have e := srt_ints hk ((a2.map Sum.inl).trans pm) R.nd a3
    obtain ⟨c, hg⟩ := sortedHeap_at (out := out) hb
    have lz : (zs.map V.int).length ≤ sizeLine := by
      rw [List.length_map, a2.length_eq]
      have := pr.length
      rw [List.length_map] at this
      rw [← this]
      exact len
    exact fin _ c _ (vals_of_ints a1) lz hg fun b' nb => by rw [e]; exact q b' nb
end
end
end Mb
end

section
set_option Elab.async false
set_option linter.all false
set_option maxRecDepth 100000
set_option maxHeartbeats 3200000
/-! Mb35: sorted(set(x)) of texts, of ints -/
namespace Mb
noncomputable section
open PySem PySem.Spec PyProof.Rows L2
theorem PRes.grown {K : PySem.W.Frag} {G H H' : Hp} {e : Ent} {v : V} {a : Addr} {o : HO} (h : H a = none) (q : PRes K G (upd H a o) e v H') : PRes K G H e v H' := by
  obtain ⟨G', fp, s1, s2, s3, new, nd, fr, ow⟩ := q
  have back : ∀ b, (upd H a o) b = none → H b = none := fun b z => by
    by_cases q : b = a
    · subst q; exact h
    · rw [upd_ne q] at z; exact z
  exact ⟨G', fp, (sUpd h).trans s1, s2, s3, fun b z => (new b z).imp_right (back b), nd, fun b z => ⟨back b (fr b z).1, (fr b z).2⟩, ow⟩
theorem srtR {p : Pm} : SrtR p := by
  intro X Wx m f a p1 p2 pos pos' c gd g1 g2 m1 m2 pl ha
  have st := pl.st X.env []
  have inner : PE X (.Call (.Name "set" p2) [a] [] pos') _ := pe_callTy (call_setOf c.calm) g2 m2 (by rfl) (pa_cons ha pa_nil st) (by decide) (by decide) st
  refine PE.imp (pe_callB (call_sortSet c.calm) g1 m1 (by rfl) (pa_cons inner pa_nil (by rfl))) fun σ H Q h => ?_
  have ok : OkU p.K (fun v H Q => ∃ (l : Addr) (ks : List Key), v = V.ref l ∧ SqL p.K H l (ks.map kV) ∧ ks.length + 1 < scanBound ∧ ∀ b, H b = none → rSortSet X.prog X.w [.ref b] (upd H b (SGo X.prog X.w b (onceK ks))) Q) srtF := by
    intro G H v e e' Q g b hF k
    obtain ⟨n, d⟩ := e
    unfold srtF at hF
    split at hF
    · rename_i n' ds heq
      cases heq
      split at hF
      · rename_i c1
        obtain ⟨l, vs, rfl, rd, rz⟩ := bo_list g c1.1 b
        have new : ∀ {b : Addr} {u : HO} {q : Addr}, H b = none → upd H b u q = none → Same G (upd H b u) := fun hb _ => g.trans (sUpd hb)
        have bound : ∀ n : Nat, n < 4000 → n + 1 < scanBound := fun n h => by
          have e : scanBound = 4096 := rfl
          omega
        cases hs : strsOf ds with
        | some ss =>
          rw [hs] at hF
          cases hF
          have e1 := rz_strs rz hs
          have e2 := strsOf_eq hs
          refine ⟨l, ss.map Sum.inr, rfl, .inl ?_, by have := c1.2; rw [e2] at this; simp at this ⊢; exact bound _ this, fun q hq => ⟨q, ss.map Sum.inr, rfl, upd_same, .inl ⟨ss, rfl, fun q2 hq2 => k _ _ (PRes.grown hq (PRes.lst (new hq hq2) hq2 ?_))⟩⟩⟩
          · rw [e1] at rd
            rw [List.map_map]
            exact rd
          · exact map_rz PyData.str V.str (fun x => .str x) _
        | none =>
          rw [hs] at hF
          obtain ⟨ns, hn, rfl⟩ := Option.map_eq_some_iff.mp hF
          have e1 := rz_ints rz hn
          have e2 := intsOf_eq hn
          refine ⟨l, ns.map Sum.inl, rfl, .inl ?_, by have := c1.2; rw [e2] at this; simp at this ⊢; exact bound _ this, fun q hq => ⟨q, ns.map Sum.inl, rfl, upd_same, .inr ⟨ns, rfl, fun q2 hq2 => k _ _ (PRes.grown hq (PRes.lst (new hq hq2) hq2 ?_))⟩⟩⟩
          · rw [e1] at rd
            rw [List.map_map]
            exact rd
          · exact map_rz PyData.int V.int (fun x => .int x) _
      · cases hF
    · cases hF
  have h1 := tE_un ok h
  rw [← c.hK] at h1
  exact tR.mono h1 fun x H1 ⟨l, ks, e, s, few, q⟩ => ⟨l, ks, by rw [e], s, few, q⟩
end
end Mb
end

section
set_option Elab.async false
set_option linter.all false
set_option maxRecDepth 100000
set_option maxHeartbeats 3200000
/-! Mb36: an own exception over ValueError whose __init__ says super().__init__(f'..') and keeps a line number -/
namespace Mb
noncomputable section
open PySem PySem.Spec PyProof.Rows L2

/-! ### the text of __init__ -/
def iArgs (p1 p2 : Pos) : Arguments := { posonlyargs := [], args := [{ arg := "self", annotation := none, pos := p1 }, { arg := "line", annotation := none, pos := p2 }], vararg := none, kwonlyargs := [], kw_defaults := [], kwarg := none, defaults := [] }
def iMsg (z1 z2 : Str) (j1 j2 : Nat) (q1 q2 q3 q4 q5 : Pos) : Expr := .JoinedStr [.Constant (.str z1) j1 q1, .FormattedValue (.Name "line" q2) (-1) none q3, .Constant (.str z2) j2 q4] q5
def iBody (z1 z2 : Str) (j1 j2 : Nat) (q1 q2 q3 q4 q5 q6 q7 q8 q9 q10 q11 q12 q13 q14 : Pos) : List Stmt :=
  [.Expr (.Call (.Attribute (.Call (.Name "super" q6) [] [] q7) "__init__" q8) [iMsg z1 z2 j1 j2 q1 q2 q3 q4 q5] [] q9) q10, .Assign [.Attribute (.Name "self" q11) "line" q12] (.Name "line" q13) q14]
/-- how super().__init__(msg) is evaluated -/
def iEval (m : Expr) (q6 q7 q8 q9 : Pos) : Prop := ∃ pl : Env → Sem Bool, ∀ env : Env, eval (.Call (.Attribute (.Call (.Name "super" q6) [] [] q7) "__init__" q8) [m] [] q9) env = (do
      let ov ← attributeBase (.Call (.Name "super" q6) [] [] q7) "__init__" env (eval (.Call (.Name "super" q6) [] [] q7) env)
      standAt q8.atName
      let (f, first) ← holding [ov] (getMethod ov "__init__" (pl env))
      callWith q9 f first (backTo q9 (starEach [m] env)) [])
def iScope : Scope := { kind := .function, names := [("self", .local), ("line", .local), ("__class__", .free), ("super", .globalImplicit)], isGenerator := false, isCoroutine := false, more := [] }

theorem i_nocell : ∀ y ∈ iScope.names, y.2 ≠ .cell := by decide
theorem i_loc (u v : Value) : ∀ y ∈ [(("self" : Str), u), (("line" : Str), v)], iScope.names.lookup y.1 = some .local := fun y hy => by
  rcases List.mem_cons.mp hy with rfl | hy
  · rfl
  · rcases List.mem_cons.mp hy with rfl | hy
    · rfl
    · cases hy
structure BadTxt (P : Program) (K : PySem.W.Frag) (mg : Str → Option Value) (x q : Str) (C fI : Addr) : Prop where
  gC : mg x = some (.ref C)
  cls : ∃ nm q N bs bm sn sub ab col dd k0 k1 k2 k3 k5, K.lookup C = some (excClassObj nm q C N bs bm true sn sub ab col dd k0 k1 k2 k3 k5 "ValueError.__new__") ∧ PySem.HandSPX.refsVE bm = true
  sa : PySem.W.findIn K (.ref C) "__setattr__" = some (some (.builtin "object.__setattr__"))
  noL : PySem.W.findIn K (.ref C) "line" = some none
  iC : PySem.W.findIn K (.ref C) "__init__" = some (some (.ref fI))
  tI : PySem.W.typeIn K (.ref fI) = some (.type "function")
  kC : PySem.W.keepIn K (.ref C) = true
  exC : PySem.W.subIn K (.ref C) (.type "BaseException") = some true
  veC : PySem.W.subIn K (.ref C) (.type "ValueError") = some true
  tyC : PySem.W.typeIn K (.ref C) = some (.type "type")
  te : PySem.W.exmOne K (.ref C) (.ref C) = some true
  xf : XfC K C
  sup : PySem.W.ks_superIn K C C "__init__" = some (some (.builtin "ValueError.__init__"))
  own : PySem.W.mroIn K C (.ref C) = some true
  opq : PySem.W.nsIn K cStatics "thirdparty.any" = some none
  free : mg "super" = none
  top : (P.main.scope.names.lookup ("super" : Str)).isSome = false
  fn : ∃ (oc : Value) (od : Option Addr) (doc pm : Value) (an : Option Addr) (ct : Value) (osl : Array (Option Value)) (cda cc : Addr) (ccl : Value) (cdd : Option Addr) (vs : Array Value) (ccs : Array (Option Value)) (file : Str) (tf : Tok) (cl : Value) (cld : Option Addr) (csl : Array (Option Value)),
    ∃ (p1 p2 : Pos) (z1 z2 : Str) (j1 j2 : Nat) (q1 q2 q3 q4 q5 q6 q7 q8 q9 q10 q11 q12 q13 q14 : Pos), z1.length < 1000 ∧ z2.length < 1000 ∧ iEval (iMsg z1 z2 j1 j2 q1 q2 q3 q4 q5) q6 q7 q8 q9 ∧
      K.lookup fI = some ⟨oc, od, .func (PySem.W.ksFn "__init__" q (iArgs p1 p2) (iBody z1 z2 j1 j2 q1 q2 q3 q4 q5 q6 q7 q8 q9 q10 q11 q12 q13 q14) iScope .none .none doc pm an (.ref cda) ct cc), osl⟩ ∧ PySem.W.codeIn K (.ref cda) q = true ∧
      K.lookup cda = some ⟨ccl, cdd, .fields vs, ccs⟩ ∧ vs[2]? = some (.str file tf) ∧ ((P.main.file : Str) == file) = true ∧ K.lookup cc = some ⟨cl, cld, .cell (some (.ref C)), csl⟩

section
variable {P : Program} {w : World} {A : Around} {E : Value → Shared → Prop} {R : Result → Shared → Prop} {hp : Heap} {g : Array GenState} {d : Drawn} {t : Nat} {os : OsState} {K : PySem.W.Frag} {mg : Str → Option Value} {base : Heap} {x q : Str} {C fI : Addr}
/-- the built-in __init__ bound to the exception, called -/
theorem call_mw {nm qn : Str} {N : Addr} {bs bm : List Value} {sn : List Str} {sub : List Value} {ab : Bool} {col : Option Bool} {dd : Option Addr} {k0 k1 k2 k3 k5 : Option Value} {u e t0 : Addr} {rest : List Value} {Z : Value → Shared → Prop}
    (hC : hp.get? C = some (excClassObj nm qn C N bs bm true sn sub ab col dd k0 k1 k2 k3 k5 "ValueError.__new__")) (he : hp.get? e = some (PySem.HandSPX.excO C t0)) (hu : hp.get? u = some (PySem.W.kxs_mw "ValueError.__init__" e)) (hr : rest.length ≤ sizeLine)
    (fin : ∀ h' t1, (∀ b o, b ≠ e → hp.get? b = some o → h'.get? b = some o) → h'.get? e = some (PySem.HandSPX.excO C t1) → Z .none ⟨h', g, d, t, os⟩) : wpAny (model P w) A (call (.ref u) rest) Z E ⟨hp, g, d, t, os⟩ := by
  have mw : (Value.type "method-wrapper" == Value.type "method" || Value.type "method-wrapper" == Value.type "builtin_function_or_method" || Value.type "method-wrapper" == Value.type "method-wrapper") = true := by decide
  refine wpAny_call (codeAny_of_tree ?_)
  show wpAny _ A.in1 (callAny (.ref u) (⟨rest, []⟩ : Args)) _ _ _
  simp only [callAny]
  refine wpAny_bind (wpAny_load hu ?_)
  simp only [PySem.W.kxs_mw, mw, if_true]
  refine PySem.W.KFB.if_so (by decide) (wpAny_bind (PySem.W.check_bound_init F.excBase_ValueError.toExcCallFacts hC he rfl (wpAny_bind (wpAny_pure (wpAny_pure ⟨plainId_quiet F.excBase_ValueError.init.plain _, ?_⟩)))))
  refine codeAny_builtin F.excBase_ValueError.initEntry ?_
  exact PySem.W.exc_init_tree (cls := .ref C) (t0 := t0) (dv := none) (c2 := .none) (c3 := .none) (b4 := .bool false) he hr fun h' k e' _ => fin h' _ k e'
/-- what __init__ leaves -/
structure BadEnd (h h' : Heap) (x C dx t1 : Addr) (v : Value) : Prop where
  keep : ∀ b o, b ≠ x → h.get? b = some o → h'.get? b = some o
  obj : h'.get? x = some { cls := .ref C, dict := some dx, data := .fields #[.ref t1, .none, .none, .none, .bool false, .none] }
  new : h.objs.size ≤ dx
  ne : dx ≠ x
  ns : h'.Ns1 dx (fun y => if y = "line" then some v else none)
theorem bad_init (T : BadTxt P K mg x q C fI) {e t0 : Addr} {n : Int} {tk : Tok} (hn : n.natAbs.log2 < 1920) (X : K.In hp) (gl : hp.Ns mainGlobals mg) {mb : Str → Option Value} (gb : hp.Ns builtinsNs mb) (bb : ∀ y : Str, y ≠ "__name__" → mb y = bootBuiltins y) (lim : hp.NoLimit)
    (he : hp.get? e = some (PySem.HandSPX.excO C t0)) (hne : K.lookup e = none) (room : A.depth < recursionLimit) (fin : ∀ h' tk' dx t1, BadEnd hp h' e C dx t1 (.int n tk) → R (.ok (.ret .none)) ⟨h', g, d, tk', os⟩) :
    codeAny (model P w) A (.call (.ref fI) ⟨[.ref e, .int n tk], []⟩) R ⟨hp, g, d, t, os⟩ := by
  obtain ⟨oc, od, doc, pm, an, ct, osl, cda, cc, ccl, cdd, vs, ccs, file, tf, cl, cld, csl, p1, p2, z1, z2, j1, j2, q1, q2, q3, q4, q5, q6, q7, q8, q9, q10, q11, q12, q13, q14, l1, l2, ⟨pl, ev⟩, ho, hcd, hcode, hvs, hfile, hcell⟩ := T.fn
  obtain ⟨nm, qn, N, bs, bm, sn, sub, ab, col, dd, k0, k1, k2, k3, k5, hC, hbm⟩ := T.cls
  have hcl : PySem.W.clsIn K C = some { name := nm, bases := bs, mro := .ref C :: bm, ns := N, qualname := qn, hasDict := true, slotNames := sn, subclasses := sub, abstract := ab, collection := col, hasDel := false } := by unfold PySem.W.clsIn; rw [hC]
  refine ks_codeAny_call_defAt (fd := PySem.W.ksFn "__init__" q (iArgs p1 p2) (iBody z1 z2 j1 j2 q1 q2 q3 q4 q5 q6 q7 q8 q9 q10 q11 q12 q13 q14) iScope .none .none doc pm an (.ref cda) ct cc) (body := iBody z1 z2 j1 j2 q1 q2 q3 q4 q5 q6 q7 q8 q9 q10 q11 q12 q13 q14)
    (binds := [("self", .ref e), ("line", .int n tk)]) room (X _ _ ho) rfl lim (PySem.W.codeRec_of X hcd) rfl (BindsTo.of_eq (by first | rfl | with_unfolding_all rfl)) i_nocell (i_loc _ _) (fun h1 ns1 kp1 => ?_) rfl rfl rfl
  have kp : ∀ b o, hp.get? b = some o → h1.get? b = some o := kp1
  have X1 : K.In h1 := X.keeps kp
  have eL : e ≠ hp.objs.size := Nat.ne_of_lt (Heap.lt_size he)
  have ms : (fun y : Str => (List.lookup y [(("self" : Str), Value.ref e), (("line" : Str), Value.int n tk)].reverse)) "self" = some (.ref e) := by rfl
  have ml : (fun y : Str => (List.lookup y [(("self" : Str), Value.ref e), (("line" : Str), Value.int n tk)].reverse)) "line" = some (.int n tk) := by rfl
  refine ks_wpAt_execs_cons (ks_wpAt_Expr_any (ks_wpAt_MethodCall ?_ (ev _)))
  -- super()
  refine ks_wpAt_super_base (f := fI) (cc := cda) (ar := { arg := "self", annotation := none, pos := p1 }) (by rfl) (by rfl) (by decide) rfl (X1 _ _ ho) rfl rfl rfl (X1 _ _ hcode) rfl hvs hfile T.top ?_
  refine PySem.W.ks_loadName_global (by rfl) (by rfl) (Calls.loadGlobal_builtin (gl.keeps kp) T.free (gb.keeps kp) ((bb _ (by decide)).trans (by rfl)) ⟨rfl, ?_⟩)
  refine wpAny_loadName_free (c := cc) (v := .ref C) (by rfl) (by rfl) (by rfl) ⟨_, X1 _ _ hcell, rfl⟩ ?_
  refine wpAny_loadName_local (by rfl) (by rfl) ns1 ms ?_
  obtain ⟨oC, hC1, hC2⟩ : ∃ oC, h1.get? C = some oC ∧ oC.data = .cls { name := nm, bases := bs, mro := .ref C :: bm, ns := N, qualname := qn, hasDict := true, slotNames := sn, subclasses := sub, abstract := ab, collection := col, hasDel := false } := ⟨_, X1 _ _ hC, rfl⟩
  refine ks_wpAny_isType_cls hC1 hC2 ⟨rfl, ?_⟩
  refine ks_wpAny_call_super hC1 hC2 (kp _ _ he) rfl (fun c z => nomatch z) (PySem.W.looks_mroIn X1 T.own) fun h2 so2 kp2 => ?_
  -- .__init__
  have he2 : h2.get? e = some (PySem.HandSPX.excO C t0) := kp2 _ _ (kp _ _ he)
  have X2 : K.In h2 := X1.keeps kp2
  have eC : e ≠ C := fun z => by
    have := X _ _ hC
    rw [← z, he] at this
    cases this
  have I2 : PySem.W.InstAt h2 e (PySem.HandSPX.excO C t0) C none := ⟨he2, rfl, rfl, trivial⟩
  have sup := T.sup
  unfold PySem.W.ks_superIn at sup
  rw [hcl] at sup
  refine PySem.W.kxs_getMethod PySem.W.kxs_ValueError so2 (PySem.W.looks_opaque X2 T.opq) (l₀ := .ref C :: bm) (fun A Q E s k z => wpAny_bind ((PySem.W.looks_clsIn X2 hcl) A _ E s k (wpAny_pure z))) rfl X2 sup (I2.type.andThen (PySem.W.looks_subIn X2 T.veC)) eC (by decide) ?_
  -- the call
  have kp3 : ∀ b o, h2.get? b = some o → (h2.push (PySem.W.kxs_mw "ValueError.__init__" e)).get? b = some o := fun b o z => Heap.get?_push_of_some _ z
  refine PySem.W.kxs_callWith (i := "ValueError.__init__") (x := e) (by rfl) ?_
  show wpAny _ _ (evalArgs (.ref h2.objs.size) true [(false, eval (iMsg z1 _ j1 j2 q1 q2 q3 q4 q5) _)] []) _ _ _
  refine Calls.evalArgs_plain (Calls.spliced_cons ?_)
  have ns3 := ((ns1.keeps kp2).keeps kp3)
  refine wpAny_JoinedStr (Calls.Constant_str ⟨_, _, rfl, ?_, ?_⟩)
  · rw [Str.length_append, sizeLine_eq]
    have : Str.empty.length = 0 := rfl
    omega
  refine wpAny_FormattedValue_plain (wpAny_Name (wpAny_loadName_local (by rfl) (by rfl) ns3 ml (wpAny_formatField_int hn ⟨_, _, rfl, ?_, ?_⟩)) (by decide))
  · rw [Str.length_append, Str.length_append, sizeLine_eq, PySem.ofString_length]
    have : Str.empty.length = 0 := rfl
    have := int_text_length_le (k := 1920) (by decide) hn
    omega
  refine Calls.Constant_str ⟨_, _, rfl, ?_, ?_⟩
  · rw [Str.length_append, Str.length_append, Str.length_append, sizeLine_eq, PySem.ofString_length]
    have : Str.empty.length = 0 := rfl
    have := int_text_length_le (k := 1920) (by decide) hn
    omega
  refine ⟨?_, Calls.spliced_nil ⟨Heap.get?_push_size _ rfl, ?_⟩⟩
  · rw [Str.length_append, Str.length_append, Str.length_append, sizeLine_eq, PySem.ofString_length]
    have : Str.empty.length = 0 := rfl
    have := int_text_length_le (k := 1920) (by decide) hn
    omega
  refine call_mw (kp3 _ _ (X2 _ _ hC)) (kp3 _ _ he2) (Heap.get?_push_size _ rfl) (by rw [sizeLine_eq]; show 1 ≤ _; decide) fun h4 t4 kp4 he4 => ?_
  -- self.line = line
  have kp5 : ∀ b o, b ≠ e → h2.get? b = some o → h4.get? b = some o := fun b o z y => kp4 b o z (kp3 b o y)
  have oldE : ∀ b o, K.lookup b = some o → b ≠ e := fun b o z y => by
    rw [y, hne] at z
    cases z
  have X4 : K.In h4 := fun b o z => kp5 b o (oldE b o z) (X2 b o z)
  have ns4 := (ns1.keeps kp2).at fun o z => kp5 hp.objs.size o (Ne.symm eL) z
  dsimp only
  refine ks_wpAt_execs_cons (ks_wpAt_Assign_Attr ?_)
  refine wpAt_of_wpAny (wpAny_Name ?_ (by decide))
  refine wpAny_loadName_local (by rfl) (by rfl) ns4 ml ?_
  refine wpAny_Name ?_ (by decide)
  refine wpAny_loadName_local (by rfl) (by rfl) ns4 ms ?_
  refine PySem.W.set_plain X4 (ox := PySem.HandSPX.excO C t4) (od := none) ⟨he4, rfl, rfl, trivial⟩ T.sa ?_
  refine PySem.HandSPX.exc_osa X4 he4 hcl (show PySem.HandSPX.refsVE (.ref C :: bm) = true from hbm) rfl T.noL (fun h6 t6 dx kp6 new ne obj ns => ?_)
  dsimp only
  have lt2 : hp.objs.size ≤ h4.objs.size := by
    have z : hp.objs.size < h4.objs.size := ns4.lt
    exact Nat.le_of_lt z
  show _root_.PySem.wpAt _ _ _ (execs [] _) _ _ _
  refine wpAt_of_wpAny (wpAny_execs_nil (fin h6 t6 dx t4 ⟨fun b o z y => kp6 b o z (kp5 b o z (kp2 b o (kp b o y))), obj, Nat.le_trans lt2 new, ne, ns⟩))
end
end
end Mb
end

section
set_option Elab.async false
set_option linter.all false
set_option maxRecDepth 100000
set_option maxHeartbeats 3200000
/-! Mb37: such an exception made, raised, caught -/
namespace Mb
noncomputable section
open PySem PySem.Spec PyProof.Rows L2

structure BadMade (h h' : Heap) (e C d : Addr) (v : Value) : Prop where
  keep : ∀ b o, h.get? b = some o → h'.get? b = some o
  new : h.objs.size ≤ e
  obj : ∃ oe vs, h'.get? e = some oe ∧ oe.cls = .ref C ∧ oe.dict = some d ∧ oe.data = .fields vs ∧ vs[1]? = some .none
  dnew : h.objs.size ≤ d
  dne : d ≠ e
  ns : h'.Ns1 d (fun y => if y = "line" then some v else none)
section
variable {P : Program} {w : World} {A : Around} {E : Value → Shared → Prop} {R : Result → Shared → Prop} {K : PySem.W.Frag} {mg mb : Str → Option Value} {x q : Str} {C fI : Addr}
theorem bad_made {s : Shared} (T : BadTxt P K mg x q C fI) {n : Int} {tk : Tok} (hn : n.natAbs.log2 < 1920) (X : K.In s.heap) (gl : s.heap.Ns mainGlobals mg) (gb : s.heap.Ns builtinsNs mb) (bb : ∀ y : Str, y ≠ "__name__" → mb y = bootBuiltins y) (lim : s.heap.NoLimit)
    (room : A.depth + 1 < recursionLimit) (fin : ∀ h' tk' e d, BadMade s.heap h' e C d (.int n tk) → R (.ok (.ret (.ref e))) { s with heap := h', toks := tk' }) : codeAny (model P w) A (.call (.ref C) ⟨[.int n tk], []⟩) R s := by
  obtain ⟨nm, qn, N, bs, bm, sn, sub, ab, col, dd, k0, k1, k2, k3, k5, hC, hbm⟩ := T.cls
  obtain ⟨hp, g, dr, tk0, os⟩ := s
  have kp : ∀ b o, hp.get? b = some o → ((hp.push (PySem.W.kdv_tup [Value.int n tk])).push (PySem.HandSPX.excO C hp.objs.size)).get? b = some o := fun b o e => Heap.get?_push_of_some _ (Heap.get?_push_of_some _ e)
  have at1 : ((hp.push (PySem.W.kdv_tup [Value.int n tk])).push (PySem.HandSPX.excO C hp.objs.size)).get? (hp.objs.size + 1) = some (PySem.HandSPX.excO C hp.objs.size) := by heap_get
  have out : K.lookup (hp.objs.size + 1) = none := by
    cases e : K.lookup (hp.objs.size + 1) with
    | none => rfl
    | some o => exact absurd (Nat.lt_of_succ_lt (Heap.lt_size (X _ _ e))) (Nat.lt_irrefl _)
  refine PySem.HandSPX.call_own F.excBase_ValueError (fun Y => PySem.HandSPX.refsVE_contains Y bm hbm) (X _ _ hC) (PySem.W.looks_findIn X T.iC) (fun self => PySem.W.bind_fn X self T.tI) (by rw [sizeLine_eq]; exact (by decide : 1 ≤ 16777216)) ?_
  refine bad_init T hn (X.keeps kp) (gl.keeps kp) (gb.keeps kp) bb (lim.keeps kp) at1 out room fun h' tk' dx t1 B => ⟨rfl, ?_⟩
  have old : ∀ b o, hp.get? b = some o → h'.get? b = some o := fun b o e => B.keep b o (Nat.ne_of_lt (Nat.lt_succ_of_lt (Heap.lt_size e))) (kp b o e)
  have z : hp.objs.size + 1 + 1 ≤ dx := by
    first
      | (simpa only [Heap.size_push] using B.new)
      | (have q := B.new; rw [Heap.size_push, Heap.size_push] at q; exact q)
  exact fin h' tk' (hp.objs.size + 1) dx ⟨old, Nat.le_succ _, ⟨_, _, B.obj, rfl, rfl, rfl, rfl⟩, Nat.le_trans (Nat.le_trans (Nat.le_succ _) (Nat.le_succ _)) z, B.ne, B.ns⟩
end
theorem relO_line {v : V} {u : Value} (r : RelV v u) (f : Str) : RelO (List.lookup f [(("line" : Str), v)]) (if f = "line" then some u else none) := by
  by_cases h : f = "line"
  · subst h
    rw [if_pos rfl]
    have e : List.lookup ("line" : Str) [(("line" : Str), v)] = some v := by simp [List.lookup]
    rw [e]
    exact r
  · rw [if_neg h]
    have e : (f == ("line" : Str)) = false := by simpa using h
    have e2 : List.lookup f [(("line" : Str), v)] = none := by simp [List.lookup, e]
    rw [e2]
    trivial
section
variable {X : Cx} {p : Pm} {x q : Str} {C fI : Addr}
theorem mk_line {k : Nat} (T : BadTxt X.prog X.K X.mg x q C fI) (hK : X.K = p.K) (hmg : X.mg = p.mg) (hr : Room k X.A) : MkR X p x (mkLine x) := by
  intro Wx m f e es p' pos hg hdb he hpl ha pins s σ H Q I h
  refine wpAny_Call_Name_kw (ld_glob I hg T.gC ?_ hdb)
  refine PySem.W.callWith_K (h₀ := X.base) I.ok.mod.kin T.kC (thn (ha.run pos pins s σ H _ I h) fun us s1 hh => ⟨?_, ?_⟩) he hpl
  · obtain ⟨vs, H1, I1, _⟩ := hh
    exact I1.kIn
  obtain ⟨vs, H1, I1, r1, as, G, x', sg, b, hF, k1⟩ := hh
  unfold mkLine at hF
  split at hF
  · rename_i n0 i
    split at hF
    · rename_i hz
      cases hF
      obtain ⟨v, rfl, b1⟩ := boOne b
      have ev := bo_int sg b1
      subst ev
      cases r1 with
      | cons rv rn =>
        cases rn
        obtain ⟨tk, rfl⟩ := rv
        show wpAny _ _ (call (.ref C) [Value.int i tk]) _ _ _
        obtain ⟨mb, gb, bb⟩ := I1.mod.blt
        have lim := I1.nolimit
        have KX := I1.kIn
        have gl := I1.mod.glob.keeps I1.bk
        have gb' := gb.keeps I1.bk
        obtain ⟨hp, g, dr, t1, os⟩ := s1
        refine wpAny_call (bad_made T hz KX gl gb' bb lim (by have := hr.dp; omega) fun h' tk' a d M => ?_)
        show MkP X pins σ Q (.ref a) ⟨h', g, dr, tk', os⟩
        obtain ⟨oe, fv, hoe, hc, hd, hdat, h1⟩ := M.obj
        obtain ⟨G', g1, g2⟩ := restrict h' fun b => decide (b ≠ a)
        have gk : ∀ b, b ≠ a → G'.get? b = h'.get? b := fun b hb => g1 b (decide_eq_true hb)
        have ge : G'.get? a = none := g2 a (by simp)
        have old : ∀ b o, hp.get? b = some o → G'.get? b = some o := fun b o y => (gk b (Nat.ne_of_lt (Nat.lt_of_lt_of_le (Heap.lt_size y) M.new))).trans (M.keep b o y)
        have ob : ObjOk X.prog X.w (upd H1 d (.xd [(("line" : Str), V.int i)])) G' d (.xd [(("line" : Str), V.int i)]) := ⟨_, M.ns.at (fun o y => (gk d M.dne).trans y), fun f => relO_line (v := V.int i) (u := Value.int i tk) ⟨tk, rfl⟩ f⟩
        have J : Inv X pins σ (upd H1 d (.xd [(("line" : Str), V.int i)])) ⟨G', g, dr, tk', os⟩ := I1.laid (t' := tk') old M.dnew ob
        have nd : H1 d = none := I1.hok.fresh M.dnew
        refine ⟨a, oe, fv, ⟨G', g, dr, tk', os⟩, _, .ref C, some d, rfl, J, fun b o y => ?_, ge, hoe, ⟨hc, hd⟩, hdat, h1, ?_, rfl, I1.bare, raises_own T.exC T.tyC, k1 (.ref C) (some d) _ (.inr ⟨d, _, nd, rfl⟩) ⟨C, ?_, rfl, .inr ⟨d, _, rfl, upd_same, .cons ⟨rfl, .int i⟩ .nil⟩⟩⟩
        · by_cases hb : b = a
          · have y' : G'.get? b = some o := y
            rw [hb, ge] at y'
            cases y'
          · exact (gk b hb).symm.trans y
        · rw [upd_ne (Ne.symm M.dne)]
          exact I1.hok.fresh M.new
        · rw [← hmg]
          exact T.gC
    · cases hF
  · cases hF
theorem ex_line {k : Nat} (T : BadTxt X.prog X.K X.mg x q C fI) (hK : X.K = p.K) (hmg : X.mg = p.mg) (hr : Room k X.A) : ExOk X p (x, mkLine x) :=
  ⟨⟨C, by rw [← hmg]; exact T.gC, by rw [← hK]; exact T.te, T.xf, T.noL⟩, fun pn xe => mk_line (X := X.tr pn xe) T hK hmg hr⟩
/-- an own exception without __init__, made with a text -/
structure TxtC (K : PySem.W.Frag) (mg : Str → Option Value) (x : Str) (C : Addr) : Prop where
  gC : mg x = some (.ref C)
  exc : PySem.W.excIn K C He.veBase "ValueError.__new__" = true
  kC : PySem.W.keepIn K (.ref C) = true
  exC : PySem.W.subIn K (.ref C) (.type "BaseException") = some true
  tyC : PySem.W.typeIn K (.ref C) = some (.type "type")
  te : PySem.W.exmOne K (.ref C) (.ref C) = some true
  xf : XfC K C
  noL : PySem.W.findIn K (.ref C) "line" = some none
theorem mk_txt {x : Str} {C : Addr} (T : TxtC X.K X.mg x C) (hmg : X.mg = p.mg) : MkR X p x (mkTxt x) := by
  intro Wx m f e es p' pos hg hdb he hpl ha pins s σ H Q I h
  refine wpAny_Call_Name_kw (ld_glob I hg T.gC ?_ hdb)
  refine PySem.W.callWith_K (h₀ := X.base) I.ok.mod.kin T.kC (thn (ha.run pos pins s σ H _ I h) fun us s1 hh => ⟨?_, ?_⟩) he hpl
  · obtain ⟨vs, H1, I1, _⟩ := hh
    exact I1.kIn
  obtain ⟨vs, H1, I1, r1, as, G, x', sg, b, hF, k1⟩ := hh
  unfold mkTxt at hF
  split at hF
  · cases hF
    obtain ⟨v, rfl, b1⟩ := boOne b
    cases r1 with
    | cons rv rn =>
      cases rn
      rename_i u
      show wpAny _ _ (call (.ref C) [u]) _ _ _
      obtain ⟨bm, N, nm, qn, bs, hdct, sn, sub, ab, col, dd, k0, k1', k2, k3, k5, mN, hC, hN, hni, T2⟩ := exc_obj I1.kIn T.exc
      refine wpAny_call_exc_subT F.excBase_ValueError T2 hC hN hni (fun h' a hm => ?_) (by rw [sizeLine_eq]; exact (by decide : 1 ≤ 16777216))
      exact mk_of I1 hm (raises_own T.exC T.tyC) (k1 (.ref C) none H1 (.inl rfl) ⟨C, by rw [← hmg]; exact T.gC, rfl, .inl ⟨rfl, rfl⟩⟩) (I1.hok.gone hm.new)
  · cases hF
theorem ex_txt {x : Str} {C : Addr} (T : TxtC X.K X.mg x C) (hK : X.K = p.K) (hmg : X.mg = p.mg) : ExOk X p (x, mkTxt x) :=
  ⟨⟨C, by rw [← hmg]; exact T.gC, by rw [← hK]; exact T.te, T.xf, T.noL⟩, fun pn xe => mk_txt (X := X.tr pn xe) T hmg⟩
end
end
end Mb
end

section
set_option Elab.async false
set_option linter.all false
set_option maxRecDepth 100000
set_option maxHeartbeats 2000000
/-! Mb38: the head's facts -/
namespace Mb
noncomputable section
open PySem PySem.Spec PyProof.Rows L2

/-! ### constants -/
mutual
def datB (K : PySem.W.Frag) : PyData → Value → Bool
  | .none, u => match u with
    | .none => true
    | _ => false
  | .bool b, u => match u with
    | .bool c => b == c
    | _ => false
  | .int i, u => match u with
    | .int j _ => decide (i = j)
    | _ => false
  | .str x, u => match u with
    | .str y _ => decide (x = y)
    | _ => false
  | .tuple ds, u => match u with
    | .ref a => match K.lookup a with
      | some ⟨.type c, _, .seq its _, _⟩ => decide (c = "tuple") && (decide (its.size ≤ sizeLine) && datAll K ds its.toList)
      | _ => false
    | _ => false
  | _, _ => false
def datAll (K : PySem.W.Frag) : List PyData → List Value → Bool
  | [], us => match us with
    | [] => true
    | _ => false
  | d :: ds, us => match us with
    | u :: us => datB K d u && datAll K ds us
    | _ => false
end
mutual
theorem datB_ok {K : PySem.W.Frag} : ∀ {d : PyData} {u : Value}, datB K d u = true → ∃ v, RelV v u ∧ ∀ G, Rz K G v d
  | .none, u, h => by unfold datB at h; split at h <;> first | exact ⟨.non, rfl, fun _ => .non⟩ | cases h
  | .bool b, u, h => by
    unfold datB at h
    split at h
    · rw [beq_iff_eq.mp h]; exact ⟨.bl _, rfl, fun _ => .bl _⟩
    · cases h
  | .int i, u, h => by
    unfold datB at h
    split at h
    · rw [of_decide_eq_true h]; exact ⟨.int _, ⟨_, rfl⟩, fun _ => .int _⟩
    · cases h
  | .str x, u, h => by
    unfold datB at h
    split at h
    · rw [of_decide_eq_true h]; exact ⟨.str _, ⟨_, rfl⟩, fun _ => .str _⟩
    · cases h
  | .tuple ds, u, h => by
    unfold datB at h
    split at h
    · split at h
      · rename_i a x1 c od its n sl hk
        simp only [Bool.and_eq_true, decide_eq_true_eq] at h
        obtain ⟨h1, h2, h3⟩ := h
        obtain ⟨vs, r, z⟩ := datAll_ok h3
        subst h1
        exact ⟨.ref a, rfl, fun G => .tup (.inr ⟨_, its, n, hk, rfl, rfl, h2, r⟩) (z G)⟩
      · cases h
    · cases h
  | .list _, u, h => by unfold datB at h; cases h
  | .dict _, u, h => by unfold datB at h; cases h
theorem datAll_ok {K : PySem.W.Frag} : ∀ {ds : List PyData} {us : List Value}, datAll K ds us = true → ∃ vs, Vals vs us ∧ ∀ G, RzAll K G vs ds
  | [], us, h => by unfold datAll at h; split at h <;> first | exact ⟨[], .nil, fun _ => .nil⟩ | cases h
  | d :: ds, us, h => by
    unfold datAll at h
    split at h
    · rw [Bool.and_eq_true] at h
      obtain ⟨v, r, z⟩ := datB_ok h.1
      obtain ⟨vs, rs, zs⟩ := datAll_ok h.2
      exact ⟨v :: vs, .cons r rs, fun G => .cons (z G) (zs G)⟩
    · cases h
end
def glbB (K : PySem.W.Frag) (q : Str × PyData) : Bool := match PySem.W.nsIn K mainGlobals q.1 with
  | some (some u) => datB K q.2 u
  | _ => false
theorem glbB_ok {K : PySem.W.Frag} {h : Heap} {mg : Str → Option Value} {q : Str × PyData} (X : K.In h) (G : h.Ns mainGlobals mg) (c : glbB K q = true) : ∃ u v, mg q.1 = some u ∧ RelV v u ∧ ∀ G, Rz K G v q.2 := by
  unfold glbB at c
  split at c
  · rename_i u e
    obtain ⟨v, r, z⟩ := datB_ok c
    exact ⟨u, v, PySem.W.mg_of X G e, r, z⟩
  · cases c
def freeB (K : PySem.W.Frag) (x : Str) : Bool := decide (PySem.W.nsIn K mainGlobals x = some none)
theorem freeB_ok {K : PySem.W.Frag} {h : Heap} {mg : Str → Option Value} {x : Str} (X : K.In h) (G : h.Ns mainGlobals mg) (c : freeB K x = true) : mg x = none := PySem.W.mg_none_of X G (of_decide_eq_true c)

/-! ### exceptions -/
def clsVE (K : PySem.W.Frag) (C : Addr) : Bool := match K.lookup C with
  | some ⟨.type "type", _, .cls cd, sl⟩ => match cd.mro, sl.toList with
    | .ref D :: bm, [_, _, _, _, some (.builtin n), _] => decide (D = C) && (decide (n = "ValueError.__new__") && (cd.hasDict && (!cd.hasDel && PySem.HandSPX.refsVE bm)))
    | _, _ => false
  | _ => false
theorem clsVE_ok {K : PySem.W.Frag} {C : Addr} (h : clsVE K C = true) : ∃ nm q N bs bm sn sub ab col dd k0 k1 k2 k3 k5, K.lookup C = some (excClassObj nm q C N bs bm true sn sub ab col dd k0 k1 k2 k3 k5 "ValueError.__new__") ∧ PySem.HandSPX.refsVE bm = true := by
  unfold clsVE at h
  split at h
  · rename_i od cd sl hk
    split at h
    · rename_i D bm k0 k1 k2 k3 n k5 e1 e2
      simp only [Bool.and_eq_true, decide_eq_true_eq, Bool.not_eq_true'] at h
      obtain ⟨h1, h2, h3, h4, h5⟩ := h
      obtain ⟨nm, bs, mro, ns, qn, hd, sn, sub, ab, col, del⟩ := cd
      dsimp only at e1 h3 h4
      have e3 : sl = #[k0, k1, k2, k3, some (.builtin n), k5] := by
        cases sl
        simp only at e2
        rw [e2]
      subst e1 h1 h2 h3 h4 e3
      exact ⟨nm, qn, ns, bs, bm, sn, sub, ab, col, od, k0, k1, k2, k3, k5, hk, h5⟩
    · cases h
  · cases h
def exB0 (K : PySem.W.Frag) (x : Str) : Bool := decide (PySem.W.nsIn K mainGlobals x = some (some (.ref (He.ga K x)))) && (PySem.W.keepIn K (.ref (He.ga K x)) && (decide (PySem.W.subIn K (.ref (He.ga K x)) (.type "BaseException") = some true) &&
  (decide (PySem.W.typeIn K (.ref (He.ga K x)) = some (.type "type")) && (decide (PySem.W.exmOne K (.ref (He.ga K x)) (.ref (He.ga K x)) = some true) && (xfB K (He.ga K x) && decide (PySem.W.findIn K (.ref (He.ga K x)) "line" = some none))))))
def txtB (K : PySem.W.Frag) (x : Str) : Bool := exB0 K x && PySem.W.excIn K (He.ga K x) He.veBase "ValueError.__new__"
theorem txtB_ok {K : PySem.W.Frag} {h : Heap} {mg : Str → Option Value} {x : Str} (X : K.In h) (G : h.Ns mainGlobals mg) (c : txtB K x = true) : TxtC K mg x (He.ga K x) := by
  unfold txtB exB0 at c
  simp only [Bool.and_eq_true, decide_eq_true_eq] at c
  obtain ⟨⟨h1, h2, h3, h4, h5, h6, h7⟩, h8⟩ := c
  exact ⟨PySem.W.mg_of X G h1, h8, h2, h3, h4, h5, xfB_ok h6, h7⟩
abbrev FnX : Type := Option (Str × Str × Arguments × FuncBody × Scope × Addr × List Str × Addr)
def fnXo (K : PySem.W.Frag) (x : Str) : FnX := match K.lookup (He.ma K (He.ga K x) "__init__") with
  | some ⟨_, _, .func fd, _⟩ => some (fd.name, fd.qualname, fd.params, fd.body, fd.scope, fd.globals, fd.closure.map (·.1), fd.builtins)
  | _ => none
def fnXv (q : Str) (params : Arguments) (body : List Stmt) (scope : Scope) : FnX := some ("__init__", q, params, .stmts body, scope, mainGlobals, ["__class__"], builtinsNs)
def badB (P : Program) (K : PySem.W.Frag) (x : Str) : Bool := exB0 K x && (clsVE K (He.ga K x) && (decide (PySem.W.findIn K (.ref (He.ga K x)) "__setattr__" = some (some (.builtin "object.__setattr__"))) &&
  (decide (PySem.W.findIn K (.ref (He.ga K x)) "__init__" = some (some (.ref (He.ma K (He.ga K x) "__init__")))) && (decide (PySem.W.typeIn K (.ref (He.ma K (He.ga K x) "__init__")) = some (.type "function")) &&
  (decide (PySem.W.subIn K (.ref (He.ga K x)) (.type "ValueError") = some true) && (decide (PySem.W.ks_superIn K (He.ga K x) (He.ga K x) "__init__" = some (some (.builtin "ValueError.__init__"))) &&
  (decide (PySem.W.mroIn K (He.ga K x) (.ref (He.ga K x)) = some true) && (decide (PySem.W.nsIn K cStatics "thirdparty.any" = some none) && (freeB K "super" && (!(P.main.scope.names.lookup ("super" : Str)).isSome &&
  match K.lookup (He.ma K (He.ga K x) "__init__") with
  | some ⟨_, _, .func fd, _⟩ => match fd.closure, fd.code, fd.defaults, fd.kwdefaults with
    | [(_, cc)], .ref cda, .none, .none => PySem.W.codeIn K (.ref cda) fd.qualname && ((match K.lookup cda with
      | some ⟨_, _, .fields vs, _⟩ => match (vs[2]? : Option Value) with
        | some (.str file _) => (P.main.file : Str) == file
        | _ => false
      | _ => false) && match K.lookup cc with
      | some ⟨_, _, .cell (some (.ref D)), _⟩ => decide (D = He.ga K x)
      | _ => false)
    | _, _, _, _ => false
  | _ => false))))))))))
theorem badB_ok {P : Program} {K : PySem.W.Frag} {h : Heap} {mg : Str → Option Value} {x q : Str} {p1 p2 : Pos} {z1 z2 : Str} {j1 j2 : Nat} {q1 q2 q3 q4 q5 q6 q7 q8 q9 q10 q11 q12 q13 q14 : Pos} (X : K.In h) (G : h.Ns mainGlobals mg) (c : badB P K x = true)
    (e : fnXo K x = fnXv q (iArgs p1 p2) (iBody z1 z2 j1 j2 q1 q2 q3 q4 q5 q6 q7 q8 q9 q10 q11 q12 q13 q14) iScope) (l1 : z1.length < 1000) (l2 : z2.length < 1000) (ev : iEval (iMsg z1 z2 j1 j2 q1 q2 q3 q4 q5) q6 q7 q8 q9) :
    BadTxt P K mg x q (He.ga K x) (He.ma K (He.ga K x) "__init__") := by
  unfold badB exB0 at c
  simp only [Bool.and_eq_true, decide_eq_true_eq, Bool.not_eq_true'] at c
  obtain ⟨⟨a1, a2, a3, a4, a5, a6, a7⟩, b1, b2, b3, b4, b5, b6, b7, b8, b9, b10, b11⟩ := c
  refine ⟨PySem.W.mg_of X G a1, clsVE_ok b1, b2, a7, b3, b4, a2, a3, b5, a4, a5, xfB_ok a6, b6, b7, b8, freeB_ok X G b9, b10, ?_⟩
  unfold fnXo at e
  split at b11
  · rename_i oc od fd osl hk
    rw [hk] at e
    split at b11
    · rename_i cn cc cda h1 h2 h3 h4
      rw [Bool.and_eq_true, Bool.and_eq_true] at b11
      obtain ⟨c1, c2, c3⟩ := b11
      split at c2
      · rename_i ccl cdd vs ccs hk2
        split at c2
        · rename_i file tf hv
          split at c3
          · rename_i cl cld D csl hk3
            have c3 := of_decide_eq_true c3
            subst c3
            obtain ⟨n1, n2, n3, n4, n5, n6, n7, n8, n9, n10, n11, n12, n13, n14, n15⟩ := fd
            dsimp only at h1 h2 h3 h4 e c1
            unfold fnXv at e
            simp only [Option.some.injEq, Prod.mk.injEq] at e
            obtain ⟨e1, e2, e3, e4, e5, e6, e7, e8⟩ := e
            subst h1 h2 h3 h4
            have e7 : cn = "__class__" := by simpa using e7
            subst e1 e2 e3 e4 e5 e6 e7 e8
            exact ⟨oc, od, n10, n11, n12, n14, osl, cda, cc, ccl, cdd, vs, ccs, file, tf, cl, cld, csl, p1, p2, z1, z2, j1, j2, q1, q2, q3, q4, q5, q6, q7, q8, q9, q10, q11, q12, q13, q14, l1, l2, ev, hk, c1, hk2, hv, c2, hk3⟩
          · cases c3
        · cases c2
      · cases c2
    · cases b11
  · cases b11

/-! ### the hook -/
abbrev AlX : Type := He.AlD × List FnX
def frX (g : Addr → Option Obj) (n : Nat) : PySem.W.Frag := He.frG g (cStatics :: He.asD g n)
def obsX (n : Nat) (fn : List He.DefD) (fi : List Str) (ex : PySem.W.Frag → Bool) (g : Addr → Option Obj) : AlX := (((fn.all fun d => d.ok (frX g n)) && ex (frX g n), fn.map fun d => He.fnW (frX g n) d.at_), fi.map fun x => fnXo (frX g n) x)
def valX (fn : List He.DefD) (fv : List FnX) : AlX := (He.valD fn, fv)
structure SaysX (fn : List He.DefD) (fi : List Str) (fv : List FnX) (ex : PySem.W.Frag → Bool) (K : PySem.W.Frag) : Prop where
  fns : He.SaysD [] fn K
  ex : ex K = true
  fx : fi.map (fun x => fnXo K x) = fv
def hookX (n : Nat) (fn : List He.DefD) (fi : List Str) (fv : List FnX) (ex : PySem.W.Frag → Bool) : PySem.W.Hook where
  α := AlX
  obs := fun s => obsX n fn fi ex s.heap.get?
  val := fun _ => valX fn fv
  says := fun _ h => ∃ K : PySem.W.Frag, K.In h ∧ SaysX fn fi fv ex K
  of := fun _ s e => by
    have e1 := congrArg (fun z : AlX => z.1.1) e
    have e2 := congrArg (fun z : AlX => z.1.2) e
    have e3 := congrArg (fun z : AlX => z.2) e
    have e1 := Bool.and_eq_true_iff.mp e1
    refine ⟨frX s.heap.get? n, He.frG_in, ⟨Prod.ext ?_ e2, e1.2, e3⟩⟩
    show (([] : List He.Fa).all (fun f => f.ok (frX s.heap.get? n)) && fn.all fun d => d.ok (frX s.heap.get? n)) = true
    rw [List.all_nil, Bool.true_and]
    exact e1.1
  keeps := fun _ _ _ ⟨K, hK, c⟩ k => ⟨K, PySem.W.Frag.In.keeps hK k, c⟩
theorem obsX_eq {n : Nat} {fn : List He.DefD} {fi : List Str} {fv : List FnX} {ex : PySem.W.Frag → Bool} {g : Addr → Option Obj} {s : Shared} (h : ∀ a, g a = s.heap.get? a) : obsX n fn fi ex g = (hookX n fn fi fv ex).obs s := by
  have e : g = s.heap.get? := funext h
  rw [e]; rfl
end
end Mb
end

section
set_option Elab.async false
set_option linter.all false
set_option maxRecDepth 100000
set_option maxHeartbeats 2000000
/-! Mb39: the defs of a module, one behind another -/
namespace Mb
noncomputable section
open PySem PySem.Spec PyProof.Rows L2
section
variable {P : Program} {w : World} {K : PySem.W.Frag} {mg : Str → Option Value} {base : Heap} {k : Nat} {blt : List Str} {glb : List (Str × PyData)} {exs : List (Str × (List Ent → Option Exn))} {l : List (Str × FD)}
theorem gm_nil (h1 : ∀ x, blt.contains x = true → mg x = none) (h2 : ∀ q ∈ glb, ∃ u v, mg q.1 = some u ∧ RelV v u ∧ ∀ G, Rz K G v q.2)
    (h3 : ∀ q ∈ exs, ∀ (X : Cx), X.prog = P → X.w = w → X.K = K → X.mg = mg → Room k X.A → ExOk X ⟨K, mg⟩ q) : GmOk P w K mg base k ⟨blt, glb, [], exs⟩ :=
  ⟨fun j q e => (by simp at e), h1, fun j q e => h2 q (List.mem_of_getElem? e), fun X j q a1 a2 a3 a4 a5 a6 a7 a8 a9 e => h3 q (List.mem_of_getElem? e) X a1 a2 a3 a4 a8⟩
theorem GmOk.up (g : GmOk P w K mg base k ⟨blt, glb, l, exs⟩) : GmOk P w K mg base (k + 1) ⟨blt, glb, l, exs⟩ :=
  ⟨fun j q e => by
    obtain ⟨f, fd, ps, F, r⟩ := g.fns j q e
    exact ⟨f, fd, ps, F.mono (Nat.le_succ k), r⟩, g.blt, g.glb, fun X j q a1 a2 a3 a4 a5 a6 a7 a8 a9 e => g.exs X j q a1 a2 a3 a4 a5 a6 a7 (a8.mono (Nat.le_succ k)) a9 e⟩
theorem gm_snoc {f : Addr} {x : Str} {params : Arguments} {body : List Stmt} {scope : Scope} {fd : FuncData} {N ps : List Str} {fx : List Nat} {sms : Sms} {F : FD} (g : GmOk P w K mg base k ⟨blt, glb, l, exs⟩) (D : FunD K x x params body scope [] [] f fd) (S : FnScope N ps scope)
    (hc : chkSs ⟨blt, glb, l, exs⟩ N ⟨scope, true⟩ sms body = true) (hm : mg x = some (.ref f)) (hb : Binds K fd ps []) (hF : F = runF N.length ps.length fx (dSs ⟨blt, glb, l, exs⟩ fx sms)) :
    GmOk P w K mg base (k + 1) ⟨blt, glb, l ++ [(x, F)], exs⟩ := by
  have nw := fnG_d (fx := fx) D S srtR g hc
  rw [← hF] at nw
  refine ⟨fun j q e => ?_, g.up.blt, g.up.glb, g.up.exs⟩
  by_cases h : j < l.length
  · exact g.up.fns j q (by rw [List.getElem?_append_left h] at e; exact e)
  · rw [List.getElem?_append_right (by omega)] at e
    have e0 : j - l.length = 0 := by
      cases z : j - l.length with
      | zero => rfl
      | succ n => rw [z] at e; cases e
    rw [e0] at e
    cases e
    exact ⟨f, fd, ps, nw, hm, D.kp, hb⟩
def gloB (K : PySem.W.Frag) (x : Str) : Bool := decide (PySem.W.nsIn K mainGlobals x = some (some (.ref (He.ga K x))))
theorem gloB_ok {h : Heap} {x : Str} (X : K.In h) (G : h.Ns mainGlobals mg) (c : gloB K x = true) : mg x = some (.ref (He.ga K x)) := PySem.W.mg_of X G (of_decide_eq_true c)
/-- all that is asked of the head but the texts -/
def exAll (blt : List Str) (glb : List (Str × PyData)) (fns : List Str) (rest : PySem.W.Frag → Bool) (K : PySem.W.Frag) : Bool := notL K && (blt.all (freeB K) && (glb.all (glbB K) && (fns.all (gloB K) && rest K)))
structure ExAll (blt : List Str) (glb : List (Str × PyData)) (fns : List Str) (rest : PySem.W.Frag → Bool) (K : PySem.W.Frag) : Prop where
  notL : notL K = true
  blt : ∀ x ∈ blt, freeB K x = true
  glb : ∀ q ∈ glb, glbB K q = true
  fns : ∀ x ∈ fns, gloB K x = true
  rest : rest K = true
theorem exAll_ok {fns : List Str} {rest : PySem.W.Frag → Bool} (h : exAll blt glb fns rest K = true) : ExAll blt glb fns rest K := by
  unfold exAll at h
  simp only [Bool.and_eq_true, List.all_eq_true] at h
  exact ⟨h.1, h.2.1, h.2.2.1, h.2.2.2.1, h.2.2.2.2⟩
theorem SaysX.def_ {fn : List He.DefD} {fi : List Str} {fv : List FnX} {ex : PySem.W.Frag → Bool} (c : SaysX fn fi fv ex K) (i : Nat) {d : He.DefD} (h : fn[i]? = some d) : ∃ fd, FunD K d.name d.qual d.params d.body d.scope (d.dvs K) (d.kws K) (He.fAd K d.at_) fd := c.fns.def_ i h
end
end
end Mb
end

section
set_option Elab.async false
set_option linter.all false
set_option maxRecDepth 100000
set_option maxHeartbeats 1000000
/-! Mb40: the meaning, step by step: rows for simp (where the environment stands as a list) -/
namespace Mb
noncomputable section
open PySem PySem.Spec PyProof.Rows L2

theorem bind_ok {α β : Type} (a : α) (f : α → Res β) : (Res.ok a).bind f = f a := rfl
theorem bind_exc {α β : Type} (x : Exn) (e : Ev) (f : α → Res β) : (Res.exc x e).bind f = .exc x e := rfl
theorem bind_bad {α β : Type} (f : α → Res β) : (Res.bad).bind f = .bad := rfl
def opR : Option Ent → Ev → Res (Ent × Ev)
  | some e, ε => .ok (e, ε)
  | none, _ => .bad
theorem opR_some (e : Ent) (ε : Ev) : opR (some e) ε = .ok (e, ε) := rfl
theorem opR_none (ε : Ev) : opR none ε = .bad := rfl
def getR : Option (Option Ent) → Ev → Res (Ent × Ev)
  | some (some e), ε => .ok (e, ε)
  | _, _ => .bad
theorem getR_some (e : Ent) (ε : Ev) : getR (some (some e)) ε = .ok (e, ε) := rfl
def varR (i : Nat) : Option (Option Ent) → Ev → Res (Ent × Ev)
  | some (some (_, d)), ε => .ok ((0, d), ε.set i (some (0, d)))
  | _, _ => .bad
theorem varR_some (i n : Nat) (d : PyData) (ε : Ev) : varR i (some (some (n, d))) ε = .ok ((0, d), ε.set i (some (0, d))) := rfl
def truR : Option Bool → Ev → Res (Bool × Ev)
  | some b, ε => .ok (b, ε)
  | none, _ => .bad
theorem truR_some (b : Bool) (ε : Ev) : truR (some b) ε = .ok (b, ε) := rfl
def boolR : PyData → Ev → Res (Bool × Ev)
  | .bool b, ε => .ok (b, ε)
  | _, _ => .bad
theorem boolR_bool (b : Bool) (ε : Ev) : boolR (.bool b) ε = .ok (b, ε) := rfl

section
variable (o : Option Ent) (ε : Ev) (f g h : Ev → Res (Ent × Ev)) (F F' : List Ent → Option Ent) (U : Ent → Option Ent) (hs : Ev → Res (List Ent × Ev)) (m m2 m3 : Bool) (i : Nat) (c c' : Ev → Res (Bool × Ev)) (b b' : Ev → Res (Fl × Ev)) (fx is : List Nat)
theorem e_var : fVar i (o :: ε) = varR i ((o :: ε)[i]?) (o :: ε) := by
  unfold fVar varR
  generalize (o :: ε)[i]? = z
  cases z with
  | none => rfl
  | some y => cases y <;> rfl
theorem e_varB : fVarB i (o :: ε) = getR ((o :: ε)[i]?) (o :: ε) := by
  unfold fVarB getR
  generalize (o :: ε)[i]? = z
  cases z with
  | none => rfl
  | some y => cases y <;> rfl
theorem e_lit (d : PyData) : fLit d (o :: ε) = .ok ((0, d), o :: ε) := rfl
theorem e_op : fOp F hs (o :: ε) = (hs (o :: ε)).bind fun q => opR (F q.1) q.2 := by
  unfold fOp
  cases hs (o :: ε) with
  | ok q => show _ = opR (F q.1) q.2; dsimp only [Res.bind]; cases F q.1 <;> rfl
  | exc x e => rfl
  | bad => rfl
theorem e_op2 : fOp2 F m2 f g (o :: ε) = (f (o :: ε)).bind fun q => if q.1.1 = 0 ∨ m2 = false then (g q.2).bind fun r => opR (F [q.1, r.1]) r.2 else .bad := by
  unfold fOp2 fOp fCons fNil
  cases f (o :: ε) with
  | exc x e => rfl
  | bad => rfl
  | ok q =>
    dsimp only [Res.bind]
    by_cases c : q.1.1 = 0 ∨ m2 = false
    · rw [if_pos c, if_pos c]
      cases g q.2 with
      | ok r => dsimp only; rw [if_pos (.inr rfl)]; dsimp only; cases F [q.1, r.1] <;> rfl
      | exc x e => rfl
      | bad => rfl
    · rw [if_neg c, if_neg c]
theorem e_cons : fCons m2 f hs (o :: ε) = (f (o :: ε)).bind fun q => if q.1.1 = 0 ∨ m2 = false then (hs q.2).bind fun r => .ok (q.1 :: r.1, r.2) else .bad := rfl
theorem e_nil : fNil (o :: ε) = .ok ([], o :: ε) := rfl
theorem e_frz : frzR f (o :: ε) = (f (o :: ε)).bind fun q => .ok ((0, q.1.2), q.2) := rfl
theorem e_tru : fTru f (o :: ε) = (f (o :: ε)).bind fun q => truR (tru q.1.2) q.2 := by
  unfold fTru
  cases f (o :: ε) with
  | ok q => dsimp only [Res.bind]; cases tru q.1.2 <;> rfl
  | exc x e => rfl
  | bad => rfl
theorem e_bool : fBool f (o :: ε) = (f (o :: ε)).bind fun q => boolR q.1.2 q.2 := by
  unfold fBool
  cases f (o :: ε) with
  | ok q => dsimp only [Res.bind]; cases q.1.2 <;> rfl
  | exc x e => rfl
  | bad => rfl
theorem e_andT : fAndT c c' (o :: ε) = (c (o :: ε)).bind fun q => if q.1 = true then c' q.2 else .ok (false, q.2) := rfl
theorem e_orT : fOrT c c' (o :: ε) = (c (o :: ε)).bind fun q => if q.1 = true then .ok (true, q.2) else c' q.2 := rfl
theorem e_notT : fNotT c (o :: ε) = (c (o :: ε)).bind fun q => .ok (!q.1, q.2) := rfl
def andR (q : Ent) (k : Ev → Res (Ent × Ev)) : Option Bool → Ev → Res (Ent × Ev)
  | some true, ε => k ε
  | some false, ε => .ok (q, ε)
  | none, _ => .bad
def orR (q : Ent) (k : Ev → Res (Ent × Ev)) : Option Bool → Ev → Res (Ent × Ev)
  | some true, ε => .ok (q, ε)
  | some false, ε => k ε
  | none, _ => .bad
theorem andR_some (q : Ent) (k : Ev → Res (Ent × Ev)) (b : Bool) (ε : Ev) : andR q k (some b) ε = if b = true then k ε else .ok (q, ε) := by cases b <;> rfl
theorem orR_some (q : Ent) (k : Ev → Res (Ent × Ev)) (b : Bool) (ε : Ev) : orR q k (some b) ε = if b = true then .ok (q, ε) else k ε := by cases b <;> rfl
theorem e_and : fAnd f g (o :: ε) = (frzR f (o :: ε)).bind fun q => andR q.1 g (tru q.1.2) q.2 := by
  unfold fAnd
  cases frzR f (o :: ε) with
  | ok q => dsimp only [Res.bind]; cases h : tru q.1.2 with | none => rfl | some b => cases b <;> rfl
  | exc x e => rfl
  | bad => rfl
theorem e_or : fOr f g (o :: ε) = (frzR f (o :: ε)).bind fun q => orR q.1 g (tru q.1.2) q.2 := by
  unfold fOr
  cases frzR f (o :: ε) with
  | ok q => dsimp only [Res.bind]; cases h : tru q.1.2 with | none => rfl | some b => cases b <;> rfl
  | exc x e => rfl
  | bad => rfl
theorem e_not : fNot f (o :: ε) = (f (o :: ε)).bind fun q => (truR (tru q.1.2) q.2).bind fun r => .ok ((0, .bool (!r.1)), r.2) := by
  unfold fNot
  cases f (o :: ε) with
  | ok q => dsimp only [Res.bind]; cases h : tru q.1.2 <;> rfl
  | exc x e => rfl
  | bad => rfl
theorem e_if {β : Type} (f g : Ev → Res (β × Ev)) : fIf c f g (o :: ε) = (c (o :: ε)).bind fun q => if q.1 = true then f q.2 else g q.2 := rfl
theorem e_un : fUn U f (o :: ε) = (f (o :: ε)).bind fun q => opR (U q.1) q.2 := by
  unfold fUn
  cases f (o :: ε) with
  | ok q => dsimp only [Res.bind]; cases U q.1 <;> rfl
  | exc x e => rfl
  | bad => rfl
theorem e_m1 : fM1 F m2 f g (o :: ε) = (f (o :: ε)).bind fun q => if isS q.1.2 = true ∧ (q.1.1 = 0 ∨ m2 = false) then (g q.2).bind fun r => opR (F [q.1, r.1]) r.2 else .bad := by
  unfold fM1
  cases f (o :: ε) with
  | ok q =>
    dsimp only [Res.bind]
    by_cases c : isS q.1.2 = true ∧ (q.1.1 = 0 ∨ m2 = false)
    · rw [if_pos c, if_pos c]
      cases g q.2 with
      | ok r => dsimp only; cases F [q.1, r.1] <;> rfl
      | exc x e => rfl
      | bad => rfl
    · rw [if_neg c, if_neg c]
  | exc x e => rfl
  | bad => rfl
def partR : PyData → Ev → Res (Option Int × Ev)
  | .int i, ε => .ok (some i, ε)
  | _, _ => .bad
theorem partR_int (j : Int) (ε : Ev) : partR (.int j) ε = .ok (some j, ε) := rfl
theorem e_noPart : fNoPart (o :: ε) = .ok (none, o :: ε) := rfl
theorem e_part : fPart f (o :: ε) = (f (o :: ε)).bind fun q => partR q.1.2 q.2 := by
  unfold fPart
  cases f (o :: ε) with
  | ok q => dsimp only [Res.bind]; cases q.1.2 <;> rfl
  | exc x e => rfl
  | bad => rfl
theorem e_sl (S : Ent → Option Int → Option Int → Option Ent) (lo hi : Ev → Res (Option Int × Ev)) : fSl S m2 m3 f lo hi (o :: ε) = (f (o :: ε)).bind fun q => if q.1.1 = 0 ∨ (m2 || m3) = false then (lo q.2).bind fun l => (hi l.2).bind fun u => opR (S q.1 l.1 u.1) u.2 else .bad := by
  unfold fSl
  cases f (o :: ε) with
  | ok q =>
    dsimp only [Res.bind]
    by_cases c : q.1.1 = 0 ∨ (m2 || m3) = false
    · rw [if_pos c, if_pos c]
      cases lo q.2 with
      | ok l =>
        dsimp only
        cases hi l.2 with
        | ok u => dsimp only; cases S q.1 l.1 u.1 <;> rfl
        | exc x e => rfl
        | bad => rfl
      | exc x e => rfl
      | bad => rfl
    · rw [if_neg c, if_neg c]
  | exc x e => rfl
  | bad => rfl
theorem e_only0 : only0 f (o :: ε) = (f (o :: ε)).bind fun q => if q.1.1 = 0 then .ok q else .bad := rfl
theorem e_ixV : fIxV i F g (o :: ε) = (getR ((o :: ε)[i]?) (o :: ε)).bind fun _ => (g (o :: ε)).bind fun q => ixVR F q.1 q.2[i]? q.2 := by
  unfold fIxV getR
  generalize (o :: ε)[i]? = z
  cases z with
  | none => rfl
  | some y => cases y <;> rfl
theorem ixVR_some (q e : Ent) (ε : Ev) : ixVR F q (some (some e)) ε = opR (F [e, q]) ε := by
  unfold ixVR
  dsimp only
  cases F [e, q] <;> rfl
def chR (y : Ent) (F' : List Ent → Option Ent) (h : Ev → Res (Ent × Ev)) : Option Ent → Ev → Res (Ent × Ev)
  | some (0, .bool k), ε => if k = true then (h ε).bind fun w => opR (F' [y, w.1]) w.2 else .ok ((0, .bool false), ε)
  | _, _ => .bad
theorem chR_bool (y : Ent) (k : Bool) : chR y F' h (some (0, .bool k)) ε = if k = true then (h ε).bind fun w => opR (F' [y, w.1]) w.2 else .ok ((0, .bool false), ε) := rfl
theorem e_chain : fChain F F' f g h (o :: ε) = (f (o :: ε)).bind fun x => (g x.2).bind fun y => chR y.1 F' h (F [x.1, y.1]) y.2 := by
  unfold fChain chR
  cases f (o :: ε) with
  | ok x =>
    dsimp only [Res.bind]
    cases g x.2 with
    | ok y =>
      dsimp only
      generalize F [x.1, y.1] = z
      cases z with
      | none => rfl
      | some w =>
        obtain ⟨n, d⟩ := w
        cases n with
        | succ n => rfl
        | zero =>
          cases d with
          | bool k =>
            cases k with
            | false => rfl
            | true =>
              show ((h y.2).bind fun w => match F' [y.1, w.1] with | some e => .ok (e, w.2) | none => .bad) = (h y.2).bind fun w => opR (F' [y.1, w.1]) w.2
              congr 1
              funext w
              cases F' [y.1, w.1] <;> rfl
          | _ => rfl
    | exc x e => rfl
    | bad => rfl
  | exc x e => rfl
  | bad => rfl
def strR (k : Str → Ev → Res (Str × Ev)) (acc : Str) : PyData → Ev → Res (Str × Ev)
  | .str y, ε => if (acc ++ y).length ≤ LIM then k (acc ++ y) ε else .bad
  | _, _ => .bad
theorem strR_str (k : Str → Ev → Res (Str × Ev)) (acc y : Str) (ε : Ev) : strR k acc (.str y) ε = if (acc ++ y).length ≤ LIM then k (acc ++ y) ε else .bad := rfl
theorem e_jnil (acc : Str) : fJ [] acc (o :: ε) = .ok (acc, o :: ε) := rfl
theorem e_jcons (q : Bool × (Ev → Res (Ent × Ev))) (fs : List (Bool × (Ev → Res (Ent × Ev)))) (acc : Str) : fJ (q :: fs) acc (o :: ε) = (q.2 (o :: ε)).bind fun r => strR (fJ fs) acc r.1.2 r.2 := by
  show ((q.2 (o :: ε)).bind fun q => match q.1.2 with | .str y => if (acc ++ y).length ≤ LIM then fJ fs (acc ++ y) q.2 else .bad | _ => .bad) = _
  cases q.2 (o :: ε) with
  | ok r => dsimp only [Res.bind]; cases r.1.2 <;> rfl
  | exc x e => rfl
  | bad => rfl
theorem e_str (fs : List (Bool × (Ev → Res (Ent × Ev)))) : fStr fs (o :: ε) = (fJ fs Str.empty (o :: ε)).bind fun q => .ok ((0, .str q.1), q.2) := rfl
/-! calls -/
theorem e_cnil : cNil (o :: ε) = .ok ([], o :: ε) := rfl
theorem e_cval (gs : Ev → Res (List Ag × Ev)) : cVal f gs (o :: ε) = (frzR f (o :: ε)).bind fun q => (gs q.2).bind fun r => .ok (.val q.1.2 :: r.1, r.2) := rfl
theorem e_cown (gs : Ev → Res (List Ag × Ev)) : cOwn i gs (o :: ε) = (getR ((o :: ε)[i]?) (o :: ε)).bind fun _ => (gs (o :: ε)).bind fun r => .ok (.own i :: r.1, r.2) := by
  unfold cOwn getR
  generalize (o :: ε)[i]? = z
  cases z with
  | none => rfl
  | some y => cases y <;> rfl
def callR (G : FD) : Option (List Ent) → Ev → Res (Ent × Ev)
  | some as, ε => match G as with
    | .ok e _ => .ok (e, ε)
    | .exc x => .exc x ε
    | .bad => .bad
  | none, _ => .bad
theorem e_callV (G : FD) (gs : Ev → Res (List Ag × Ev)) : fCallV G gs (o :: ε) = (gs (o :: ε)).bind fun q => if q.1.all isV = true then callR G (getA q.2 q.1) q.2 else .bad := by
  unfold fCallV
  cases gs (o :: ε) with
  | ok q =>
    dsimp only [Res.bind]
    by_cases c : q.1.all isV = true
    · rw [if_pos c, if_pos c]; cases getA q.2 q.1 <;> rfl
    · rw [if_neg c, if_neg c]
  | exc x e => rfl
  | bad => rfl
def fresR (ε : Ev) : FRes → Res (Ent × Ev)
  | .ok e _ => .ok (e, ε)
  | .exc x => .exc x ε
  | .bad => .bad
theorem callR_some (G : FD) (as : List Ent) (ε : Ev) : callR G (some as) ε = fresR ε (G as) := by
  unfold callR fresR
  dsimp only
theorem fresR_ok (ε : Ev) (e : Ent) (ps : List (Option Ent)) : fresR ε (.ok e ps) = .ok (e, ε) := rfl
theorem fresR_exc (ε : Ev) (x : Exn) : fresR ε (.exc x) = .exc x ε := rfl
def ownR (G : FD) (ags : List Ag) (ε : Ev) : List (Nat × Nat) → Res (Ent × Ev)
  | [(k, i)] => match getA ε ags with
    | some as => match G as with
      | .ok e ps => .ok (e, ε.set i (ps[k]?).join)
      | _ => .bad
    | none => .bad
  | _ => .bad
theorem e_callO (G : FD) (gs : Ev → Res (List Ag × Ev)) : fCallO G gs (o :: ε) = (gs (o :: ε)).bind fun q => ownR G q.1 q.2 (owns 0 q.1) := by
  unfold fCallO ownR
  rfl
theorem ownR_one (G : FD) (ags : List Ag) (ε : Ev) (k i : Nat) (as : List Ent) (e : Ent) (ps : List (Option Ent)) (h1 : getA ε ags = some as) (h2 : G as = .ok e ps) : ownR G ags ε [(k, i)] = .ok (e, ε.set i (ps[k]?).join) := by
  unfold ownR
  dsimp only
  rw [h1]
  dsimp only
  rw [h2]
/-! loops' sources -/
def itR : Option (List PyData) → Ev → Res (List PyData × Ev)
  | some ds, ε => .ok (ds, ε)
  | none, _ => .bad
theorem itR_some (ds : List PyData) (ε : Ev) : itR (some ds) ε = .ok (ds, ε) := rfl
theorem e_in : fIn f (o :: ε) = (frzR f (o :: ε)).bind fun q => itR (itemsOf q.1.2) q.2 := by
  unfold fIn
  cases frzR f (o :: ε) with
  | ok q => dsimp only [Res.bind]; cases itemsOf q.1.2 <;> rfl
  | exc x e => rfl
  | bad => rfl
def rngR : PyData → Ev → Res (List PyData × Ev)
  | .int j, ε => if -B62 ≤ j ∧ j < B62 then .ok ((List.range j.toNat).map fun (k : Nat) => .int (0 + (k : Int)), ε) else .bad
  | _, _ => .bad
theorem e_rng1 : fRng1 f (o :: ε) = (frzR f (o :: ε)).bind fun q => rngR q.1.2 q.2 := by
  unfold fRng1
  cases frzR f (o :: ε) with
  | ok q => dsimp only [Res.bind]; cases q.1.2 <;> rfl
  | exc x e => rfl
  | bad => rfl
theorem rngR_int (j : Int) (ε : Ev) (h : -B62 ≤ j ∧ j < B62) : rngR (.int j) ε = .ok ((List.range j.toNat).map fun (k : Nat) => .int (k : Int), ε) := by
  show (if -B62 ≤ j ∧ j < B62 then _ else _) = _
  rw [if_pos h]
  simp only [Int.zero_add]
def enR : PyData → Ev → Res (List PyData × Ev)
  | .list ds, ε => .ok (ds.zipIdx.map fun q => .tuple [.int (q.2 : Nat), q.1], ε)
  | _, _ => .bad
theorem enR_list (ds : List PyData) (ε : Ev) : enR (.list ds) ε = .ok (ds.zipIdx.map fun q => .tuple [.int (q.2 : Nat), q.1], ε) := rfl
theorem e_enum : fEnum f (o :: ε) = (frzR f (o :: ε)).bind fun q => enR q.1.2 q.2 := by
  unfold fEnum
  cases frzR f (o :: ε) with
  | ok q => dsimp only [Res.bind]; cases q.1.2 <;> rfl
  | exc x e => rfl
  | bad => rfl
/-! statements -/
def seqR (k : Ev → Res (Fl × Ev)) : Res (Fl × Ev) → Res (Fl × Ev)
  | .ok (.next, ε) => k ε
  | r => r
theorem seqR_next (k : Ev → Res (Fl × Ev)) (ε : Ev) : seqR k (.ok (.next, ε)) = k ε := rfl
theorem seqR_brk (k : Ev → Res (Fl × Ev)) (ε : Ev) : seqR k (.ok (.brk, ε)) = .ok (.brk, ε) := rfl
theorem seqR_cont (k : Ev → Res (Fl × Ev)) (ε : Ev) : seqR k (.ok (.cont, ε)) = .ok (.cont, ε) := rfl
theorem seqR_ret (k : Ev → Res (Fl × Ev)) (e : Ent) (ε : Ev) : seqR k (.ok (.ret e, ε)) = .ok (.ret e, ε) := rfl
theorem seqR_exc (k : Ev → Res (Fl × Ev)) (x : Exn) (ε : Ev) : seqR k (.exc x ε) = .exc x ε := rfl
theorem seqR_bad (k : Ev → Res (Fl × Ev)) : seqR k .bad = .bad := rfl
theorem e_seq : fSeq b b' (o :: ε) = seqR b' (b (o :: ε)) := by
  unfold fSeq seqR
  cases b (o :: ε) with
  | ok q => obtain ⟨fl, e⟩ := q; cases fl <;> rfl
  | exc x e => rfl
  | bad => rfl
theorem e_asg : fAsg fx i f (o :: ε) = (f (o :: ε)).bind fun q => if fx.contains i then .bad else .ok (.next, q.2.set i (some q.1)) := rfl
theorem e_expr : fExpr f (o :: ε) = (f (o :: ε)).bind fun q => .ok (.next, q.2) := rfl
theorem e_ret : fRet f (o :: ε) = (f (o :: ε)).bind fun q => .ok (.ret q.1, q.2) := rfl
theorem e_retN : fRetN (o :: ε) = .ok (.ret (0, .none), o :: ε) := rfl
theorem e_next : fNext (o :: ε) = .ok (.next, o :: ε) := rfl
theorem e_brk : fBrk (o :: ε) = .ok (.brk, o :: ε) := rfl
theorem e_cont : fCont (o :: ε) = .ok (.cont, o :: ε) := rfl
theorem e_ifS : fIfS c b b' (o :: ε) = (c (o :: ε)).bind fun q => if q.1 = true then b q.2 else b' q.2 := rfl
theorem e_for (tg : Tgt) (src : Ev → Res (List PyData × Ev)) : fFor tg src b (o :: ε) = (src (o :: ε)).bind fun q => fLoop tg b q.1 q.2 := rfl
theorem e_par : fPar fx is hs (o :: ε) = (hs (o :: ε)).bind fun q => if q.1.length = is.length ∧ is.all (fun i => !fx.contains i) = true then .ok (.next, setEnts is q.1 q.2) else .bad := rfl
theorem e_ocons : oCons f hs (o :: ε) = (f (o :: ε)).bind fun q => (hs q.2).bind fun r => .ok (q.1 :: r.1, r.2) := rfl
def asgTR (fx is : List Nat) (q : Ent) (ε : Ev) : Res (Fl × Ev) := match q with
  | (0, .tuple ds) => if ds.length = is.length ∧ is.all (fun i => !fx.contains i) = true then .ok (.next, setAll is ds ε) else .bad
  | _ => .bad
theorem asgTR_tup (ds : List PyData) : asgTR fx is (0, .tuple ds) ε = if ds.length = is.length ∧ is.all (fun i => !fx.contains i) = true then .ok (.next, setAll is ds ε) else .bad := rfl
theorem e_asgT : fAsgT fx is f (o :: ε) = (f (o :: ε)).bind fun q => asgTR fx is q.1 q.2 := by
  unfold fAsgT asgTR
  cases f (o :: ε) with
  | ok q => rfl
  | exc x e => rfl
  | bad => rfl
def appR (i : Nat) (d : PyData) (z : Option (Option Ent)) (ε : Ev) : Res (Fl × Ev) := match z with
  | some (some (1, .list ds)) => if ds.length < LIM then .ok (.next, ε.set i (some (1, .list (ds ++ [d])))) else .bad
  | _ => .bad
theorem appR_list (d : PyData) (ds : List PyData) : appR i d (some (some (1, .list ds))) ε = if ds.length < LIM then .ok (.next, ε.set i (some (1, .list (ds ++ [d])))) else .bad := rfl
theorem e_app : fApp i f (o :: ε) = if isLst (o :: ε)[i]? = true then (frzR f (o :: ε)).bind fun q => appR i q.1.2 q.2[i]? q.2 else .bad := by
  unfold fApp
  by_cases c : isLst (o :: ε)[i]? = true
  · rw [if_pos c, if_pos c]
    cases frzR f (o :: ε) with
    | ok q => dsimp only [Res.bind]; unfold appR; rfl
    | exc x e => rfl
    | bad => rfl
  · rw [if_neg c, if_neg c]
theorem e_setL : fSetL i f g (o :: ε) = (frzR f (o :: ε)).bind fun q => (getR q.2[i]? q.2).bind fun _ => (g q.2).bind fun r => setLF q.1.2 i r := by
  unfold fSetL
  cases frzR f (o :: ε) with
  | ok q =>
    dsimp only [Res.bind]
    unfold getR
    generalize q.2[i]? = z
    cases z with
    | none => rfl
    | some y => cases y <;> rfl
  | exc x e => rfl
  | bad => rfl
theorem setLF_list (d : PyData) (m : Nat) (k : Int) (ds : List PyData) (j : Nat) (h1 : ε[i]? = some (some (1, .list ds))) (h2 : ixN ds.length k = some j) : setLF d i ((m, .int k), ε) = .ok (.next, ε.set i (some (1, .list (ds.set j d)))) := by
  unfold setLF
  simp only [h1, h2]
def raisR (F : List Ent → Option Exn) (as : List Ent) (ε : Ev) : Res (Fl × Ev) := match F as with
  | some x => .exc x ε
  | none => .bad
theorem e_rais (F : List Ent → Option Exn) : fRais F hs (o :: ε) = (hs (o :: ε)).bind fun q => raisR F q.1 q.2 := rfl
end
def finF (n : Nat) (fx : List Nat) : Res (Fl × Ev) → FRes
  | .ok (.ret e, ε) => .ok e (maskP fx n ε)
  | .ok (.next, ε) => .ok (0, .none) (maskP fx n ε)
  | .exc x _ => .exc x
  | _ => .bad
theorem e_run (N n : Nat) (fx : List Nat) (g : Ev → Res (Fl × Ev)) (as : List Ent) : runF N n fx g as = if as.length = n then finF n fx (g (as.map some ++ List.replicate (N - n) none)) else .bad := by
  unfold runF finF
  by_cases h : as.length = n
  · first
    | (rw [if_pos h, if_pos h]
       cases g (as.map some ++ List.replicate (N - n) none) with
       | ok q => obtain ⟨fl, ε⟩ := q; cases fl <;> rfl
       | exc x e => rfl
       | bad => rfl)
    | rw [if_pos h]
  · (first | rw [if_neg h, if_neg h] | rw [if_neg h])
theorem fin_ret (n : Nat) (fx : List Nat) (e : Ent) (ε : Ev) : finF n fx (.ok (.ret e, ε)) = .ok e (maskP fx n ε) := rfl
theorem fin_next (n : Nat) (fx : List Nat) (ε : Ev) : finF n fx (.ok (.next, ε)) = .ok (0, .none) (maskP fx n ε) := rfl
theorem fin_exc (n : Nat) (fx : List Nat) (x : Exn) (ε : Ev) : finF n fx (.exc x ε) = .exc x := rfl
end
end Mb
end

section
set_option Elab.async false
set_option linter.all false
set_option maxRecDepth 100000
set_option maxHeartbeats 1000000
/-! Mb41: what the operations give at data -/
namespace Mb
noncomputable section
open PySem PySem.Spec PyProof.Rows L2
section
variable (n m : Nat) (a b : Int) (x y : Str) (ds es : List PyData) (d e : PyData)
theorem at_nat {α : Type} (l : List α) (k : Nat) : atI l (k : Int) = l[k]? := by
  unfold atI ixN
  rw [if_pos (Int.natCast_nonneg k)]
  by_cases h : (k : Int) < (l.length : Int)
  · rw [if_pos h]; simp
  · rw [if_neg h]
    simp only [Option.bind_none]
    rw [List.getElem?_eq_none (by omega)]
theorem at_0 {α : Type} (a : α) (l : List α) : atI (a :: l) 0 = some a := at_nat (a :: l) 0
theorem at_1 {α : Type} (a b : α) (l : List α) : atI (a :: b :: l) 1 = some b := at_nat (a :: b :: l) 1
theorem at_2 {α : Type} (a b c : α) (l : List α) : atI (a :: b :: c :: l) 2 = some c := at_nat (a :: b :: c :: l) 2
theorem at_3 {α : Type} (a b c d : α) (l : List α) : atI (a :: b :: c :: d :: l) 3 = some d := at_nat (a :: b :: c :: d :: l) 3
theorem at_last {α : Type} (l : List α) : atI l (-1) = l.getLast? := by
  unfold atI ixN
  rw [if_neg (by decide)]
  cases l with
  | nil => rfl
  | cons a r =>
    rw [if_pos (by simp; omega)]
    simp only [Option.bind_some]
    rw [List.getLast?_eq_getElem?]
    congr 1
    simp
    omega
theorem ix_l : ixF [(n, .list ds), (m, .int a)] = (atI ds a).map fun d => (n - 1, d) := rfl
theorem ix_t : ixF [(n, .tuple ds), (m, .int a)] = (atI ds a).map fun d => (0, d) := rfl
theorem ix_s : ixF [(n, .str x), (m, .int a)] = if x.length ≤ LIM then (atI x.cps.toList a).map fun c => (0, .str ⟨#[c]⟩) else none := rfl
theorem c_eq : COp.F .eq = cmpF okEq PyData.eqv := rfl
theorem eq_ii : cmpF okEq PyData.eqv [(n, .int a), (m, .int b)] = some (0, .bool (decide (a = b))) := by
  simp [cmpF, okEq, PyData.plain, PyData.depth, PyData.eqv]
  by_cases h : a = b <;> simp [h]
theorem ne_ii : cmpF okEq (fun a b => !PyData.eqv a b) [(n, .int a), (m, .int b)] = some (0, .bool (!decide (a = b))) := by
  simp [cmpF, okEq, PyData.plain, PyData.depth, PyData.eqv]
  by_cases h : a = b <;> simp [h]
theorem eq_ss : cmpF okEq PyData.eqv [(n, .str x), (m, .str y)] = some (0, .bool (decide (x = y))) := by
  simp [cmpF, okEq, PyData.plain, PyData.depth, PyData.eqv]
  by_cases h : x = y <;> simp [h]
theorem ne_ss : cmpF okEq (fun a b => !PyData.eqv a b) [(n, .str x), (m, .str y)] = some (0, .bool (!decide (x = y))) := by
  simp [cmpF, okEq, PyData.plain, PyData.depth, PyData.eqv]
  by_cases h : x = y <;> simp [h]
theorem eqvAll_nil (ds : List PyData) : PyData.eqvAll ds [] = ds.isEmpty := by cases ds <;> rfl
theorem eq_lnil (h : PyData.plainAll ds = true) : cmpF okEq PyData.eqv [(n, .list ds), (m, .list [])] = some (0, .bool ds.isEmpty) := by
  simp [cmpF, okEq, PyData.plain, PyData.plainAll, h, PyData.eqv, eqvAll_nil, PyData.depth, PyData.depthAll]
theorem ne_lnil (h : PyData.plainAll ds = true) : cmpF okEq (fun a b => !PyData.eqv a b) [(n, .list ds), (m, .list [])] = some (0, .bool (!ds.isEmpty)) := by
  simp [cmpF, okEq, PyData.plain, PyData.plainAll, h, PyData.eqv, eqvAll_nil, PyData.depth, PyData.depthAll]
theorem lt_ii : cmpF okLt PySem.W.dataLt [(n, .int a), (m, .int b)] = some (0, .bool (decide (a < b))) := by
  simp [cmpF, okLt, PyData.plain, PyData.depth, PySem.W.alike, PySem.W.dataLt_int]
theorem gt_ii : cmpF okLt (fun a b => PySem.W.dataLt b a) [(n, .int a), (m, .int b)] = some (0, .bool (decide (b < a))) := by
  simp [cmpF, okLt, PyData.plain, PyData.depth, PySem.W.alike, PySem.W.dataLt_int]
theorem le_ii : cmpF okLt (fun a b => !PySem.W.dataLt b a) [(n, .int a), (m, .int b)] = some (0, .bool (decide (a ≤ b))) := by
  simp [cmpF, okLt, PyData.plain, PyData.depth, PySem.W.alike, PySem.W.dataLt_int]
  by_cases h : a ≤ b <;> simp [h] <;> omega
theorem ge_ii : cmpF okLt (fun a b => !PySem.W.dataLt a b) [(n, .int a), (m, .int b)] = some (0, .bool (decide (b ≤ a))) := by
  simp [cmpF, okLt, PyData.plain, PyData.depth, PySem.W.alike, PySem.W.dataLt_int]
  by_cases h : b ≤ a <;> simp [h] <;> omega
theorem le_ss : cmpF okLt (fun a b => !PySem.W.dataLt b a) [(n, .str x), (m, .str y)] = some (0, .bool (leS x y)) := by
  have e : (!PySem.W.dataLt (.str y) (.str x)) = leS x y := by
    rw [PySem.W.dataLt_str]
    unfold leS
    rw [← decide_not]
    exact decide_eq_decide.mpr List.not_lt
  show (if okLt (.str x) (.str y) = true then some (0, PyData.bool (!PySem.W.dataLt (.str y) (.str x))) else none) = _
  rw [e, if_pos (by simp [okLt, PyData.plain, PyData.depth, PySem.W.alike])]
theorem sub_ii (C : Int → Int → Bool) (g : Int → Int → Int) : intF C g [(n, .int a), (m, .int b)] = if C a b = true then some (0, .int (g a b)) else none := rfl
theorem mul_ii : mulF [(n, .int a), (m, .int b)] = if mulC a b = true then some (0, .int (a * b)) else none := rfl
theorem mul_si (a : Int) : mulF [(n, .str x), (m, .int a)] = if repC x a = true then some (0, .str (Txt.mul x a)) else none := rfl
theorem int_s : intFn [(n, .str x)] = if x.length ≤ 640 then (PySem.intText? x).map fun n => (0, .int n) else none := rfl
theorem add_ii : addF [(n, .int a), (m, .int b)] = some (0, .int (a + b)) := rfl
theorem add_ss : addF [(n, .str x), (m, .str y)] = if x.length + y.length ≤ LIM then some (0, .str (x ++ y)) else none := rfl
theorem add_ll : addF [(n, .list ds), (m, .list es)] = if n ≤ 1 ∧ m ≤ 1 ∧ ds.length + es.length ≤ LIM then some (1, .list (ds ++ es)) else none := rfl
theorem add_tt : addF [(n, .tuple ds), (m, .tuple es)] = if ds.length + es.length ≤ LIM then some (0, .tuple (ds ++ es)) else none := rfl
theorem len_s : lenF [(n, .str x)] = if x.length ≤ LIM then some (0, .int x.length) else none := rfl
theorem len_l : lenF [(n, .list ds)] = some (0, .int ds.length) := rfl
theorem len_t : lenF [(n, .tuple ds)] = some (0, .int ds.length) := rfl
theorem int_i : intFn [(n, .int a)] = some (0, .int a) := rfl
theorem abs_i : absF [(n, .int a)] = some (0, .int (if a < 0 then -a else a)) := rfl
theorem str_i : strFn [(n, .int a)] = if a.natAbs.log2 < 1920 then some (0, .str (toString a)) else none := rfl
theorem tup_l : tupFn [(n, .list ds)] = if n ≤ 1 then some (0, .tuple ds) else none := rfl
theorem tup_t : tupFn [(n, .tuple ds)] = some (0, .tuple ds) := rfl
theorem lst_neg : negF (n, .int a) = some (0, .int (-a)) := rfl
theorem all_l (any : Bool) : allFn any [(n, .list ds)] = if n ≤ 1 then (boolsOf ds).map fun bs => (0, .bool (if any then bs.any id else bs.all id)) else none := rfl
theorem split_s : splitF [(n, .str x), (m, .str y)] = if y.length ≠ 0 ∧ x.length + 2 ≤ LIM then some (1, .list ((Txt.split x y).map PyData.str)) else none := rfl
theorem part_s : partF [(n, .str x), (m, .str y)] = if y.length ≠ 0 ∧ x.length ≤ LIM then some (0, .tuple [.str (Txt.partition x y).1, .str (Txt.partition x y).2.1, .str (Txt.partition x y).2.2]) else none := rfl
theorem join_s : joinF [(n, .str x), (m, d)] = (seqOf (m, d)).bind fun ds => (strsOf ds).bind fun ys => if (ys.map (·.length)).sum + ys.length * x.length ≤ LIM then some (0, .str (Txt.join x ys)) else none := rfl
theorem seq_l : seqOf (n, .list ds) = if n ≤ 1 then some ds else none := rfl
theorem seq_t : seqOf (n, .tuple ds) = some ds := rfl
theorem sl_s (lo hi : Option Int) : slF (n, .str x) lo hi = if x.length ≤ LIM then some (0, .str (cutS x lo hi)) else none := rfl
theorem sl_l (lo hi : Option Int) : slF (n, .list ds) lo hi = if n ≤ 1 then some (1, .list (cutD ds lo hi)) else none := rfl
theorem sl_t (lo hi : Option Int) : slF (n, .tuple ds) lo hi = some (0, .tuple (cutD ds lo hi)) := rfl
theorem fmt_s : fmtF (n, .str x) = if x.length ≤ LIM then some (0, .str x) else none := rfl
theorem fmt_i : fmtF (n, .int a) = if a.natAbs.log2 < 1920 then some (0, .str (toString a)) else none := rfl
theorem repr_d : reprFn [(n, d)] = if d.plain && d.showable && decide (d.depth ≤ 60) && decide (d.shown.length ≤ LIM) then some (0, .str d.shown) else none := rfl
theorem in_t (neg : Bool) (q : Ent) : inF neg [q, (m, .tuple ds)] = if q.2.plain && PyData.plainAll ds && decide (min (PyData.depthAll ds) q.2.depth ≤ 60) then some (0, .bool (xor neg (ds.any fun y => PyData.eqv y q.2))) else none := rfl
theorem in_l (neg : Bool) (q : Ent) : inF neg [q, (m, .list ds)] = if q.2.plain && PyData.plainAll ds && decide (min (PyData.depthAll ds) q.2.depth ≤ 60) then some (0, .bool (xor neg (ds.any fun y => PyData.eqv y q.2))) else none := rfl
theorem zer_nil : zeros [] = some [] := rfl
theorem zer_cons (d : PyData) (r : List Ent) : zeros ((0, d) :: r) = (zeros r).map (d :: ·) := rfl
theorem tupD_of {as : List Ent} {ds : List PyData} (h : zeros as = some ds) (hl : ds.length ≤ LIM) : tupD as = some (0, .tuple ds) := by
  unfold tupD
  rw [h]
  exact if_pos hl
theorem lstD_of {as : List Ent} {ds : List PyData} (h : zeros as = some ds) (hl : ds.length ≤ LIM) : lstD as = some (1, .list ds) := by
  unfold lstD
  rw [h]
  exact if_pos hl
theorem isi_str : isiF "str" (n, d) = if d.plain = true then some (0, .bool d.isStr) else none := rfl
theorem isi_tup : isiF "tuple" (n, d) = if d.plain = true then some (0, .bool d.isTuple) else none := rfl
theorem isi_int : isiF "int" (n, d) = if d.plain = true then some (0, .bool d.isInt) else none := rfl
theorem tru_bool (b : Bool) : tru (.bool b) = some b := rfl
theorem tru_int : tru (.int a) = some (a != 0) := rfl
theorem tru_list : tru (.list ds) = some (!ds.isEmpty) := rfl
theorem tru_tup : tru (.tuple ds) = some (!ds.isEmpty) := rfl
theorem get_nil (ε : Ev) : getA ε [] = some [] := rfl
theorem get_val (ε : Ev) (r : List Ag) : getA ε (.val d :: r) = (getA ε r).map ((0, d) :: ·) := rfl
theorem get_own (ε : Ev) (i : Nat) (r : List Ag) : getA ε (.own i :: r) = match ε[i]? with | some (some e) => (getA ε r).map (e :: ·) | _ => none := rfl
theorem owns_n (k : Nat) : owns k [] = [] := rfl
theorem owns_v (k : Nat) (r : List Ag) : owns k (.val d :: r) = owns (k + 1) r := rfl
theorem owns_o (k i : Nat) (r : List Ag) : owns k (.own i :: r) = (k, i) :: owns (k + 1) r := rfl
/-! the store of a draw -/
theorem setLF_1 (a b c e d : PyData) (m : Nat) (ε : Ev) : setLF d 0 ((m, .int 1), some (1, .list [a, b, c, e]) :: ε) = .ok (.next, some (1, .list [a, d, c, e]) :: ε) := rfl
theorem setLF_2 (a b c e d : PyData) (m : Nat) (ε : Ev) : setLF d 0 ((m, .int 2), some (1, .list [a, b, c, e]) :: ε) = .ok (.next, some (1, .list [a, b, d, e]) :: ε) := rfl
theorem setLF_3 (a b c e d : PyData) (m : Nat) (ε : Ev) : setLF d 0 ((m, .int 3), some (1, .list [a, b, c, e]) :: ε) = .ok (.next, some (1, .list [a, b, c, d]) :: ε) := rfl
end
end
end Mb
end

section
set_option Elab.async false
set_option linter.all false
set_option maxRecDepth 100000
set_option maxHeartbeats 4000000
/-! Mb42: the defs that every law has: the draw, numbers taken from it, sameness -/
namespace Mb
noncomputable section
open PySem PySem.Spec PyProof.Rows L2

def bDraw : Sms :=
  (.cons (.asg 1 (.int 7))
  (.cons (.forr (.nm 2) (.inn (.var 0))
    (.cons (.asg 1 (.bin .mod (.bi .int (.bin .add (.bin .add (.bin .mul (.var 1) (.int 48271)) (.bin .mod (.bi .abs (.bi .int (.var 2))) (.int 65521))) (.int 1))) (.int 2147483647)))
    .nil))
  (.cons (.ret (.lst (.cons (.comp [("cell", 2)] (.nm 2) (.inn (.var 0)) .no (.bi .abs (.bi .int (.var 2)))) (.cons (.neg (.int 1)) (.cons (.int 0) (.cons (.var 1) .nil))))))
  .nil)))
def bTake : Sms :=
  (.cons (.ite (.cmp .eq (.idx (.var 0) (.int 2)) (.int 0))
    (.cons (.setL 0 (.int 1) (.bin .add (.idx (.var 0) (.int 1)) (.int 1)))
    (.cons (.ite (.cmp .lt (.idx (.var 0) (.int 1)) (.bi .len (.idx (.var 0) (.int 0))))
      (.cons (.setL 0 (.int 2) (.idx (.idx (.var 0) (.int 0)) (.idx (.var 0) (.int 1))))
      .nil)
      .nil)
    (.cons (.ite (.cmp .eq (.idx (.var 0) (.int 2)) (.int 0))
      (.cons (.setL 0 (.int 3) (.bin .mod (.bi .int (.bin .add (.bin .mul (.idx (.var 0) (.int 3)) (.int 48271)) (.int 11))) (.int 2147483647)))
      (.cons (.setL 0 (.int 2) (.idx (.var 0) (.int 3)))
      .nil))
      .nil)
    .nil)))
    .nil)
  (.cons (.asg 2 (.bin .mod (.bi .int (.idx (.var 0) (.int 2))) (.var 1)))
  (.cons (.setL 0 (.int 2) (.bin .div (.idx (.var 0) (.int 2)) (.var 1)))
  (.cons (.ret (.var 2))
  .nil))))
def bSame : Sms :=
  (.cons (.ret (.and (.cmp .eq (.var 0) (.var 1)) (.cmp .eq (.bi .repr (.var 0)) (.bi .repr (.var 1)))))
  .nil)

/-- a draw as it may stand -/
structure DrawOk (d : PyData) : Prop where
  ex : ∃ (cs : List Int) (i a s : Int), d = .list [.list (cs.map PyData.int), .int i, .int a, .int s] ∧ -1 ≤ i ∧ 0 ≤ a ∧ 0 ≤ s ∧ s < 2147483647 ∧ ∀ c ∈ cs, 0 ≤ c
theorem mulOk {s : Int} (h1 : 0 ≤ s) (h2 : s < 2147483647) : mulC s 48271 = true := by
  unfold mulC
  rw [decide_eq_true_eq]
  have : s.natAbs < 2 ^ 31 := by omega
  have l : s.natAbs.log2 < 31 := by
    by_cases z : s.natAbs = 0
    · rw [z]; decide
    · exact (Nat.log2_lt z).mpr this
  have : (48271 : Int).natAbs.log2 = 15 := by decide
  omega
/-- the rest of a turn, once the digits stand -/
theorem take_end (Γ : Gm) (cs : List PyData) (i a s m : Int) (hm : 0 < m) (hl : m.natAbs.log2 < 9000) :
    seqR (dSs Γ [0] (.cons (.setL 0 (.int 2) (.bin .div (.idx (.var 0) (.int 2)) (.var 1))) (.cons (.ret (.var 2)) .nil))) (dS Γ [0] (.asg 2 (.bin .mod (.bi .int (.idx (.var 0) (.int 2))) (.var 1))) [some (1, .list [.list cs, .int i, .int a, .int s]), some (0, .int m), none]) =
      .ok (.ret (0, .int (a % m)), [some (1, .list [.list cs, .int i, .int (a / m), .int s]), some (0, .int m), some (0, .int (a % m))]) := by
  have d1 : divC a m = true := by unfold divC; rw [decide_eq_true_eq]; exact ⟨hm, hl⟩
  have d2 : (decide (0 < m)) = true := decide_eq_true hm
  simp only [dSs, dS, den, denV, Den.val, BOp.F, Bi.F, bind_ok, opR_some, getR_some, varR_some, e_var, e_varB, e_lit, e_op, e_op2, e_cons, e_nil, e_frz, e_seq, e_asg, e_ret, e_setL, e_next, seqR_next, seqR_ret,
    List.getElem?_cons_zero, List.getElem?_cons_succ, List.set_cons_zero, List.set_cons_succ, Bool.or_false, Bool.false_or, or_true, true_or, if_true, ix_l, at_2, Option.map_some, int_i, sub_ii, mul_ii, d1, d2, setLF_2, List.contains_cons, List.contains_nil, Nat.reduceBEq, Bool.or_self, Bool.false_eq_true, if_false]
theorem take_ok (Γ : Gm) {d : PyData} {m : Int} (hd : DrawOk d) (hm : 0 < m) (hl : m.natAbs.log2 < 9000) :
    ∃ (r : Int) (d' : PyData), runF 3 2 [0] (dSs Γ [0] bTake) [(1, d), (0, .int m)] = .ok (0, .int r) [some (1, d'), none] ∧ DrawOk d' ∧ 0 ≤ r ∧ r < m := by
  obtain ⟨cs, i, a, s, rfl, hi, ha, hs0, hs1, hc⟩ := hd
  have fin : ∀ (i a s : Int), -1 ≤ i → 0 ≤ a → 0 ≤ s → s < 2147483647 → ∀ z, z = seqR (dSs Γ [0] (.cons (.setL 0 (.int 2) (.bin .div (.idx (.var 0) (.int 2)) (.var 1))) (.cons (.ret (.var 2)) .nil))) (dS Γ [0] (.asg 2 (.bin .mod (.bi .int (.idx (.var 0) (.int 2))) (.var 1))) [some (1, .list [.list (cs.map PyData.int), .int i, .int a, .int s]), some (0, .int m), none]) →
      ∃ (r : Int) (d' : PyData), finF 2 [0] z = .ok (0, .int r) [some (1, d'), none] ∧ DrawOk d' ∧ 0 ≤ r ∧ r < m := by
    intro i a s h1 h2 h3 h4 z hz
    rw [take_end Γ _ i a s m hm hl] at hz
    subst hz
    exact ⟨a % m, _, rfl, ⟨cs, i, a / m, s, rfl, h1, Int.ediv_nonneg h2 (Int.le_of_lt hm), h3, h4, hc⟩, Int.emod_nonneg _ (by omega), Int.emod_lt_of_pos _ hm⟩
  have mo := mulOk hs0 hs1
  unfold bTake
  simp only [e_run, List.length_cons, List.length_nil, if_true, List.map_cons, List.map_nil, List.cons_append, List.nil_append, List.replicate_succ, List.replicate_zero, Nat.reduceSub, Nat.reduceAdd]
  by_cases h0 : a = 0
  · subst h0
    have sn : ∀ s : Int, 0 ≤ (s * 48271 + 11) % 2147483647 ∧ (s * 48271 + 11) % 2147483647 < 2147483647 := fun s => ⟨Int.emod_nonneg _ (by decide), Int.emod_lt_of_pos _ (by decide)⟩
    by_cases h1 : i + 1 < (cs.length : Int)
    · obtain ⟨k, hk⟩ : ∃ k : Nat, i + 1 = (k : Int) := ⟨(i + 1).toNat, by omega⟩
      have hk2 : k < cs.length := by omega
      have at1 : atI (cs.map PyData.int) (i + 1) = some (.int cs[k]) := by
        rw [hk, at_nat, List.getElem?_map, List.getElem?_eq_getElem hk2]
        rfl
      have c0 : 0 ≤ cs[k] := hc _ (List.getElem_mem hk2)
      by_cases h2 : cs[k] = 0
      · refine fin (i + 1) ((s * 48271 + 11) % 2147483647) ((s * 48271 + 11) % 2147483647) (by omega) (sn s).1 (sn s).1 (sn s).2 _ ?_
        simp only [dSs, dS, den, denV, Den.val, BOp.F, COp.F, Bi.F, bind_ok, opR_some, getR_some, varR_some, boolR_bool, e_var, e_varB, e_lit, e_op, e_op2, e_cons, e_nil, e_frz, e_seq, e_ifS, e_bool, e_next, e_setL, e_only0, seqR_next,
          List.getElem?_cons_zero, List.getElem?_cons_succ, Bool.or_false, Bool.false_or, or_true, true_or, if_true, ix_l, at_0, at_1, at_2, at_3, Option.map_some, eq_ii, lt_ii, add_ii, len_l, int_i, sub_ii, mul_ii, mo, decide_true, List.length_map, h1, h2, at1, setLF_1, setLF_2, setLF_3, Nat.sub_self]
        rfl
      · refine fin (i + 1) cs[k] s (by omega) c0 hs0 hs1 _ ?_
        simp only [dSs, dS, den, denV, Den.val, BOp.F, COp.F, Bi.F, bind_ok, opR_some, getR_some, varR_some, boolR_bool, e_var, e_varB, e_lit, e_op, e_op2, e_cons, e_nil, e_frz, e_seq, e_ifS, e_bool, e_next, e_setL, e_only0, seqR_next,
          List.getElem?_cons_zero, List.getElem?_cons_succ, Bool.or_false, Bool.false_or, or_true, true_or, if_true, ix_l, at_0, at_1, at_2, at_3, Option.map_some, eq_ii, lt_ii, add_ii, len_l, int_i, sub_ii, mul_ii, mo, decide_true, List.length_map, h1, h2, at1, setLF_1, setLF_2, setLF_3, Nat.sub_self, decide_false, Bool.false_eq_true, if_false]
    · refine fin (i + 1) ((s * 48271 + 11) % 2147483647) ((s * 48271 + 11) % 2147483647) (by omega) (sn s).1 (sn s).1 (sn s).2 _ ?_
      simp only [dSs, dS, den, denV, Den.val, BOp.F, COp.F, Bi.F, bind_ok, opR_some, getR_some, varR_some, boolR_bool, e_var, e_varB, e_lit, e_op, e_op2, e_cons, e_nil, e_frz, e_seq, e_ifS, e_bool, e_next, e_setL, e_only0, seqR_next,
        List.getElem?_cons_zero, List.getElem?_cons_succ, Bool.or_false, Bool.false_or, or_true, true_or, if_true, ix_l, at_0, at_1, at_2, at_3, Option.map_some, eq_ii, lt_ii, add_ii, len_l, int_i, sub_ii, mul_ii, mo, decide_true, List.length_map, h1, setLF_1, setLF_2, setLF_3, Nat.sub_self, decide_false, Bool.false_eq_true, if_false]
      rfl
  · refine fin i a s hi ha hs0 hs1 _ ?_
    simp only [dSs, dS, den, denV, Den.val, BOp.F, COp.F, Bi.F, bind_ok, opR_some, getR_some, varR_some, boolR_bool, e_var, e_varB, e_lit, e_op, e_op2, e_cons, e_nil, e_frz, e_seq, e_ifS, e_bool, e_next, seqR_next,
      List.getElem?_cons_zero, List.getElem?_cons_succ, Bool.or_false, Bool.false_or, or_true, true_or, if_true, ix_l, at_2, Option.map_some, eq_ii, h0, decide_false, Bool.false_eq_true, if_false]
end
end Mb
end

section
set_option Elab.async false
set_option linter.all false
set_option maxRecDepth 100000
set_option maxHeartbeats 4000000
/-! Mb43: loops and comprehensions, plainly; the draw -/
namespace Mb
noncomputable section
open PySem PySem.Spec PyProof.Rows L2

/-- a loop that keeps I -/
theorem loop_inv {tg : Tgt} {b : Ev → Res (Fl × Ev)} {I : Ev → Prop} : ∀ (its : List PyData) (ε : Ev), (∀ d ∈ its, ∀ ε, I ε → ∃ ε1 ε2, tg.put d ε = some ε1 ∧ b ε1 = .ok (.next, ε2) ∧ I ε2) → I ε → ∃ ε', fLoop tg b its ε = .ok (.next, ε') ∧ I ε'
  | [], ε, _, i => ⟨ε, rfl, i⟩
  | d :: its, ε, h, i => by
    obtain ⟨ε1, ε2, h1, h2, i2⟩ := h d List.mem_cons_self ε i
    obtain ⟨ε', e, i'⟩ := loop_inv its ε2 (fun d hd => h d (List.mem_cons_of_mem _ hd)) i2
    refine ⟨ε', ?_, i'⟩
    show (match tg.put d ε with | some ε1 => (match b ε1 with | .ok (.next, ε2) => fLoop tg b its ε2 | .ok (.cont, ε2) => fLoop tg b its ε2 | .ok (.brk, ε2) => .ok (.next, ε2) | r => r) | none => .bad) = _
    rw [h1]
    dsimp only
    rw [h2]
    exact e
/-- a comprehension whose test and value change nothing -/
theorem comp_fm {vs : List Nat} {tg : Tgt} {ts : Ev → Res (Bool × Ev)} {f : Ev → Res (Ent × Ev)} {c : PyData → Bool} {k : PyData → PyData} {ε : Ev} : ∀ (its acc : List PyData), acc.length + its.length ≤ LIM →
    (∀ d ∈ its, ∃ ε1 ε2, tg.put d ε = some ε1 ∧ ts ε1 = .ok (c d, ε2) ∧ (c d = false → wipeE ε2 vs = ε) ∧ (c d = true → ∃ n ε3, f ε2 = .ok ((n, k d), ε3) ∧ wipeE ε3 vs = ε)) → cLoop vs tg ts f its ε acc = .ok (acc ++ (its.filter c).map k, ε)
  | [], acc, _, _ => by
    show Res.ok (acc, ε) = _
    simp
  | d :: its, acc, hl, h => by
    obtain ⟨ε1, ε2, h1, h2, h3, h4⟩ := h d List.mem_cons_self
    have hl' : acc.length + its.length + 1 ≤ LIM := by simpa [Nat.add_assoc] using hl
    have rest : ∀ x ∈ its, _ := fun x hx => h x (List.mem_cons_of_mem _ hx)
    unfold cLoop
    rw [h1]
    dsimp only
    rw [h2]
    cases e : c d with
    | false =>
      dsimp only
      rw [h3 e, comp_fm its acc (by omega) rest]
      simp [e]
    | true =>
      obtain ⟨n, ε3, h5, h6⟩ := h4 e
      dsimp only
      rw [h5]
      dsimp only
      rw [if_pos (by omega), h6, comp_fm its (acc ++ [k d]) (by simp; omega) rest]
      simp [e]
/-- a comprehension whose value changes what I tells of -/
theorem comp_inv {vs : List Nat} {tg : Tgt} {ts : Ev → Res (Bool × Ev)} {f : Ev → Res (Ent × Ev)} {I : Ev → Prop} {V : PyData → PyData → Prop} : ∀ (its acc : List PyData) (ε : Ev), acc.length + its.length ≤ LIM →
    (∀ d ∈ its, ∀ ε, I ε → ∃ ε1 ε2 n x ε3, tg.put d ε = some ε1 ∧ ts ε1 = .ok (true, ε2) ∧ f ε2 = .ok ((n, x), ε3) ∧ V d x ∧ I (wipeE ε3 vs)) → I ε →
    ∃ xs ε', cLoop vs tg ts f its ε acc = .ok (acc ++ xs, ε') ∧ PySem.Paired V its xs ∧ I ε'
  | [], acc, ε, _, _, i => ⟨[], ε, by show Res.ok (acc, ε) = _; simp, .nil, i⟩
  | d :: its, acc, ε, hl, h, i => by
    obtain ⟨ε1, ε2, n, x, ε3, h1, h2, h3, v, i3⟩ := h d List.mem_cons_self ε i
    have hl' : acc.length + its.length + 1 ≤ LIM := by simpa [Nat.add_assoc] using hl
    obtain ⟨xs, ε', e, p, i'⟩ := comp_inv its (acc ++ [x]) (wipeE ε3 vs) (by simp; omega) (fun x hx => h x (List.mem_cons_of_mem _ hx)) i3
    refine ⟨x :: xs, ε', ?_, .cons v p, i'⟩
    unfold cLoop
    rw [h1]
    dsimp only
    rw [h2]
    dsimp only
    rw [h3]
    dsimp only
    rw [if_pos (by omega), e]
    simp
theorem e_comp (vs : List Nat) (tg : Tgt) (src : Ev → Res (List PyData × Ev)) (ts : Ev → Res (Bool × Ev)) (f : Ev → Res (Ent × Ev)) (o : Option Ent) (ε : Ev) :
    fComp vs tg src ts f (o :: ε) = (src (o :: ε)).bind fun q => (cLoop vs tg ts f q.1 (wipeE q.2 vs) []).bind fun r => .ok ((1, .list r.1), backE q.2 r.2 vs) := rfl

/-- the absolute value as the program has it -/
def absV : PyData → PyData
  | .int n => .int (if n < 0 then -n else n)
  | d => d
theorem draw_ok (Γ : Gm) (ns : List Int) (hl : ns.length ≤ 63) : ∃ (d : PyData) (ps : List (Option Ent)), runF 3 1 [] (dSs Γ [] bDraw) [(0, .list (ns.map PyData.int))] = .ok (1, d) ps ∧ DrawOk d := by
  have nn : ∀ a : Int, 0 ≤ a % 2147483647 ∧ a % 2147483647 < 2147483647 := fun a => ⟨Int.emod_nonneg _ (by decide), Int.emod_lt_of_pos _ (by decide)⟩
  have lim : ns.length ≤ LIM := Nat.le_trans hl (by decide)
  obtain ⟨ε, e1, s, z, rfl, h1, h2⟩ := loop_inv (tg := tgName [] 2) (b := dSs Γ [] (.cons (.asg 1 (.bin .mod (.bi .int (.bin .add (.bin .add (.bin .mul (.var 1) (.int 48271)) (.bin .mod (.bi .abs (.bi .int (.var 2))) (.int 65521))) (.int 1))) (.int 2147483647))) .nil))
    (I := fun ε => ∃ (s : Int) (z : Option Ent), ε = [some (0, .list (ns.map PyData.int)), some (0, .int s), z] ∧ 0 ≤ s ∧ s < 2147483647) (ns.map PyData.int) [some (0, .list (ns.map PyData.int)), some (0, .int 7), none]
    (fun d hd ε ⟨s, z, e, h1, h2⟩ => by
      obtain ⟨n, _, rfl⟩ := List.mem_map.mp hd
      subst e
      have mo := mulOk h1 h2
      have g1 : decide ((0 : Int) < 65521) = true := rfl
      have g2 : decide ((0 : Int) < 2147483647) = true := rfl
      refine ⟨[some (0, .list (ns.map PyData.int)), some (0, .int s), some (0, .int n)], [some (0, .list (ns.map PyData.int)), some (0, .int ((s * 48271 + (if n < 0 then -n else n) % 65521 + 1) % 2147483647)), some (0, .int n)], rfl, ?_, ⟨_, _, rfl, (nn _).1, (nn _).2⟩⟩
      · simp only [dSs, dS, den, denV, Den.val, BOp.F, Bi.F, bind_ok, opR_some, getR_some, varR_some, e_var, e_varB, e_lit, e_op, e_op2, e_cons, e_nil, e_frz, e_seq, e_asg, e_next, seqR_next,
          List.getElem?_cons_zero, List.getElem?_cons_succ, List.set_cons_zero, List.set_cons_succ, Bool.or_false, Bool.false_or, or_true, true_or, if_true, int_i, abs_i, add_ii, sub_ii, mul_ii, mo, g1, g2, decide_true, List.contains_nil, Bool.false_eq_true, if_false])
    ⟨7, none, rfl, by decide, by decide⟩
  have e2 := comp_fm (vs := [2]) (tg := tgName [] 2) (ts := fTrue) (f := (den Γ (.bi .abs (.bi .int (.var 2)))).v) (c := fun _ => true) (k := absV) (ε := [some (0, .list (ns.map PyData.int)), some (0, .int s), none]) (ns.map PyData.int) [] (by simpa using lim) (fun d hd => by
    obtain ⟨n, _, rfl⟩ := List.mem_map.mp hd
    refine ⟨[some (0, .list (ns.map PyData.int)), some (0, .int s), some (0, .int n)], _, rfl, rfl, (fun z => nomatch z), fun _ => ⟨0, [some (0, .list (ns.map PyData.int)), some (0, .int s), some (0, .int n)], ?_, rfl⟩⟩
    simp only [den, denV, Den.val, Bi.F, bind_ok, opR_some, getR_some, e_varB, e_op, e_cons, e_nil, e_frz, List.getElem?_cons_zero, List.getElem?_cons_succ, or_true, if_true, int_i, abs_i, absV])
  have ea : List.map absV (ns.map PyData.int) = (ns.map fun n => if n < 0 then -n else n).map PyData.int := by
    rw [List.map_map, List.map_map]; rfl
  refine ⟨.list [.list ((ns.map fun n => if n < 0 then -n else n).map PyData.int), .int (-1), .int 0, .int s], [none], ?_, ⟨_, -1, 0, s, rfl, by decide, by decide, h1, h2, ?_⟩⟩
  · unfold bDraw
    simp only [e_run, List.length_cons, List.length_nil, if_true, List.map_cons, List.map_nil, List.cons_append, List.nil_append, List.replicate_succ, List.replicate_zero, Nat.reduceSub, Nat.reduceAdd]
    unfold dSs dS
    simp only [e_seq]
    have a1 : fAsg [] 1 (den Γ (.int 7)).v [some (0, .list (ns.map PyData.int)), none, none] = .ok (.next, [some (0, .list (ns.map PyData.int)), some (0, .int 7), none]) := rfl
    rw [a1, seqR_next]
    unfold dSs dS
    have a2 : (denR Γ (.inn (.var 0))).1 [some (0, .list (ns.map PyData.int)), some (0, .int 7), none] = .ok (ns.map PyData.int, [some (0, .list (ns.map PyData.int)), some (0, .int 7), none]) := rfl
    simp only [e_seq, e_for, a2, bind_ok]
    rw [show TgA.tgt [] (.nm 2) = tgName [] 2 from rfl, e1, seqR_next]
    unfold dSs dS
    have a3 : wipeE [some (0, .list (ns.map PyData.int)), some (0, .int s), z] [2] = [some (0, .list (ns.map PyData.int)), some (0, .int s), none] := rfl
    have hft : ∀ l : List PyData, l.filter (fun _ => true) = l := fun l => List.filter_eq_self.mpr fun _ _ => rfl
    have a4 : ∀ ε : Ev, backE [some (0, .list (ns.map PyData.int)), some (0, .int s), z] [some (0, .list (ns.map PyData.int)), some (0, .int s), none] [2] = [some (0, .list (ns.map PyData.int)), some (0, .int s), keep0 z] := fun _ => rfl
    simp only [den, denV, Den.val, Bi.F, TgA.tgt] at e2
    simp only [e_seq, e_ret, den, denV, denR, denC, denO, Den.val, Bi.F, TgA.tgt, e_op, e_cons, e_nil, e_frz, e_comp, e_in, e_var, e_varB, e_lit, e_un, varR_some, getR_some, itemsOf, itR_some, bind_ok, opR_some, lst_neg,
      List.getElem?_cons_zero, List.getElem?_cons_succ, List.set_cons_zero, List.set_cons_succ, List.map_cons, List.map_nil, Bool.or_false, Bool.false_or, or_true, true_or, if_true, a3, e2, a4 [], hft, List.nil_append, ea]
    rw [lstD_of (ds := [.list ((ns.map fun n => if n < 0 then -n else n).map PyData.int), .int (-1), .int 0, .int s]) rfl (show 4 ≤ 16777216 by decide)]
    rfl
  · intro c hc
    obtain ⟨n, _, rfl⟩ := List.mem_map.mp hc
    split <;> omega

/-! ### the same -/
mutual
theorem eqv_self : ∀ {d : PyData}, d.plain = true → PyData.eqv d d = true
  | .none, _ => rfl
  | .bool b, _ => by simp [PyData.eqv]
  | .int i, _ => by simp [PyData.eqv]
  | .str x, _ => by simp [PyData.eqv]
  | .list xs, h => by
    unfold PyData.eqv
    exact eqvAll_self (by simpa [PyData.plain] using h)
  | .tuple xs, h => by
    unfold PyData.eqv
    exact eqvAll_self (by simpa [PyData.plain] using h)
  | .dict _, h => by simp [PyData.plain] at h
theorem eqvAll_self : ∀ {xs : List PyData}, PyData.plainAll xs = true → PyData.eqvAll xs xs = true
  | [], _ => rfl
  | x :: xs, h => by
    simp only [PyData.plainAll, Bool.and_eq_true] at h
    unfold PyData.eqvAll
    rw [eqv_self h.1, eqvAll_self h.2]
    rfl
end
/-- a value that may be shown -/
structure Shows (d : PyData) : Prop where
  plain : d.plain = true
  show' : d.showable = true
  deep : d.depth ≤ 60
  short : d.shown.length ≤ LIM
theorem same_ok (Γ : Gm) {d : PyData} (h : Shows d) : runF 2 2 [] (dSs Γ [] bSame) [(0, d), (0, d)] = .ok (0, .bool true) [none, none] := by
  have e1 : cmpF okEq PyData.eqv [(0, d), (0, d)] = some (0, .bool true) := by
    unfold cmpF okEq
    dsimp only
    rw [h.plain, eqv_self h.plain]
    simp [h.deep]
  have e2 : reprFn [(0, d)] = some (0, .str d.shown) := by
    rw [repr_d, h.plain, h.show']
    simp [h.deep, h.short]
  unfold bSame
  simp only [e_run, List.length_cons, List.length_nil, if_true, List.map_cons, List.map_nil, List.cons_append, List.nil_append, List.replicate_zero, Nat.reduceSub, Nat.reduceAdd]
  simp only [dSs, dS, den, denV, Den.val, COp.F, Bi.F, bind_ok, opR_some, getR_some, varR_some, truR_some, andR_some, e_var, e_varB, e_lit, e_op, e_op2, e_cons, e_nil, e_frz, e_seq, e_ret, e_and, e_next, seqR_ret,
    List.getElem?_cons_zero, List.getElem?_cons_succ, List.set_cons_zero, List.set_cons_succ, Bool.or_false, Bool.false_or, or_true, true_or, if_true, e1, e2, tru_bool, eq_ss, decide_true, fin_ret]
  rfl
end
end Mb
end

section
set_option Elab.async false
set_option linter.all false
set_option maxRecDepth 100000
set_option maxHeartbeats 4000000
/-! Mb48: comprehensions over what is told by a map: rows to rewrite with -/
namespace Mb
open PySem PySem.Spec PyProof.Rows L2

theorem comp_q {α : Type} {vs : List Nat} {tg : Tgt} {ts : Ev → Res (Bool × Ev)} {f : Ev → Res (Ent × Ev)} {ε : Ev} {acc : List PyData} (e : α → PyData) (c : α → Bool) (k : α → PyData) (xs : List α) (hl : acc.length + xs.length ≤ LIM)
    (h : ∀ x ∈ xs, ∃ ε1, tg.put (e x) ε = some ε1 ∧ ts ε1 = .ok (c x, ε1) ∧ (c x = true → ∃ n, f ε1 = .ok ((n, k x), ε1)) ∧ wipeE ε1 vs = ε) : cLoop vs tg ts f (xs.map e) ε acc = .ok (acc ++ (xs.filter c).map k, ε) := by
  induction xs generalizing acc with
  | nil => simp [cLoop]
  | cons x xs ih =>
    obtain ⟨ε1, h1, h2, h3, h4⟩ := h x List.mem_cons_self
    simp only [List.length_cons] at hl
    have rest := fun y hy => h y (List.mem_cons_of_mem _ hy)
    rw [List.map_cons]
    unfold cLoop
    rw [h1]
    dsimp only
    rw [h2]
    cases q : c x with
    | false =>
      dsimp only
      rw [h4, ih (by omega) rest, List.filter_cons, q]
      rfl
    | true =>
      obtain ⟨n, h5⟩ := h3 q
      dsimp only
      rw [h5]
      dsimp only
      rw [if_pos (by omega), h4, ih (by simp; omega) rest, List.filter_cons, q]
      simp
theorem comp_all {α : Type} {vs : List Nat} {tg : Tgt} {f : Ev → Res (Ent × Ev)} {ε : Ev} (e : α → PyData) (k : α → PyData) (xs : List α) (hl : xs.length ≤ LIM)
    (h : ∀ x ∈ xs, ∃ ε1, tg.put (e x) ε = some ε1 ∧ (∃ n, f ε1 = .ok ((n, k x), ε1)) ∧ wipeE ε1 vs = ε) : cLoop vs tg fTrue f (xs.map e) ε [] = .ok (xs.map k, ε) := by
  have := comp_q (vs := vs) (tg := tg) (ts := fTrue) (f := f) (ε := ε) (acc := []) e (fun _ => true) k xs (by simpa using hl) fun x hx => by
    obtain ⟨ε1, h1, h2, h3⟩ := h x hx
    exact ⟨ε1, h1, rfl, fun _ => h2, h3⟩
  rw [this, List.filter_eq_self.mpr fun _ _ => rfl]
  rfl
theorem compX_q {α β : Type} {vs : List Nat} {tg : Tgt} {f : Ev → Res (Ent × Ev)} {ε : Ev} {acc : List PyData} (e : α → PyData) (g : α → Option β) (k : β → PyData) (X : Exn) (xs : List α) (hl : acc.length + xs.length ≤ LIM)
    (h : ∀ x ∈ xs, ∃ ε1, tg.put (e x) ε = some ε1 ∧ (∃ n, f ε1 = match g x with | some y => .ok ((n, k y), ε1) | none => .exc X ε1) ∧ wipeE ε1 vs = ε) :
    cLoopX vs tg fTrue f (xs.map e) ε acc = match xs.mapM g with | some ys => .ok (acc ++ ys.map k, ε) | none => .exc X ε := by
  induction xs generalizing acc with
  | nil => simp [cLoopX]
  | cons x xs ih =>
    obtain ⟨ε1, h1, ⟨n, h2⟩, h4⟩ := h x List.mem_cons_self
    simp only [List.length_cons] at hl
    have rest := fun y hy => h y (List.mem_cons_of_mem _ hy)
    rw [List.map_cons]
    unfold cLoopX
    rw [h1]
    dsimp only [fTrue]
    rw [h2, List.mapM_cons]
    cases q : g x with
    | none =>
      dsimp only
      rw [h4]
      rfl
    | some y =>
      dsimp only
      rw [if_pos (by omega), h4, ih (by simp; omega) rest]
      cases xs.mapM g with
      | none => rfl
      | some ys => simp
theorem e_compX (vs : List Nat) (tg : Tgt) (src : Ev → Res (List PyData × Ev)) (ts : Ev → Res (Bool × Ev)) (f : Ev → Res (Ent × Ev)) (o : Option Ent) (ε : Ev) :
    fCompX vs tg src ts f (o :: ε) = (src (o :: ε)).bind fun q => compEnd q.2 vs (cLoopX vs tg ts f q.1 (wipeE q.2 vs) []) := rfl
theorem compEnd_ok (ε1 : Ev) (vs : List Nat) (r : List PyData × Ev) : compEnd ε1 vs (.ok r) = .ok ((1, .list r.1), backE ε1 r.2 vs) := rfl
theorem compEnd_exc (ε1 ε : Ev) (vs : List Nat) (x : Exn) : compEnd ε1 vs (.exc x ε) = .exc x (backE ε1 ε vs) := rfl
section
variable (o : Option Ent) (ε : Ev) (f g : Ev → Res (Ent × Ev))
theorem e_zip : fZip f g (o :: ε) = (frzR f (o :: ε)).bind fun q => (frzR g q.2).bind fun r => zipK q.1.2 r.1.2 r.2 := rfl
theorem zipK_l (ds es : List PyData) : zipK (.list ds) (.list es) ε = .ok ((ds.zip es).map fun q => .tuple [q.1, q.2], ε) := rfl
theorem zipK_t (ds es : List PyData) : zipK (.tuple ds) (.tuple es) ε = .ok ((ds.zip es).map fun q => .tuple [q.1, q.2], ε) := rfl
theorem e_rng2 : fRng2 f g (o :: ε) = (frzR f (o :: ε)).bind fun q => (frzR g q.2).bind fun r => rng2K q.1.2 r.1.2 r.2 := rfl
theorem rng2K_i (i j : Int) (h : -B62 ≤ i ∧ i < B62 ∧ -B62 ≤ j ∧ j < B62) : rng2K (.int i) (.int j) ε = .ok ((List.range (j - i).toNat).map fun (k : Nat) => .int (i + (k : Int)), ε) := by
  show (if _ then _ else _) = _
  rw [if_pos h]
end
theorem isi_bool {n : Nat} {d : PyData} : isiF "bool" (n, d) = if d.plain = true then some (0, .bool d.isBool) else none := rfl
theorem tru_str {x : Str} : tru (.str x) = if x.length ≤ LIM then some ((x.length : Int) != 0) else none := rfl
theorem tru_non : tru .none = some false := rfl
theorem is_non {n m : Nat} : isF false [(n, .none), (m, .none)] = some (0, .bool true) := rfl
theorem isnt_non {n m : Nat} : isF true [(n, .none), (m, .none)] = some (0, .bool false) := rfl
/-! pairs of ints -/
def pdI (p : Int × Int) : PyData := .tuple [.int p.1, .int p.2]
theorem pdI_plain (p : Int × Int) : (pdI p).plain = true := by simp [pdI, PyData.plain, PyData.plainAll]
theorem pdI_depth (p : Int × Int) : (pdI p).depth = 1 := by simp [pdI, PyData.depth, PyData.depthAll]
theorem pdI_eqv (p q : Int × Int) : PyData.eqv (pdI p) (pdI q) = decide (p = q) := by
  obtain ⟨a, b⟩ := p
  obtain ⟨c, d⟩ := q
  simp only [pdI, PyData.eqv, PyData.eqvAll, Prod.mk.injEq, Bool.and_true]
  by_cases h1 : a = c <;> by_cases h2 : b = d <;> simp [h1, h2]
theorem pdI_0 {n m : Nat} (p : Int × Int) : ixF [(n, pdI p), (m, .int 0)] = some (0, .int p.1) := rfl
theorem pdI_1 {n m : Nat} (p : Int × Int) : ixF [(n, pdI p), (m, .int 1)] = some (0, .int p.2) := rfl
theorem pdI_len {n : Nat} (p : Int × Int) : lenF [(n, pdI p)] = some (0, .int 2) := rfl
theorem plain_map {α : Type} {k : α → PyData} (h : ∀ x, (k x).plain = true) : ∀ xs : List α, PyData.plainAll (xs.map k) = true
  | [] => rfl
  | x :: xs => by rw [List.map_cons, PyData.plainAll, plain_map h xs, h x]; rfl
theorem depth_map {α : Type} {k : α → PyData} {b : Nat} (h : ∀ x, (k x).depth ≤ b) : ∀ xs : List α, PyData.depthAll (xs.map k) ≤ b + 1
  | [] => by simp [PyData.depthAll]
  | x :: xs => by
    have := depth_map h xs
    have := h x
    rw [List.map_cons, PyData.depthAll]
    omega
end Mb
namespace Mb
open PySem PySem.Spec PyProof.Rows L2
theorem is_int {n m : Nat} {a : Int} : isF false [(n, .int a), (m, .none)] = some (0, .bool false) := rfl
theorem is_str {n m : Nat} {a : Str} : isF false [(n, .str a), (m, .none)] = some (0, .bool false) := rfl
theorem is_tup {n m : Nat} {a : List PyData} : isF false [(n, .tuple a), (m, .none)] = some (0, .bool false) := rfl
theorem in_sign {n m : Nat} (neg : Bool) (c : Nat) (z : Str) : inF neg [(n, .str ⟨#[c]⟩), (m, .str z)] = some (0, .bool (xor neg (decide (c ∈ z.cps.toList)))) := by
  show some ((0 : Nat), PyData.bool (xor neg (!(Builtin.Str.occurrences z ⟨#[c]⟩ 0 z.length 1).isEmpty))) = _
  rw [PySem.StrLaws.found_one z c]
theorem xorT (b : Bool) : xor true b = !b := by cases b <;> rfl
theorem xorF (b : Bool) : xor false b = b := by cases b <;> rfl
end Mb
namespace Mb
open PySem PySem.Spec PyProof.Rows L2
theorem wipe_nil (ε : Ev) : wipeE ε [] = ε := rfl
theorem wipe_cons (ε : Ev) (v : Nat) (vs : List Nat) : wipeE ε (v :: vs) = (wipeE ε vs).set v none := rfl
def backO : Option (Option Ent) → Option Ent
  | some o => keep0 o
  | none => none
theorem back_nil (ε1 ε2 : Ev) : backE ε1 ε2 [] = ε2 := rfl
theorem back_cons (ε1 ε2 : Ev) (v : Nat) (vs : List Nat) : backE ε1 ε2 (v :: vs) = (backE ε1 ε2 vs).set v (backO ε1[v]?) := by
  show (match ε1[v]? with | some o => (backE ε1 ε2 vs).set v (keep0 o) | none => (backE ε1 ε2 vs).set v none) = _
  cases ε1[v]? <;> rfl
theorem backO_some (o : Option Ent) : backO (some o) = keep0 o := rfl
theorem keep0_none : keep0 none = none := rfl
theorem keep0_val (d : PyData) : keep0 (some (0, d)) = some (0, d) := rfl
theorem keep0_own (n : Nat) (d : PyData) : keep0 (some (n + 1, d)) = none := rfl
end Mb
namespace Mb
open PySem PySem.Spec PyProof.Rows L2
theorem all_id_map {α : Type} (f : α → Bool) (l : List α) : (l.map f).all id = l.all f := by rw [List.all_map]; rfl
theorem any_id_map {α : Type} (f : α → Bool) (l : List α) : (l.map f).any id = l.any f := by rw [List.any_map]; rfl
theorem bools_of {α : Type} (f : α → Bool) (l : List α) : boolsOf (l.map fun x => PyData.bool (f x)) = some (l.map f) := by
  rw [← boolsOf_map, List.map_map]
  rfl
theorem strs_map {α : Type} (f : α → Str) (l : List α) : strsOf (l.map fun x => PyData.str (f x)) = some (l.map f) := by
  rw [← strsOf_map, List.map_map]
  rfl
theorem ints_map {α : Type} (f : α → Int) (l : List α) : intsOf (l.map fun x => PyData.int (f x)) = some (l.map f) := by
  rw [← intsOf_map, List.map_map]
  rfl
/-- all and any of what is told of a row -/
theorem all_of {α : Type} {n : Nat} (hn : n ≤ 1) (f : α → Bool) (l : List α) : allFn false [(n, .list (l.map fun x => PyData.bool (f x)))] = some (0, .bool (l.all f)) := by
  rw [all_l, if_pos hn, bools_of, Option.map_some]
  simp [all_id_map]
theorem any_of {α : Type} {n : Nat} (hn : n ≤ 1) (f : α → Bool) (l : List α) : allFn true [(n, .list (l.map fun x => PyData.bool (f x)))] = some (0, .bool (l.any f)) := by
  rw [all_l, if_pos hn, bools_of, Option.map_some]
  simp [any_id_map]
end Mb
namespace Mb
open PySem PySem.Spec PyProof.Rows L2
theorem setAll_c (i : Nat) (is : List Nat) (d : PyData) (ds : List PyData) (ε : Ev) : setAll (i :: is) (d :: ds) ε = setAll is ds (ε.set i (some (0, d))) := rfl
theorem setAll_n (ε : Ev) : setAll [] [] ε = ε := rfl
theorem setEnts_c (i : Nat) (is : List Nat) (d : Ent) (ds : List Ent) (ε : Ev) : setEnts (i :: is) (d :: ds) ε = setEnts is ds (ε.set i (some d)) := rfl
theorem setEnts_n (ε : Ev) : setEnts [] [] ε = ε := rfl
end Mb
end

section
set_option Elab.async false
set_option linter.all false
set_option maxRecDepth 100000
set_option maxHeartbeats 4000000
/-! Mb49: texts cut at one sign -/
namespace Mb
open PySem PySem.Spec PyProof.Rows L2 TL

theorem cut_at (c : Nat) (y : Str) (ey : tl y = [c]) (l : Str) : c ∉ tl l ∨ ∃ a b, l = a ++ y ++ b ∧ c ∉ tl a := by
  by_cases h : c ∈ tl l
  · obtain ⟨as, bs, e, n⟩ := List.eq_append_cons_of_mem h
    refine .inr ⟨⟨as.toArray⟩, ⟨bs.toArray⟩, ?_, n⟩
    refine ext_tl ?_
    rw [tl_append, tl_append, e, ey]
    show _ = as ++ [c] ++ bs
    simp
  · exact .inl h
theorem spl_ne (S : List Nat) : ∀ (t : List Nat) (k : Nat) (acc : List Nat), spl S k acc t ≠ []
  | [], k, acc => by rw [spl_nil]; exact List.cons_ne_nil _ _
  | c :: r, 0, acc => by
    cases h : pre S (c :: r) with
    | true => rw [spl_hit h]; exact List.cons_ne_nil _ _
    | false => rw [spl_miss h]; exact spl_ne S r 0 _
  | c :: r, k + 1, acc => spl_ne S r k acc
theorem spl_len (S : List Nat) : ∀ (t : List Nat) (k : Nat) (acc : List Nat), (spl S k acc t).length ≤ t.length + 1 ∧ ∀ p ∈ spl S k acc t, p.length ≤ acc.length + t.length
  | [], k, acc => by
    rw [spl_nil]
    simp
  | c :: r, 0, acc => by
    cases h : pre S (c :: r) with
    | true =>
      rw [spl_hit h]
      have i := spl_len S r (S.length - 1) []
      simp only [List.length_cons, List.mem_cons]
      refine ⟨by omega, fun p hp => ?_⟩
      rcases hp with rfl | hp
      · omega
      · have := i.2 p hp
        simp at this
        omega
    | false =>
      rw [spl_miss h]
      have i := spl_len S r 0 (acc ++ [c])
      simp only [List.length_cons, List.length_append] at i ⊢
      refine ⟨by omega, fun p hp => ?_⟩
      have := i.2 p hp
      simp at this
      omega
  | c :: r, k + 1, acc => by
    have i := spl_len S r k acc
    show (spl S k acc r).length ≤ _ ∧ ∀ p ∈ spl S k acc r, _
    simp only [List.length_cons]
    exact ⟨by omega, fun p hp => by have := i.2 p hp; omega⟩
theorem slen (x y : Str) : (x ++ y).length = x.length + y.length := by simp only [len_tl, tl_append, List.length_append]
theorem emp_app (x : Str) : Str.empty ++ x = x := ext_tl (by rw [tl_append]; rfl)
theorem pieces_len {y : Str} {c : Nat} (ey : tl y = [c]) (hk : y.cps.all (· < 256) = true) (t : Str) : (Txt.split t y).length ≤ t.length + 1 ∧ (∀ l ∈ Txt.split t y, l.length ≤ t.length) ∧ Txt.split t y ≠ [] := by
  have sp := split_spl t y (by rw [ey]; simp) (kind_ok hk)
  rw [ey] at sp
  have i := spl_len [c] (tl t) 0 []
  rw [← len_tl, ← sp, List.length_map] at i
  refine ⟨i.1, fun l hl => ?_, fun e => ?_⟩
  · have := i.2 (tl l) (List.mem_map_of_mem hl)
    rw [← len_tl] at this
    simpa using this
  · rw [e] at sp
    exact spl_ne _ _ _ _ sp.symm
/-- the words of a text, told by its partition -/
theorem words1 {y : Str} {c : Nat} (ey : tl y = [c]) (hk : y.cps.all (· < 256) = true) (l : Str) : (c ∉ tl l ∧ Txt.split l y = [l] ∧ Txt.partition l y = (l, Str.empty, Str.empty)) ∨
    (∃ a b, l = a ++ y ++ b ∧ c ∉ tl a ∧ c ∉ tl b ∧ Txt.partition l y = (a, y, b) ∧ Txt.split l y = [a, b]) ∨
    (∃ a b, l = a ++ y ++ b ∧ c ∉ tl a ∧ c ∈ tl b ∧ Txt.partition l y = (a, y, b) ∧ 2 < (Txt.split l y).length) := by
  have sp := split_spl l y (by rw [ey]; simp) (kind_ok hk)
  rw [ey] at sp
  rcases cut_at c y ey l with h | ⟨a, b, e, h⟩
  · refine .inl ⟨h, ?_, partition_none ey h⟩
    refine map_tl_inj ?_
    rw [sp, spl_last1 h]
    rfl
  · refine .inr ?_
    have pa := partition_app (b := b) ey h
    rw [← e] at pa
    rw [e, tl_append, tl_append, ey, List.append_assoc, spl_part1 h, List.nil_append] at sp
    rcases cut_at c y ey b with h2 | ⟨a2, b2, e2, h2⟩
    · refine .inl ⟨a, b, e, h, h2, pa, ?_⟩
      rw [spl_last1 h2] at sp
      rw [e]
      refine map_tl_inj ?_
      rw [sp]
      rfl
    · refine .inr ⟨a, b, e, h, ?_, pa, ?_⟩
      · rw [e2, tl_append, tl_append, ey]; simp
      · rw [e2, tl_append, tl_append, ey, List.append_assoc, spl_part1 h2] at sp
        rw [e, e2, ← List.length_map (f := tl), sp]
        have z2 := List.length_pos_iff.mpr (spl_ne [c] (tl b2) 0 [])
        simp only [List.length_cons]
        omega
theorem one_ne {y : Str} {c : Nat} (ey : tl y = [c]) : y.length ≠ 0 := by
  have := len_tl y
  rw [ey] at this
  simp at this
  omega
theorem split_of {y : Str} {c : Nat} (ey : tl y = [c]) (n : Nat) {m : Nat} {t : Str} (h : t.length + 2 ≤ LIM) : splitF [(n, .str t), (m, .str y)] = some (1, .list ((Txt.split t y).map PyData.str)) := by
  rw [split_s, if_pos ⟨one_ne ey, h⟩]
theorem part_of {y : Str} {c : Nat} (ey : tl y = [c]) (n : Nat) {m : Nat} {t : Str} (h : t.length ≤ LIM) : partF [(n, .str t), (m, .str y)] = some (0, .tuple [.str (Txt.partition t y).1, .str (Txt.partition t y).2.1, .str (Txt.partition t y).2.2]) := by
  rw [part_s, if_pos ⟨one_ne ey, h⟩]
end Mb
end

section
set_option Elab.async false
set_option linter.all false
set_option maxRecDepth 100000
set_option maxHeartbeats 4000000
namespace K55
open PySem PySem.Spec PyProof.Rows L2 Mb
def top (i : Nat) : Stmt := PySem.Challenge.pw_meetsagain_k55_dots_vectors_and_values_i.main.body.getD i (.Pass ⟨0, 0, 0, 0⟩)
def blts : List Str := ["abs", "all", "any", "bool", "int", "isinstance", "len", "range", "repr", "str", "tuple", "zip"]
def glbs : List (Str × PyData) := [("MAX_COPIES", .int 8), ("DIGITS", .str "0123456789"), ("NONE", .str "-")]
def x_BadForm : List Ent → Option Exn := mkLine "BadForm"
def exss : List (Str × (List Ent → Option Exn)) := [("BadForm", x_BadForm)]
noncomputable def G (l : List (Str × FD)) : Gm := ⟨blts, glbs, l, exss⟩
theorem gg_0 (l : List (Str × FD)) : (G l).glb[0]? = some (("MAX_COPIES" : Str), .int 8) := rfl
theorem gg_1 (l : List (Str × FD)) : (G l).glb[1]? = some (("DIGITS" : Str), .str "0123456789") := rfl
theorem gg_2 (l : List (Str × FD)) : (G l).glb[2]? = some (("NONE" : Str), .str "-") := rfl
theorem gx_0 (l : List (Str × FD)) : (G l).exs[0]? = some (("BadForm" : Str), x_BadForm) := rfl
noncomputable def fl0 : List (Str × FD) := []
/-! is_integer: 0 value, 1 low, 2 high -/
def N_is_integer : List Str := ["value", "low", "high"]
def b_is_integer : Sms :=
  (.cons (.ite (.or (.not (.isi "int" (.var 0))) (.isi "bool" (.var 0)))
    (.cons (.ret (.bl false))
    .nil)
    .nil)
  (.cons (.ret (.and (.or (.cmp .is (.var 1) .non) (.cmp .ge (.var 0) (.var 1))) (.or (.cmp .is (.var 2) .non) (.cmp .le (.var 0) (.var 2)))))
  .nil))
noncomputable def F_is_integer : FD := runF 3 3 [] (dSs (G fl0) [] b_is_integer)
noncomputable def fl1 : List (Str × FD) := fl0 ++ [(("is_integer" : Str), F_is_integer)]
-- LEM is_integer: 
theorem c_is_integer : chkSs (G fl0) N_is_integer ⟨defScope (top 4), true⟩ b_is_integer (defBody (top 4)) = true := by decide +kernel
theorem s_is_integer : FnScope N_is_integer ["value", "low", "high"] (defScope (top 4)) := ⟨rfl, rfl, rfl, by decide +kernel, rfl, by decide +kernel, by decide +kernel⟩
def d_is_integer : He.DefD := ⟨("is_integer", none), "is_integer", "is_integer", defArgs (top 4), defBody (top 4), defScope (top 4), [], []⟩
/-! is_copy: 0 value -/
def N_is_copy : List Str := ["value"]
def b_is_copy : Sms :=
  (.cons (.ret (.call 0 (.val (.var 0) (.val (.int 0) (.val (.bin .sub (.glob 0) (.int 1)) .nil)))))
  .nil)
noncomputable def F_is_copy : FD := runF 1 1 [] (dSs (G fl1) [] b_is_copy)
noncomputable def fl2 : List (Str × FD) := fl1 ++ [(("is_copy" : Str), F_is_copy)]
theorem gf_1_0 : (G fl1).fns[0]? = some (("is_integer" : Str), F_is_integer) := rfl
-- LEM is_copy: gf_1_0, gg_0
theorem c_is_copy : chkSs (G fl1) N_is_copy ⟨defScope (top 7), true⟩ b_is_copy (defBody (top 7)) = true := by decide +kernel
theorem s_is_copy : FnScope N_is_copy ["value"] (defScope (top 7)) := ⟨rfl, rfl, rfl, by decide +kernel, rfl, by decide +kernel, by decide +kernel⟩
def d_is_copy : He.DefD := ⟨("is_copy", none), "is_copy", "is_copy", defArgs (top 7), defBody (top 7), defScope (top 7), [], []⟩
/-! is_dot: 0 value -/
def N_is_dot : List Str := ["value"]
def b_is_dot : Sms :=
  (.cons (.ret (.and (.isi "tuple" (.var 0)) (.and (.cmp .eq (.bi .len (.var 0)) (.int 2)) (.and (.call 1 (.val (.idx (.var 0) (.int 0)) .nil)) (.call 0 (.val (.idx (.var 0) (.int 1)) (.val (.int 1) (.val .non .nil))))))))
  .nil)
noncomputable def F_is_dot : FD := runF 1 1 [] (dSs (G fl2) [] b_is_dot)
noncomputable def fl3 : List (Str × FD) := fl2 ++ [(("is_dot" : Str), F_is_dot)]
theorem gf_2_0 : (G fl2).fns[0]? = some (("is_integer" : Str), F_is_integer) := rfl
theorem gf_2_1 : (G fl2).fns[1]? = some (("is_copy" : Str), F_is_copy) := rfl
-- LEM is_dot: gf_2_0, gf_2_1
theorem c_is_dot : chkSs (G fl2) N_is_dot ⟨defScope (top 8), true⟩ b_is_dot (defBody (top 8)) = true := by decide +kernel
theorem s_is_dot : FnScope N_is_dot ["value"] (defScope (top 8)) := ⟨rfl, rfl, rfl, by decide +kernel, rfl, by decide +kernel, by decide +kernel⟩
def d_is_dot : He.DefD := ⟨("is_dot", none), "is_dot", "is_dot", defArgs (top 8), defBody (top 8), defScope (top 8), [], []⟩
/-! is_vector: 0 value, 1 one, 2 other -/
def N_is_vector : List Str := ["value", "one", "other"]
def b_is_vector : Sms :=
  (.cons (.ite (.or (.not (.isi "tuple" (.var 0))) (.not (.bi .all (.comp [("one", 1)] (.nm 1) (.inn (.var 0)) .no (.call 2 (.val (.var 1) .nil))))))
    (.cons (.ret (.bl false))
    .nil)
    .nil)
  (.cons (.ret (.bi .all (.comp [("one", 1), ("other", 2)] (.tp [1, 2]) (.zip (.var 0) (.sl (.var 0) (.so (.int 1)) .no)) .no (.cmp .lt (.idx (.var 1) (.int 0)) (.idx (.var 2) (.int 0))))))
  .nil))
noncomputable def F_is_vector : FD := runF 3 1 [] (dSs (G fl3) [] b_is_vector)
noncomputable def fl4 : List (Str × FD) := fl3 ++ [(("is_vector" : Str), F_is_vector)]
theorem gf_3_2 : (G fl3).fns[2]? = some (("is_dot" : Str), F_is_dot) := rfl
-- LEM is_vector: gf_3_2
theorem c_is_vector : chkSs (G fl3) N_is_vector ⟨defScope (top 9), true⟩ b_is_vector (defBody (top 9)) = true := by decide +kernel
theorem s_is_vector : FnScope N_is_vector ["value"] (defScope (top 9)) := ⟨rfl, rfl, rfl, by decide +kernel, rfl, by decide +kernel, by decide +kernel⟩
def d_is_vector : He.DefD := ⟨("is_vector", none), "is_vector", "is_vector", defArgs (top 9), defBody (top 9), defScope (top 9), [], []⟩
/-! integer_in: 0 text, 1 signs, 2 sign -/
def N_integer_in : List Str := ["text", "signs", "sign"]
def b_integer_in : Sms :=
  (.cons (.asg 1 (.ite (.cmp .eq (.sl (.var 0) .no (.so (.int 1))) (.str "-")) (.sl (.var 0) (.so (.int 1)) .no) (.var 0)))
  (.cons (.ite (.or (.cmp .eq (.var 1) (.str "")) (.or (.bi .any (.comp [("sign", 2)] (.nm 2) (.inn (.var 1)) .no (.cmp .nin (.var 2) (.glob 1)))) (.cmp .ne (.fmt (.bi .int (.var 0))) (.var 0))))
    (.cons (.rais 0 (.cons (.int 0) .nil))
    .nil)
    .nil)
  (.cons (.ret (.bi .int (.var 0)))
  .nil)))
noncomputable def F_integer_in : FD := runF 3 1 [] (dSs (G fl4) [] b_integer_in)
noncomputable def fl5 : List (Str × FD) := fl4 ++ [(("integer_in" : Str), F_integer_in)]
-- LEM integer_in: gg_1, gx_0
theorem c_integer_in : chkSs (G fl4) N_integer_in ⟨defScope (top 13), true⟩ b_integer_in (defBody (top 13)) = true := by decide +kernel
theorem s_integer_in : FnScope N_integer_in ["text"] (defScope (top 13)) := ⟨rfl, rfl, rfl, by decide +kernel, rfl, by decide +kernel, by decide +kernel⟩
def d_integer_in : He.DefD := ⟨("integer_in", none), "integer_in", "integer_in", defArgs (top 13), defBody (top 13), defScope (top 13), [], []⟩
/-! dot_text: 0 dot -/
def N_dot_text : List Str := ["dot"]
def b_dot_text : Sms :=
  (.cons (.ret (.fstr (.cons (.fmt (.idx (.var 0) (.int 0))) (.cons (.str ".") (.cons (.fmt (.idx (.var 0) (.int 1))) .nil)))))
  .nil)
noncomputable def F_dot_text : FD := runF 1 1 [] (dSs (G fl5) [] b_dot_text)
noncomputable def fl6 : List (Str × FD) := fl5 ++ [(("dot_text" : Str), F_dot_text)]
-- LEM dot_text: 
theorem c_dot_text : chkSs (G fl5) N_dot_text ⟨defScope (top 14), true⟩ b_dot_text (defBody (top 14)) = true := by decide +kernel
theorem s_dot_text : FnScope N_dot_text ["dot"] (defScope (top 14)) := ⟨rfl, rfl, rfl, by decide +kernel, rfl, by decide +kernel, by decide +kernel⟩
def d_dot_text : He.DefD := ⟨("dot_text", none), "dot_text", "dot_text", defArgs (top 14), defBody (top 14), defScope (top 14), [], []⟩
/-! read_dot: 0 text, 1 found, 2 first, 3 point, 4 rest -/
def N_read_dot : List Str := ["text", "found", "first", "point", "rest"]
def b_read_dot : Sms :=
  (.cons (.asgT [2, 3, 4] (.me .partition (.var 0) (.str ".")))
  (.cons (.ite (.cmp .eq (.var 3) (.str ""))
    (.cons (.rais 0 (.cons (.int 0) .nil))
    .nil)
    .nil)
  (.cons (.asg 1 (.tup (.cons (.call 4 (.val (.var 2) .nil)) (.cons (.call 4 (.val (.var 4) .nil)) .nil))))
  (.cons (.ite (.not (.call 2 (.val (.var 1) .nil)))
    (.cons (.rais 0 (.cons (.int 0) .nil))
    .nil)
    .nil)
  (.cons (.ret (.var 1))
  .nil)))))
noncomputable def F_read_dot : FD := runF 5 1 [] (dSs (G fl6) [] b_read_dot)
noncomputable def fl7 : List (Str × FD) := fl6 ++ [(("read_dot" : Str), F_read_dot)]
theorem gf_6_2 : (G fl6).fns[2]? = some (("is_dot" : Str), F_is_dot) := rfl
theorem gf_6_4 : (G fl6).fns[4]? = some (("integer_in" : Str), F_integer_in) := rfl
-- LEM read_dot: gf_6_2, gf_6_4, gx_0
theorem c_read_dot : chkSs (G fl6) N_read_dot ⟨defScope (top 15), true⟩ b_read_dot (defBody (top 15)) = true := by decide +kernel
theorem s_read_dot : FnScope N_read_dot ["text"] (defScope (top 15)) := ⟨rfl, rfl, rfl, by decide +kernel, rfl, by decide +kernel, by decide +kernel⟩
def d_read_dot : He.DefD := ⟨("read_dot", none), "read_dot", "read_dot", defArgs (top 15), defBody (top 15), defScope (top 15), [], []⟩
/-! vector_text: 0 vector, 1 one -/
def N_vector_text : List Str := ["vector", "one"]
def b_vector_text : Sms :=
  (.cons (.ret (.or (.me .join (.str ",") (.comp [("one", 1)] (.nm 1) (.inn (.var 0)) .no (.call 5 (.val (.var 1) .nil)))) (.glob 2)))
  .nil)
noncomputable def F_vector_text : FD := runF 2 1 [] (dSs (G fl7) [] b_vector_text)
noncomputable def fl8 : List (Str × FD) := fl7 ++ [(("vector_text" : Str), F_vector_text)]
theorem gf_7_5 : (G fl7).fns[5]? = some (("dot_text" : Str), F_dot_text) := rfl
-- LEM vector_text: gf_7_5, gg_2
theorem c_vector_text : chkSs (G fl7) N_vector_text ⟨defScope (top 16), true⟩ b_vector_text (defBody (top 16)) = true := by decide +kernel
theorem s_vector_text : FnScope N_vector_text ["vector"] (defScope (top 16)) := ⟨rfl, rfl, rfl, by decide +kernel, rfl, by decide +kernel, by decide +kernel⟩
def d_vector_text : He.DefD := ⟨("vector_text", none), "vector_text", "vector_text", defArgs (top 16), defBody (top 16), defScope (top 16), [], []⟩
/-! read_vector: 0 text, 1 found, 2 word -/
def N_read_vector : List Str := ["text", "found", "word"]
def b_read_vector : Sms :=
  (.cons (.asg 1 (.ite (.cmp .eq (.var 0) (.glob 2)) (.tup .nil) (.bi .tuple (.compX [("word", 2)] (.nm 2) (.inn (.me .split (.var 0) (.str ","))) .no (.call 6 (.val (.var 2) .nil))))))
  (.cons (.ite (.not (.call 3 (.val (.var 1) .nil)))
    (.cons (.rais 0 (.cons (.int 0) .nil))
    .nil)
    .nil)
  (.cons (.ret (.var 1))
  .nil)))
noncomputable def F_read_vector : FD := runF 3 1 [] (dSs (G fl8) [] b_read_vector)
noncomputable def fl9 : List (Str × FD) := fl8 ++ [(("read_vector" : Str), F_read_vector)]
theorem gf_8_3 : (G fl8).fns[3]? = some (("is_vector" : Str), F_is_vector) := rfl
theorem gf_8_6 : (G fl8).fns[6]? = some (("read_dot" : Str), F_read_dot) := rfl
-- LEM read_vector: gf_8_3, gf_8_6, gg_2, gx_0
theorem c_read_vector : chkSs (G fl8) N_read_vector ⟨defScope (top 17), true⟩ b_read_vector (defBody (top 17)) = true := by decide +kernel
theorem s_read_vector : FnScope N_read_vector ["text"] (defScope (top 17)) := ⟨rfl, rfl, rfl, by decide +kernel, rfl, by decide +kernel, by decide +kernel⟩
def d_read_vector : He.DefD := ⟨("read_vector", none), "read_vector", "read_vector", defArgs (top 17), defBody (top 17), defScope (top 17), [], []⟩
/-! value_text: 0 value -/
def N_value_text : List Str := ["value"]
def b_value_text : Sms :=
  (.cons (.ret (.ite (.isi "int" (.var 0)) (.fmt (.var 0)) (.fstr (.cons (.str "\"") (.cons (.fmt (.var 0)) (.cons (.str "\"") .nil))))))
  .nil)
noncomputable def F_value_text : FD := runF 1 1 [] (dSs (G fl9) [] b_value_text)
noncomputable def fl10 : List (Str × FD) := fl9 ++ [(("value_text" : Str), F_value_text)]
-- LEM value_text: 
theorem c_value_text : chkSs (G fl9) N_value_text ⟨defScope (top 18), true⟩ b_value_text (defBody (top 18)) = true := by decide +kernel
theorem s_value_text : FnScope N_value_text ["value"] (defScope (top 18)) := ⟨rfl, rfl, rfl, by decide +kernel, rfl, by decide +kernel, by decide +kernel⟩
def d_value_text : He.DefD := ⟨("value_text", none), "value_text", "value_text", defArgs (top 18), defBody (top 18), defScope (top 18), [], []⟩
/-! read_value: 0 text -/
def N_read_value : List Str := ["text"]
def b_read_value : Sms :=
  (.cons (.ite (.cmp .ne (.sl (.var 0) .no (.so (.int 1))) (.str "\""))
    (.cons (.ret (.call 4 (.val (.var 0) .nil)))
    .nil)
    .nil)
  (.cons (.ite (.or (.cmp .lt (.bi .len (.var 0)) (.int 2)) (.cmp .ne (.idx (.var 0) (.neg (.int 1))) (.str "\"")))
    (.cons (.rais 0 (.cons (.int 0) .nil))
    .nil)
    .nil)
  (.cons (.ret (.sl (.var 0) (.so (.int 1)) (.so (.neg (.int 1)))))
  .nil)))
noncomputable def F_read_value : FD := runF 1 1 [] (dSs (G fl10) [] b_read_value)
noncomputable def fl11 : List (Str × FD) := fl10 ++ [(("read_value" : Str), F_read_value)]
theorem gf_10_4 : (G fl10).fns[4]? = some (("integer_in" : Str), F_integer_in) := rfl
-- LEM read_value: gf_10_4, gx_0
theorem c_read_value : chkSs (G fl10) N_read_value ⟨defScope (top 19), true⟩ b_read_value (defBody (top 19)) = true := by decide +kernel
theorem s_read_value : FnScope N_read_value ["text"] (defScope (top 19)) := ⟨rfl, rfl, rfl, by decide +kernel, rfl, by decide +kernel, by decide +kernel⟩
def d_read_value : He.DefD := ⟨("read_value", none), "read_value", "read_value", defArgs (top 19), defBody (top 19), defScope (top 19), [], []⟩
/-! _law_draw: 0 script, 1 seed, 2 cell -/
def N__law_draw : List Str := ["script", "seed", "cell"]
def b__law_draw : Sms :=
  (.cons (.asg 1 (.int 7))
  (.cons (.forr (.nm 2) (.inn (.var 0))
    (.cons (.asg 1 (.bin .mod (.bi .int (.bin .add (.bin .add (.bin .mul (.var 1) (.int 48271)) (.bin .mod (.bi .abs (.bi .int (.var 2))) (.int 65521))) (.int 1))) (.int 2147483647)))
    .nil))
  (.cons (.ret (.lst (.cons (.comp [("cell", 2)] (.nm 2) (.inn (.var 0)) .no (.bi .abs (.bi .int (.var 2)))) (.cons (.neg (.int 1)) (.cons (.int 0) (.cons (.var 1) .nil))))))
  .nil)))
noncomputable def F__law_draw : FD := runF 3 1 [] (dSs (G fl11) [] b__law_draw)
noncomputable def fl12 : List (Str × FD) := fl11 ++ [(("_law_draw" : Str), F__law_draw)]
-- LEM _law_draw: 
theorem c__law_draw : chkSs (G fl11) N__law_draw ⟨defScope (top 21), true⟩ b__law_draw (defBody (top 21)) = true := by decide +kernel
theorem s__law_draw : FnScope N__law_draw ["script"] (defScope (top 21)) := ⟨rfl, rfl, rfl, by decide +kernel, rfl, by decide +kernel, by decide +kernel⟩
def d__law_draw : He.DefD := ⟨("_law_draw", none), "_law_draw", "_law_draw", defArgs (top 21), defBody (top 21), defScope (top 21), [], []⟩
/-! _law_take: 0 draw, 1 many, 2 found -/
def N__law_take : List Str := ["draw", "many", "found"]
def b__law_take : Sms :=
  (.cons (.ite (.cmp .eq (.idx (.var 0) (.int 2)) (.int 0))
    (.cons (.setL 0 (.int 1) (.bin .add (.idx (.var 0) (.int 1)) (.int 1)))
    (.cons (.ite (.cmp .lt (.idx (.var 0) (.int 1)) (.bi .len (.idx (.var 0) (.int 0))))
      (.cons (.setL 0 (.int 2) (.idx (.idx (.var 0) (.int 0)) (.idx (.var 0) (.int 1))))
      .nil)
      .nil)
    (.cons (.ite (.cmp .eq (.idx (.var 0) (.int 2)) (.int 0))
      (.cons (.setL 0 (.int 3) (.bin .mod (.bi .int (.bin .add (.bin .mul (.idx (.var 0) (.int 3)) (.int 48271)) (.int 11))) (.int 2147483647)))
      (.cons (.setL 0 (.int 2) (.idx (.var 0) (.int 3)))
      .nil))
      .nil)
    .nil)))
    .nil)
  (.cons (.asg 2 (.bin .mod (.bi .int (.idx (.var 0) (.int 2))) (.var 1)))
  (.cons (.setL 0 (.int 2) (.bin .div (.idx (.var 0) (.int 2)) (.var 1)))
  (.cons (.ret (.var 2))
  .nil))))
noncomputable def F__law_take : FD := runF 3 2 [0] (dSs (G fl12) [0] b__law_take)
noncomputable def fl13 : List (Str × FD) := fl12 ++ [(("_law_take" : Str), F__law_take)]
-- LEM _law_take: 
theorem c__law_take : chkSs (G fl12) N__law_take ⟨defScope (top 22), true⟩ b__law_take (defBody (top 22)) = true := by decide +kernel
theorem s__law_take : FnScope N__law_take ["draw", "many"] (defScope (top 22)) := ⟨rfl, rfl, rfl, by decide +kernel, rfl, by decide +kernel, by decide +kernel⟩
def d__law_take : He.DefD := ⟨("_law_take", none), "_law_take", "_law_take", defArgs (top 22), defBody (top 22), defScope (top 22), [], []⟩
/-! _law_same: 0 actual, 1 due -/
def N__law_same : List Str := ["actual", "due"]
def b__law_same : Sms :=
  (.cons (.ret (.and (.cmp .eq (.var 0) (.var 1)) (.cmp .eq (.bi .repr (.var 0)) (.bi .repr (.var 1)))))
  .nil)
noncomputable def F__law_same : FD := runF 2 2 [] (dSs (G fl13) [] b__law_same)
noncomputable def fl14 : List (Str × FD) := fl13 ++ [(("_law_same" : Str), F__law_same)]
-- LEM _law_same: 
theorem c__law_same : chkSs (G fl13) N__law_same ⟨defScope (top 23), true⟩ b__law_same (defBody (top 23)) = true := by decide +kernel
theorem s__law_same : FnScope N__law_same ["actual", "due"] (defScope (top 23)) := ⟨rfl, rfl, rfl, by decide +kernel, rfl, by decide +kernel, by decide +kernel⟩
def d__law_same : He.DefD := ⟨("_law_same", none), "_law_same", "_law_same", defArgs (top 23), defBody (top 23), defScope (top 23), [], []⟩
/-! _law_dot: 0 dot -/
def N__law_dot : List Str := ["dot"]
def b__law_dot : Sms :=
  (.cons (.ret (.bin .add (.bin .add (.bi .str (.idx (.var 0) (.int 0))) (.str ".")) (.bi .str (.idx (.var 0) (.int 1)))))
  .nil)
noncomputable def F__law_dot : FD := runF 1 1 [] (dSs (G fl14) [] b__law_dot)
noncomputable def fl15 : List (Str × FD) := fl14 ++ [(("_law_dot" : Str), F__law_dot)]
-- LEM _law_dot: 
theorem c__law_dot : chkSs (G fl14) N__law_dot ⟨defScope (top 24), true⟩ b__law_dot (defBody (top 24)) = true := by decide +kernel
theorem s__law_dot : FnScope N__law_dot ["dot"] (defScope (top 24)) := ⟨rfl, rfl, rfl, by decide +kernel, rfl, by decide +kernel, by decide +kernel⟩
def d__law_dot : He.DefD := ⟨("_law_dot", none), "_law_dot", "_law_dot", defArgs (top 24), defBody (top 24), defScope (top 24), [], []⟩
/-! _law_vector: 0 vector, 1 one -/
def N__law_vector : List Str := ["vector", "one"]
def b__law_vector : Sms :=
  (.cons (.ret (.ite (.cmp .ne (.var 0) (.tup .nil)) (.me .join (.str ",") (.comp [("one", 1)] (.nm 1) (.inn (.var 0)) .no (.call 14 (.val (.var 1) .nil)))) (.str "-")))
  .nil)
noncomputable def F__law_vector : FD := runF 2 1 [] (dSs (G fl15) [] b__law_vector)
noncomputable def fl16 : List (Str × FD) := fl15 ++ [(("_law_vector" : Str), F__law_vector)]
theorem gf_15_14 : (G fl15).fns[14]? = some (("_law_dot" : Str), F__law_dot) := rfl
-- LEM _law_vector: gf_15_14
theorem c__law_vector : chkSs (G fl15) N__law_vector ⟨defScope (top 25), true⟩ b__law_vector (defBody (top 25)) = true := by decide +kernel
theorem s__law_vector : FnScope N__law_vector ["vector"] (defScope (top 25)) := ⟨rfl, rfl, rfl, by decide +kernel, rfl, by decide +kernel, by decide +kernel⟩
def d__law_vector : He.DefD := ⟨("_law_vector", none), "_law_vector", "_law_vector", defArgs (top 25), defBody (top 25), defScope (top 25), [], []⟩
/-! _law_text: 0 value -/
def N__law_text : List Str := ["value"]
def b__law_text : Sms :=
  (.cons (.ite (.cmp .is (.var 0) .non)
    (.cons (.ret (.str "-"))
    .nil)
    .nil)
  (.cons (.ret (.ite (.isi "tuple" (.var 0)) (.call 14 (.val (.var 0) .nil)) (.ite (.isi "int" (.var 0)) (.bi .str (.var 0)) (.bin .add (.bin .add (.str "\"") (.var 0)) (.str "\"")))))
  .nil))
noncomputable def F__law_text : FD := runF 1 1 [] (dSs (G fl16) [] b__law_text)
noncomputable def fl17 : List (Str × FD) := fl16 ++ [(("_law_text" : Str), F__law_text)]
theorem gf_16_14 : (G fl16).fns[14]? = some (("_law_dot" : Str), F__law_dot) := rfl
-- LEM _law_text: gf_16_14
theorem c__law_text : chkSs (G fl16) N__law_text ⟨defScope (top 26), true⟩ b__law_text (defBody (top 26)) = true := by decide +kernel
theorem s__law_text : FnScope N__law_text ["value"] (defScope (top 26)) := ⟨rfl, rfl, rfl, by decide +kernel, rfl, by decide +kernel, by decide +kernel⟩
def d__law_text : He.DefD := ⟨("_law_text", none), "_law_text", "_law_text", defArgs (top 26), defBody (top 26), defScope (top 26), [], []⟩
/-! _law_int: 0 text, 1 signs, 2 sign -/
def N__law_int : List Str := ["text", "signs", "sign"]
def b__law_int : Sms :=
  (.cons (.asg 1 (.ite (.cmp .eq (.sl (.var 0) .no (.so (.int 1))) (.str "-")) (.sl (.var 0) (.so (.int 1)) .no) (.var 0)))
  (.cons (.ite (.or (.cmp .eq (.var 1) (.str "")) (.or (.cmp .ne (.comp [("sign", 2)] (.nm 2) (.inn (.var 1)) (.so (.cmp .nin (.var 2) (.str "0123456789"))) (.var 2)) (.lst .nil)) (.cmp .ne (.bi .str (.bi .int (.var 0))) (.var 0))))
    (.cons (.ret .non)
    .nil)
    .nil)
  (.cons (.ret (.bi .int (.var 0)))
  .nil)))
noncomputable def F__law_int : FD := runF 3 1 [] (dSs (G fl17) [] b__law_int)
noncomputable def fl18 : List (Str × FD) := fl17 ++ [(("_law_int" : Str), F__law_int)]
-- LEM _law_int: 
theorem c__law_int : chkSs (G fl17) N__law_int ⟨defScope (top 27), true⟩ b__law_int (defBody (top 27)) = true := by decide +kernel
theorem s__law_int : FnScope N__law_int ["text"] (defScope (top 27)) := ⟨rfl, rfl, rfl, by decide +kernel, rfl, by decide +kernel, by decide +kernel⟩
def d__law_int : He.DefD := ⟨("_law_int", none), "_law_int", "_law_int", defArgs (top 27), defBody (top 27), defScope (top 27), [], []⟩
/-! _law_dot_in: 0 text, 1 words, 2 found, 3 word -/
def N__law_dot_in : List Str := ["text", "words", "found", "word"]
def b__law_dot_in : Sms :=
  (.cons (.asg 1 (.me .split (.var 0) (.str ".")))
  (.cons (.asg 2 (.bi .tuple (.comp [("word", 3)] (.nm 3) (.inn (.var 1)) .no (.call 17 (.val (.var 3) .nil)))))
  (.cons (.ret (.ite (.and (.cmp .eq (.bi .len (.var 2)) (.int 2)) (.and (.cmp .nin .non (.var 2)) (.and (.chain .le .le (.int 0) (.idx (.var 2) (.int 0)) (.int 7)) (.cmp .ge (.idx (.var 2) (.int 1)) (.int 1))))) (.var 2) .non))
  .nil)))
noncomputable def F__law_dot_in : FD := runF 4 1 [] (dSs (G fl18) [] b__law_dot_in)
noncomputable def fl19 : List (Str × FD) := fl18 ++ [(("_law_dot_in" : Str), F__law_dot_in)]
theorem gf_18_17 : (G fl18).fns[17]? = some (("_law_int" : Str), F__law_int) := rfl
-- LEM _law_dot_in: gf_18_17
theorem c__law_dot_in : chkSs (G fl18) N__law_dot_in ⟨defScope (top 28), true⟩ b__law_dot_in (defBody (top 28)) = true := by decide +kernel
theorem s__law_dot_in : FnScope N__law_dot_in ["text"] (defScope (top 28)) := ⟨rfl, rfl, rfl, by decide +kernel, rfl, by decide +kernel, by decide +kernel⟩
def d__law_dot_in : He.DefD := ⟨("_law_dot_in", none), "_law_dot_in", "_law_dot_in", defArgs (top 28), defBody (top 28), defScope (top 28), [], []⟩
/-! _law_vector_in: 0 text, 1 found, 2 word, 3 k -/
def N__law_vector_in : List Str := ["text", "found", "word", "k"]
def b__law_vector_in : Sms :=
  (.cons (.asg 1 (.ite (.cmp .eq (.var 0) (.str "-")) (.tup .nil) (.bi .tuple (.comp [("word", 2)] (.nm 2) (.inn (.me .split (.var 0) (.str ","))) .no (.call 18 (.val (.var 2) .nil))))))
  (.cons (.ret (.ite (.and (.cmp .nin .non (.var 1)) (.cmp .eq (.comp [("k", 3)] (.nm 3) (.rng2 (.int 1) (.bi .len (.var 1))) (.so (.cmp .ge (.idx (.idx (.var 1) (.bin .sub (.var 3) (.int 1))) (.int 0)) (.idx (.idx (.var 1) (.var 3)) (.int 0)))) (.var 3)) (.lst .nil))) (.var 1) .non))
  .nil))
noncomputable def F__law_vector_in : FD := runF 4 1 [] (dSs (G fl19) [] b__law_vector_in)
noncomputable def fl20 : List (Str × FD) := fl19 ++ [(("_law_vector_in" : Str), F__law_vector_in)]
theorem gf_19_18 : (G fl19).fns[18]? = some (("_law_dot_in" : Str), F__law_dot_in) := rfl
-- LEM _law_vector_in: gf_19_18
theorem c__law_vector_in : chkSs (G fl19) N__law_vector_in ⟨defScope (top 29), true⟩ b__law_vector_in (defBody (top 29)) = true := by decide +kernel
theorem s__law_vector_in : FnScope N__law_vector_in ["text"] (defScope (top 29)) := ⟨rfl, rfl, rfl, by decide +kernel, rfl, by decide +kernel, by decide +kernel⟩
def d__law_vector_in : He.DefD := ⟨("_law_vector_in", none), "_law_vector_in", "_law_vector_in", defArgs (top 29), defBody (top 29), defScope (top 29), [], []⟩
/-! _law_told: 0 call, 1 text, 2 wrong -/
def N__law_told : List Str := ["call", "text", "wrong"]
def b__law_told : Sms :=
  (.cons (.tryK (.cons (.ret (.ite (.cmp .eq (.var 0) (.int 0)) (.call 6 (.val (.var 1) .nil)) (.ite (.cmp .eq (.var 0) (.int 1)) (.call 8 (.val (.var 1) .nil)) (.call 10 (.val (.var 1) .nil)))))
    .nil) 0 (.fldIf 2 "line" 0 (.str "bad") (.str "?")))
  .nil)
noncomputable def F__law_told : FD := runF 3 2 [] (dSs (G fl20) [] b__law_told)
noncomputable def fl21 : List (Str × FD) := fl20 ++ [(("_law_told" : Str), F__law_told)]
theorem gf_20_6 : (G fl20).fns[6]? = some (("read_dot" : Str), F_read_dot) := rfl
theorem gf_20_8 : (G fl20).fns[8]? = some (("read_vector" : Str), F_read_vector) := rfl
theorem gf_20_10 : (G fl20).fns[10]? = some (("read_value" : Str), F_read_value) := rfl
-- LEM _law_told: gf_20_6, gf_20_8, gf_20_10, gx_0
theorem c__law_told : chkSs (G fl20) N__law_told ⟨defScope (top 30), true⟩ b__law_told (defBody (top 30)) = true := by decide +kernel
theorem s__law_told : FnScope N__law_told ["call", "text"] (defScope (top 30)) := ⟨rfl, rfl, rfl, by decide +kernel, rfl, by decide +kernel, by decide +kernel⟩
def d__law_told : He.DefD := ⟨("_law_told", none), "_law_told", "_law_told", defArgs (top 30), defBody (top 30), defScope (top 30), [], []⟩
/-! _law_bent: 0 draw, 1 text, 2 at, 3 more -/
def N__law_bent : List Str := ["draw", "text", "at", "more"]
def b__law_bent : Sms :=
  (.cons (.par [2, 3] (.cons (.call 12 (.own 0 (.val (.bin .add (.bi .len (.var 1)) (.int 1)) .nil))) (.cons (.idx (.str "0123.,-a\"z 9") (.call 12 (.own 0 (.val (.int 12) .nil)))) .nil)))
  (.cons (.ret (.idx (.lst (.cons (.bin .add (.bin .add (.sl (.var 1) .no (.so (.var 2))) (.var 3)) (.sl (.var 1) (.so (.var 2)) .no)) (.cons (.bin .add (.sl (.var 1) .no (.so (.var 2))) (.sl (.var 1) (.so (.bin .add (.var 2) (.int 1))) .no)) (.cons (.bin .add (.bin .add (.sl (.var 1) .no (.so (.var 2))) (.var 3)) (.sl (.var 1) (.so (.bin .add (.var 2) (.int 1))) .no)) (.cons (.var 1) .nil))))) (.call 12 (.own 0 (.val (.int 4) .nil)))))
  .nil))
noncomputable def F__law_bent : FD := runF 4 2 [0] (dSs (G fl21) [0] b__law_bent)
noncomputable def fl22 : List (Str × FD) := fl21 ++ [(("_law_bent" : Str), F__law_bent)]
theorem gf_21_12 : (G fl21).fns[12]? = some (("_law_take" : Str), F__law_take) := rfl
-- LEM _law_bent: gf_21_12
theorem c__law_bent : chkSs (G fl21) N__law_bent ⟨defScope (top 31), true⟩ b__law_bent (defBody (top 31)) = true := by decide +kernel
theorem s__law_bent : FnScope N__law_bent ["draw", "text"] (defScope (top 31)) := ⟨rfl, rfl, rfl, by decide +kernel, rfl, by decide +kernel, by decide +kernel⟩
def d__law_bent : He.DefD := ⟨("_law_bent", none), "_law_bent", "_law_bent", defArgs (top 31), defBody (top 31), defScope (top 31), [], []⟩
/-! _law_any: 0 text -/
def N__law_any : List Str := ["text"]
def b__law_any : Sms :=
  (.cons (.ite (.cmp .eq (.sl (.var 0) .no (.so (.int 1))) (.str "\""))
    (.cons (.ret (.ite (.and (.cmp .gt (.bi .len (.var 0)) (.int 1)) (.cmp .eq (.idx (.var 0) (.neg (.int 1))) (.str "\""))) (.sl (.var 0) (.so (.int 1)) (.so (.neg (.int 1)))) (.str "bad")))
    .nil)
    .nil)
  (.cons (.ret (.ite (.cmp .is (.call 17 (.val (.var 0) .nil)) .non) (.str "bad") (.call 17 (.val (.var 0) .nil))))
  .nil))
noncomputable def F__law_any : FD := runF 1 1 [] (dSs (G fl22) [] b__law_any)
noncomputable def fl23 : List (Str × FD) := fl22 ++ [(("_law_any" : Str), F__law_any)]
theorem gf_22_17 : (G fl22).fns[17]? = some (("_law_int" : Str), F__law_int) := rfl
-- LEM _law_any: gf_22_17
theorem c__law_any : chkSs (G fl22) N__law_any ⟨defScope (top 32), true⟩ b__law_any (defBody (top 32)) = true := by decide +kernel
theorem s__law_any : FnScope N__law_any ["text"] (defScope (top 32)) := ⟨rfl, rfl, rfl, by decide +kernel, rfl, by decide +kernel, by decide +kernel⟩
def d__law_any : He.DefD := ⟨("_law_any", none), "_law_any", "_law_any", defArgs (top 32), defBody (top 32), defScope (top 32), [], []⟩
/-! law: 0 script, 1 draw, 2 turn, 3 dot, 4 vector, 5 value, 6 texts, 7 call, 8 k, 9 bent, 10 due, 11 copy -/
def N_law : List Str := ["script", "draw", "turn", "dot", "vector", "value", "texts", "call", "k", "bent", "due", "copy"]
def b_law : Sms :=
  (.cons (.asg 1 (.call 11 (.val (.var 0) .nil)))
  (.cons (.forr (.nm 2) (.rng1 (.int 6))
    (.cons (.asg 3 (.tup (.cons (.call 12 (.own 1 (.val (.int 8) .nil))) (.cons (.bin .add (.int 1) (.call 12 (.own 1 (.val (.idx (.lst (.cons (.int 9) (.cons (.int 400) .nil))) (.call 12 (.own 1 (.val (.int 2) .nil)))) .nil)))) .nil))))
    (.cons (.asg 4 (.bi .tuple (.comp [("copy", 11)] (.nm 11) (.rng1 (.int 8)) (.so (.cmp .eq (.call 12 (.own 1 (.val (.int 3) .nil))) (.int 0))) (.tup (.cons (.var 11) (.cons (.bin .add (.int 1) (.call 12 (.own 1 (.val (.int 30) .nil)))) .nil))))))
    (.cons (.asg 5 (.idx (.lst (.cons (.bin .sub (.call 12 (.own 1 (.val (.int 40) .nil))) (.int 20)) (.cons (.sl (.str "abcdefghij") .no (.so (.call 12 (.own 1 (.val (.int 10) .nil))))) (.cons (.str "") (.cons (.bin .mul (.str "zz") (.call 12 (.own 1 (.val (.int 20) .nil)))) .nil))))) (.call 12 (.own 1 (.val (.int 4) .nil)))))
    (.cons (.asg 6 (.lst (.cons (.call 14 (.val (.var 3) .nil)) (.cons (.call 15 (.val (.var 4) .nil)) (.cons (.call 16 (.val (.var 5) .nil)) .nil)))))
    (.cons (.ite (.not (.call 13 (.val (.lst (.cons (.call 5 (.val (.var 3) .nil)) (.cons (.call 7 (.val (.var 4) .nil)) (.cons (.call 9 (.val (.var 5) .nil)) .nil)))) (.val (.var 6) .nil))))
      (.cons (.ret (.bl false))
      .nil)
      .nil)
    (.cons (.forr (.nm 7) (.rng1 (.int 3))
      (.cons (.ite (.not (.call 13 (.val (.call 20 (.val (.var 7) (.val (.idx (.var 6) (.var 7)) .nil))) (.val (.idx (.lst (.cons (.var 3) (.cons (.var 4) (.cons (.var 5) .nil)))) (.var 7)) .nil))))
        (.cons (.ret (.bl false))
        .nil)
        .nil)
      (.cons (.forr (.nm 8) (.rng1 (.int 6))
        (.cons (.asg 9 (.call 21 (.own 1 (.val (.idx (.var 6) (.var 7)) .nil))))
        (.cons (.asg 10 (.ite (.cmp .lt (.var 7) (.int 2)) (.idx (.lst (.cons (.call 18 (.val (.var 9) .nil)) (.cons (.call 19 (.val (.var 9) .nil)) .nil))) (.var 7)) (.call 22 (.val (.var 9) .nil))))
        (.cons (.ite (.not (.call 13 (.val (.call 20 (.val (.var 7) (.val (.var 9) .nil))) (.val (.ite (.cmp .is (.var 10) .non) (.str "bad") (.var 10)) .nil))))
          (.cons (.ret (.bl false))
          .nil)
          .nil)
        .nil))))
      .nil)))
    .nil)))))))
  (.cons (.ret (.and (.cmp .eq (.call 20 (.val (.int 0) (.val (.str "8.1") .nil))) (.str "bad")) (.and (.cmp .eq (.call 20 (.val (.int 0) (.val (.str "0.0") .nil))) (.str "bad")) (.and (.cmp .eq (.call 20 (.val (.int 1) (.val (.str "") .nil))) (.str "bad")) (.and (.cmp .eq (.call 20 (.val (.int 2) (.val (.str "") .nil))) (.str "bad")) (.cmp .eq (.call 20 (.val (.int 1) (.val (.str "1.1,0.1") .nil))) (.str "bad")))))))
  .nil)))
noncomputable def F_law : FD := runF 12 1 [] (dSs (G fl23) [] b_law)
noncomputable def fl24 : List (Str × FD) := fl23 ++ [(("law" : Str), F_law)]
theorem gf_23_5 : (G fl23).fns[5]? = some (("dot_text" : Str), F_dot_text) := rfl
theorem gf_23_7 : (G fl23).fns[7]? = some (("vector_text" : Str), F_vector_text) := rfl
theorem gf_23_9 : (G fl23).fns[9]? = some (("value_text" : Str), F_value_text) := rfl
theorem gf_23_11 : (G fl23).fns[11]? = some (("_law_draw" : Str), F__law_draw) := rfl
theorem gf_23_12 : (G fl23).fns[12]? = some (("_law_take" : Str), F__law_take) := rfl
theorem gf_23_13 : (G fl23).fns[13]? = some (("_law_same" : Str), F__law_same) := rfl
theorem gf_23_14 : (G fl23).fns[14]? = some (("_law_dot" : Str), F__law_dot) := rfl
theorem gf_23_15 : (G fl23).fns[15]? = some (("_law_vector" : Str), F__law_vector) := rfl
theorem gf_23_16 : (G fl23).fns[16]? = some (("_law_text" : Str), F__law_text) := rfl
theorem gf_23_18 : (G fl23).fns[18]? = some (("_law_dot_in" : Str), F__law_dot_in) := rfl
theorem gf_23_19 : (G fl23).fns[19]? = some (("_law_vector_in" : Str), F__law_vector_in) := rfl
theorem gf_23_20 : (G fl23).fns[20]? = some (("_law_told" : Str), F__law_told) := rfl
theorem gf_23_21 : (G fl23).fns[21]? = some (("_law_bent" : Str), F__law_bent) := rfl
theorem gf_23_22 : (G fl23).fns[22]? = some (("_law_any" : Str), F__law_any) := rfl
-- LEM law: gf_23_5, gf_23_7, gf_23_9, gf_23_11, gf_23_12, gf_23_13, gf_23_14, gf_23_15, gf_23_16, gf_23_18, gf_23_19, gf_23_20, gf_23_21, gf_23_22
theorem c_law : chkSs (G fl23) N_law ⟨defScope (top 33), true⟩ b_law (defBody (top 33)) = true := by decide +kernel
theorem s_law : FnScope N_law ["script"] (defScope (top 33)) := ⟨rfl, rfl, rfl, by decide +kernel, rfl, by decide +kernel, by decide +kernel⟩
def d_law : He.DefD := ⟨("law", none), "law", "law", defArgs (top 33), defBody (top 33), defScope (top 33), [], []⟩
end K55
end

section
set_option Elab.async false
set_option linter.all false
set_option maxRecDepth 100000
set_option maxHeartbeats 4000000
namespace K55
open PySem PySem.Spec PyProof.Rows L2 Mb TL
theorem take_F {d : PyData} {m : Int} (hd : DrawOk d) (hm : 0 < m) (hl : m.natAbs.log2 < 9000) : ∃ (r : Int) (d' : PyData), F__law_take [(1, d), (0, .int m)] = .ok (0, .int r) [some (1, d'), none] ∧ DrawOk d' ∧ 0 ≤ r ∧ r < m := take_ok (G fl12) hd hm hl
theorem draw_F (ns : List Int) (hl : ns.length ≤ 63) : ∃ (d : PyData) (ps : List (Option Ent)), F__law_draw [(0, .list (ns.map PyData.int))] = .ok (1, d) ps ∧ DrawOk d := draw_ok (G fl11) ns hl
theorem same_F {d : PyData} (h : Shows d) : F__law_same [(0, d), (0, d)] = .ok (0, .bool true) [none, none] := same_ok (G fl13) h
theorem isint_b {v lo hi : Int} : F_is_integer [(0, .int v), (0, .int lo), (0, .int hi)] = .ok (0, .bool (decide (lo ≤ v) && decide (v ≤ hi))) [none, none, none] := by
  unfold F_is_integer b_is_integer
  simp only [e_run, List.length_cons, List.length_nil, if_true, List.map_cons, List.map_nil, List.cons_append, List.nil_append, List.replicate_succ, List.replicate_zero, Nat.reduceSub, Nat.reduceAdd]
  simp only [dSs, dS, den, denV, denR, denC, denO, denG, denJ, denOw, Den.val, BOp.F, COp.F, Bi.F, Me.F, TgA.tgt, bind_ok, bind_exc, bind_bad, opR_some, getR_some, varR_some, e_ixV, ixVR_some, truR_some, boolR_bool, andR_some, orR_some, itR_some, itemsOf, partR_int, e_var, e_varB, e_lit, e_op, e_op2, e_cons, e_nil, e_frz, e_tru, e_bool, e_seq, e_asg, e_expr, e_ret, e_retN, e_and, e_or, e_not, e_andT, e_orT, e_notT, e_if, e_un, e_m1, e_noPart, e_part, e_sl, e_only0, e_chain, chR_bool, e_str, e_jnil, e_jcons, strR_str, e_comp, e_in, e_rng1, e_enum, enR_list, e_next, e_brk, e_cont, e_ifS, e_for, e_par, e_ocons, e_asgT, e_app, e_setL, e_rais, e_cnil, e_cval, e_cown, e_callV, e_callO, callR_some, fresR_ok, fresR_exc, seqR_next, seqR_ret, seqR_exc, seqR_brk, seqR_cont, fin_ret, fin_next, fin_exc, List.getElem?_cons_zero, List.getElem?_cons_succ, List.set_cons_zero, List.set_cons_succ, List.map_cons, List.map_nil, List.nil_append, List.cons_append, List.all_cons, List.all_nil, List.contains_nil, Bool.or_self, Bool.and_self, Bool.or_false, Bool.false_or, Bool.or_true, Bool.true_or, Bool.and_true, Bool.true_and, Bool.and_false, Bool.false_and, Bool.not_true, Bool.not_false, or_true, true_or, and_true, true_and, if_true, if_false, ite_true, ite_false, Bool.false_eq_true, reduceCtorEq, isV, isS, get_nil, get_val, owns_n, owns_v, owns_o, Option.map_some, decide_true, decide_false, tru_bool, tru_list, tru_tup, ix_l, ix_t, int_i, abs_i, add_ii, len_l, len_t, lst_neg, tup_t, List.length_cons, List.length_nil, Nat.zero_add, Nat.reduceAdd, eq_self, setAll_c, setAll_n, setEnts_c, setEnts_n, asgTR_tup, Nat.zero_le, Nat.le_refl, all_of, any_of, wipe_nil, wipe_cons, back_nil, back_cons, backO_some, keep0_none, keep0_val, mul_ii, e_compX, compEnd_ok, compEnd_exc, e_zip, zipK_l, zipK_t, e_rng2, isi_bool, isi_str, isi_tup, isi_int, PyData.isStr, PyData.isTuple, PyData.isInt, PyData.isBool, PyData.plain, eq_ii, ne_ii, lt_ii, le_ii, gt_ii, ge_ii, eq_ss, ne_ss, le_ss, is_int]
  cases decide (lo ≤ v) <;> rfl
theorem isint_l {v lo : Int} : F_is_integer [(0, .int v), (0, .int lo), (0, .none)] = .ok (0, .bool (decide (lo ≤ v))) [none, none, none] := by
  unfold F_is_integer b_is_integer
  simp only [e_run, List.length_cons, List.length_nil, if_true, List.map_cons, List.map_nil, List.cons_append, List.nil_append, List.replicate_succ, List.replicate_zero, Nat.reduceSub, Nat.reduceAdd]
  simp only [dSs, dS, den, denV, denR, denC, denO, denG, denJ, denOw, Den.val, BOp.F, COp.F, Bi.F, Me.F, TgA.tgt, bind_ok, bind_exc, bind_bad, opR_some, getR_some, varR_some, e_ixV, ixVR_some, truR_some, boolR_bool, andR_some, orR_some, itR_some, itemsOf, partR_int, e_var, e_varB, e_lit, e_op, e_op2, e_cons, e_nil, e_frz, e_tru, e_bool, e_seq, e_asg, e_expr, e_ret, e_retN, e_and, e_or, e_not, e_andT, e_orT, e_notT, e_if, e_un, e_m1, e_noPart, e_part, e_sl, e_only0, e_chain, chR_bool, e_str, e_jnil, e_jcons, strR_str, e_comp, e_in, e_rng1, e_enum, enR_list, e_next, e_brk, e_cont, e_ifS, e_for, e_par, e_ocons, e_asgT, e_app, e_setL, e_rais, e_cnil, e_cval, e_cown, e_callV, e_callO, callR_some, fresR_ok, fresR_exc, seqR_next, seqR_ret, seqR_exc, seqR_brk, seqR_cont, fin_ret, fin_next, fin_exc, List.getElem?_cons_zero, List.getElem?_cons_succ, List.set_cons_zero, List.set_cons_succ, List.map_cons, List.map_nil, List.nil_append, List.cons_append, List.all_cons, List.all_nil, List.contains_nil, Bool.or_self, Bool.and_self, Bool.or_false, Bool.false_or, Bool.or_true, Bool.true_or, Bool.and_true, Bool.true_and, Bool.and_false, Bool.false_and, Bool.not_true, Bool.not_false, or_true, true_or, and_true, true_and, if_true, if_false, ite_true, ite_false, Bool.false_eq_true, reduceCtorEq, isV, isS, get_nil, get_val, owns_n, owns_v, owns_o, Option.map_some, decide_true, decide_false, tru_bool, tru_list, tru_tup, ix_l, ix_t, int_i, abs_i, add_ii, len_l, len_t, lst_neg, tup_t, List.length_cons, List.length_nil, Nat.zero_add, Nat.reduceAdd, eq_self, setAll_c, setAll_n, setEnts_c, setEnts_n, asgTR_tup, Nat.zero_le, Nat.le_refl, all_of, any_of, wipe_nil, wipe_cons, back_nil, back_cons, backO_some, keep0_none, keep0_val, mul_ii, e_compX, compEnd_ok, compEnd_exc, e_zip, zipK_l, zipK_t, e_rng2, isi_bool, isi_str, isi_tup, isi_int, PyData.isStr, PyData.isTuple, PyData.isInt, PyData.isBool, PyData.plain, eq_ii, ne_ii, lt_ii, le_ii, gt_ii, ge_ii, eq_ss, ne_ss, le_ss, is_int, is_non]
  cases decide (lo ≤ v) <;> rfl
theorem copy_F {v : Int} : F_is_copy [(0, .int v)] = .ok (0, .bool (decide (0 ≤ v) && decide (v ≤ 7))) [none] := by
  unfold F_is_copy b_is_copy
  simp only [e_run, List.length_cons, List.length_nil, if_true, List.map_cons, List.map_nil, List.cons_append, List.nil_append, List.replicate_succ, List.replicate_zero, Nat.reduceSub, Nat.reduceAdd]
  simp only [dSs, dS, den, denV, denR, denC, denO, denG, denJ, denOw, Den.val, BOp.F, COp.F, Bi.F, Me.F, TgA.tgt, bind_ok, bind_exc, bind_bad, opR_some, getR_some, varR_some, e_ixV, ixVR_some, truR_some, boolR_bool, andR_some, orR_some, itR_some, itemsOf, partR_int, e_var, e_varB, e_lit, e_op, e_op2, e_cons, e_nil, e_frz, e_tru, e_bool, e_seq, e_asg, e_expr, e_ret, e_retN, e_and, e_or, e_not, e_andT, e_orT, e_notT, e_if, e_un, e_m1, e_noPart, e_part, e_sl, e_only0, e_chain, chR_bool, e_str, e_jnil, e_jcons, strR_str, e_comp, e_in, e_rng1, e_enum, enR_list, e_next, e_brk, e_cont, e_ifS, e_for, e_par, e_ocons, e_asgT, e_app, e_setL, e_rais, e_cnil, e_cval, e_cown, e_callV, e_callO, callR_some, fresR_ok, fresR_exc, seqR_next, seqR_ret, seqR_exc, seqR_brk, seqR_cont, fin_ret, fin_next, fin_exc, List.getElem?_cons_zero, List.getElem?_cons_succ, List.set_cons_zero, List.set_cons_succ, List.map_cons, List.map_nil, List.nil_append, List.cons_append, List.all_cons, List.all_nil, List.contains_nil, Bool.or_self, Bool.and_self, Bool.or_false, Bool.false_or, Bool.or_true, Bool.true_or, Bool.and_true, Bool.true_and, Bool.and_false, Bool.false_and, Bool.not_true, Bool.not_false, or_true, true_or, and_true, true_and, if_true, if_false, ite_true, ite_false, Bool.false_eq_true, reduceCtorEq, isV, isS, get_nil, get_val, owns_n, owns_v, owns_o, Option.map_some, decide_true, decide_false, tru_bool, tru_list, tru_tup, ix_l, ix_t, int_i, abs_i, add_ii, len_l, len_t, lst_neg, tup_t, List.length_cons, List.length_nil, Nat.zero_add, Nat.reduceAdd, eq_self, setAll_c, setAll_n, setEnts_c, setEnts_n, asgTR_tup, Nat.zero_le, Nat.le_refl, all_of, any_of, wipe_nil, wipe_cons, back_nil, back_cons, backO_some, keep0_none, keep0_val, mul_ii, e_compX, compEnd_ok, compEnd_exc, e_zip, zipK_l, zipK_t, e_rng2, isi_bool, isi_str, isi_tup, isi_int, PyData.isStr, PyData.isTuple, PyData.isInt, PyData.isBool, PyData.plain, eq_ii, ne_ii, lt_ii, le_ii, gt_ii, ge_ii, eq_ss, ne_ss, le_ss, gf_1_0, gg_0, sub_ii, isint_b]
  rfl
def isD (p : Int × Int) : Bool := (decide (0 ≤ p.1) && decide (p.1 ≤ 7)) && decide (1 ≤ p.2)
theorem dot_F (p : Int × Int) : F_is_dot [(0, pdI p)] = .ok (0, .bool (isD p)) [none] := by
  have h := pdI_plain p
  unfold F_is_dot b_is_dot
  simp only [e_run, List.length_cons, List.length_nil, if_true, List.map_cons, List.map_nil, List.cons_append, List.nil_append, List.replicate_succ, List.replicate_zero, Nat.reduceSub, Nat.reduceAdd]
  simp only [dSs, dS, den, denV, denR, denC, denO, denG, denJ, denOw, Den.val, BOp.F, COp.F, Bi.F, Me.F, TgA.tgt, bind_ok, bind_exc, bind_bad, opR_some, getR_some, varR_some, e_ixV, ixVR_some, truR_some, boolR_bool, andR_some, orR_some, itR_some, itemsOf, partR_int, e_var, e_varB, e_lit, e_op, e_op2, e_cons, e_nil, e_frz, e_tru, e_bool, e_seq, e_asg, e_expr, e_ret, e_retN, e_and, e_or, e_not, e_andT, e_orT, e_notT, e_if, e_un, e_m1, e_noPart, e_part, e_sl, e_only0, e_chain, chR_bool, e_str, e_jnil, e_jcons, strR_str, e_comp, e_in, e_rng1, e_enum, enR_list, e_next, e_brk, e_cont, e_ifS, e_for, e_par, e_ocons, e_asgT, e_app, e_setL, e_rais, e_cnil, e_cval, e_cown, e_callV, e_callO, callR_some, fresR_ok, fresR_exc, seqR_next, seqR_ret, seqR_exc, seqR_brk, seqR_cont, fin_ret, fin_next, fin_exc, List.getElem?_cons_zero, List.getElem?_cons_succ, List.set_cons_zero, List.set_cons_succ, List.map_cons, List.map_nil, List.nil_append, List.cons_append, List.all_cons, List.all_nil, List.contains_nil, Bool.or_self, Bool.and_self, Bool.or_false, Bool.false_or, Bool.or_true, Bool.true_or, Bool.and_true, Bool.true_and, Bool.and_false, Bool.false_and, Bool.not_true, Bool.not_false, or_true, true_or, and_true, true_and, if_true, if_false, ite_true, ite_false, Bool.false_eq_true, reduceCtorEq, isV, isS, get_nil, get_val, owns_n, owns_v, owns_o, Option.map_some, decide_true, decide_false, tru_bool, tru_list, tru_tup, ix_l, ix_t, int_i, abs_i, add_ii, len_l, len_t, lst_neg, tup_t, List.length_cons, List.length_nil, Nat.zero_add, Nat.reduceAdd, eq_self, setAll_c, setAll_n, setEnts_c, setEnts_n, asgTR_tup, Nat.zero_le, Nat.le_refl, all_of, any_of, wipe_nil, wipe_cons, back_nil, back_cons, backO_some, keep0_none, keep0_val, mul_ii, e_compX, compEnd_ok, compEnd_exc, e_zip, zipK_l, zipK_t, e_rng2, isi_bool, isi_str, isi_tup, isi_int, PyData.isStr, PyData.isTuple, PyData.isInt, PyData.isBool, PyData.plain, eq_ii, ne_ii, lt_ii, le_ii, gt_ii, ge_ii, eq_ss, ne_ss, le_ss, gf_2_0, gf_2_1, h, pdI_len, pdI_0, pdI_1, copy_F, isint_l]
  unfold isD
  cases (decide (0 ≤ p.1) && decide (p.1 ≤ 7)) <;> rfl
end K55
end

section
set_option Elab.async false
set_option linter.all false
set_option maxRecDepth 100000
set_option maxHeartbeats 4000000
namespace K55
open PySem PySem.Spec PyProof.Rows L2 Mb TL
theorem cut_tail (ds : List PyData) : Mb.cutD ds (some 1) none = ds.tail := by
  unfold Mb.cutD HT.sIx
  cases ds with
  | nil => rfl
  | cons d ds => simp
def asc (v : List (Int × Int)) : Bool := (v.zip v.tail).all fun q => decide (q.1.1 < q.2.1)
theorem vec_F (v : List (Int × Int)) (hl : v.length ≤ 1000) : F_is_vector [(0, .tuple (v.map pdI))] = .ok (0, .bool (v.all isD && asc v)) [none] := by
  have hp := plain_map pdI_plain v
  have lim : 1000 ≤ LIM := by decide
  have ez : ((v.map pdI).zip (v.map pdI).tail).map (fun q => PyData.tuple [q.1, q.2]) = (v.zip v.tail).map fun q => .tuple [pdI q.1, pdI q.2] := by
    rw [← List.map_tail, List.zip_map, List.map_map]
    rfl
  unfold F_is_vector b_is_vector
  simp only [e_run, List.length_cons, List.length_nil, if_true, List.map_cons, List.map_nil, List.cons_append, List.nil_append, List.replicate_succ, List.replicate_zero, Nat.reduceSub, Nat.reduceAdd]
  simp only [dSs, dS, den, denV, denR, denC, denO, denG, denJ, denOw, Den.val, BOp.F, COp.F, Bi.F, Me.F, TgA.tgt, bind_ok, bind_exc, bind_bad, opR_some, getR_some, varR_some, e_ixV, ixVR_some, truR_some, boolR_bool, andR_some, orR_some, itR_some, itemsOf, partR_int, e_var, e_varB, e_lit, e_op, e_op2, e_cons, e_nil, e_frz, e_tru, e_bool, e_seq, e_asg, e_expr, e_ret, e_retN, e_and, e_or, e_not, e_andT, e_orT, e_notT, e_if, e_un, e_m1, e_noPart, e_part, e_sl, e_only0, e_chain, chR_bool, e_str, e_jnil, e_jcons, strR_str, e_comp, e_in, e_rng1, e_enum, enR_list, e_next, e_brk, e_cont, e_ifS, e_for, e_par, e_ocons, e_asgT, e_app, e_setL, e_rais, e_cnil, e_cval, e_cown, e_callV, e_callO, callR_some, fresR_ok, fresR_exc, seqR_next, seqR_ret, seqR_exc, seqR_brk, seqR_cont, fin_ret, fin_next, fin_exc, List.getElem?_cons_zero, List.getElem?_cons_succ, List.set_cons_zero, List.set_cons_succ, List.map_cons, List.map_nil, List.nil_append, List.cons_append, List.all_cons, List.all_nil, List.contains_nil, Bool.or_self, Bool.and_self, Bool.or_false, Bool.false_or, Bool.or_true, Bool.true_or, Bool.and_true, Bool.true_and, Bool.and_false, Bool.false_and, Bool.not_true, Bool.not_false, or_true, true_or, and_true, true_and, if_true, if_false, ite_true, ite_false, Bool.false_eq_true, reduceCtorEq, isV, isS, get_nil, get_val, owns_n, owns_v, owns_o, Option.map_some, decide_true, decide_false, tru_bool, tru_list, tru_tup, ix_l, ix_t, int_i, abs_i, add_ii, len_l, len_t, lst_neg, tup_t, List.length_cons, List.length_nil, Nat.zero_add, Nat.reduceAdd, eq_self, setAll_c, setAll_n, setEnts_c, setEnts_n, asgTR_tup, Nat.zero_le, Nat.le_refl, all_of, any_of, wipe_nil, wipe_cons, back_nil, back_cons, backO_some, keep0_none, keep0_val, mul_ii, e_compX, compEnd_ok, compEnd_exc, e_zip, zipK_l, zipK_t, e_rng2, isi_bool, isi_str, isi_tup, isi_int, PyData.isStr, PyData.isTuple, PyData.isInt, PyData.isBool, PyData.plain, eq_ii, ne_ii, lt_ii, le_ii, gt_ii, ge_ii, eq_ss, ne_ss, le_ss, gf_3_2, hp, sl_t, cut_tail, ez]
  rw [comp_all pdI (fun p => .bool (isD p)) v (by omega)]
  · simp only [dSs, dS, den, denV, denR, denC, denO, denG, denJ, denOw, Den.val, BOp.F, COp.F, Bi.F, Me.F, TgA.tgt, bind_ok, bind_exc, bind_bad, opR_some, getR_some, varR_some, e_ixV, ixVR_some, truR_some, boolR_bool, andR_some, orR_some, itR_some, itemsOf, partR_int, e_var, e_varB, e_lit, e_op, e_op2, e_cons, e_nil, e_frz, e_tru, e_bool, e_seq, e_asg, e_expr, e_ret, e_retN, e_and, e_or, e_not, e_andT, e_orT, e_notT, e_if, e_un, e_m1, e_noPart, e_part, e_sl, e_only0, e_chain, chR_bool, e_str, e_jnil, e_jcons, strR_str, e_comp, e_in, e_rng1, e_enum, enR_list, e_next, e_brk, e_cont, e_ifS, e_for, e_par, e_ocons, e_asgT, e_app, e_setL, e_rais, e_cnil, e_cval, e_cown, e_callV, e_callO, callR_some, fresR_ok, fresR_exc, seqR_next, seqR_ret, seqR_exc, seqR_brk, seqR_cont, fin_ret, fin_next, fin_exc, List.getElem?_cons_zero, List.getElem?_cons_succ, List.set_cons_zero, List.set_cons_succ, List.map_cons, List.map_nil, List.nil_append, List.cons_append, List.all_cons, List.all_nil, List.contains_nil, Bool.or_self, Bool.and_self, Bool.or_false, Bool.false_or, Bool.or_true, Bool.true_or, Bool.and_true, Bool.true_and, Bool.and_false, Bool.false_and, Bool.not_true, Bool.not_false, or_true, true_or, and_true, true_and, if_true, if_false, ite_true, ite_false, Bool.false_eq_true, reduceCtorEq, isV, isS, get_nil, get_val, owns_n, owns_v, owns_o, Option.map_some, decide_true, decide_false, tru_bool, tru_list, tru_tup, ix_l, ix_t, int_i, abs_i, add_ii, len_l, len_t, lst_neg, tup_t, List.length_cons, List.length_nil, Nat.zero_add, Nat.reduceAdd, eq_self, setAll_c, setAll_n, setEnts_c, setEnts_n, asgTR_tup, Nat.zero_le, Nat.le_refl, all_of, any_of, wipe_nil, wipe_cons, back_nil, back_cons, backO_some, keep0_none, keep0_val, mul_ii, e_compX, compEnd_ok, compEnd_exc, e_zip, zipK_l, zipK_t, e_rng2, isi_bool, isi_str, isi_tup, isi_int, PyData.isStr, PyData.isTuple, PyData.isInt, PyData.isBool, PyData.plain, eq_ii, ne_ii, lt_ii, le_ii, gt_ii, ge_ii, eq_ss, ne_ss, le_ss]
    cases v.all isD with
    | false => rfl
    | true =>
      simp only [dSs, dS, den, denV, denR, denC, denO, denG, denJ, denOw, Den.val, BOp.F, COp.F, Bi.F, Me.F, TgA.tgt, bind_ok, bind_exc, bind_bad, opR_some, getR_some, varR_some, e_ixV, ixVR_some, truR_some, boolR_bool, andR_some, orR_some, itR_some, itemsOf, partR_int, e_var, e_varB, e_lit, e_op, e_op2, e_cons, e_nil, e_frz, e_tru, e_bool, e_seq, e_asg, e_expr, e_ret, e_retN, e_and, e_or, e_not, e_andT, e_orT, e_notT, e_if, e_un, e_m1, e_noPart, e_part, e_sl, e_only0, e_chain, chR_bool, e_str, e_jnil, e_jcons, strR_str, e_comp, e_in, e_rng1, e_enum, enR_list, e_next, e_brk, e_cont, e_ifS, e_for, e_par, e_ocons, e_asgT, e_app, e_setL, e_rais, e_cnil, e_cval, e_cown, e_callV, e_callO, callR_some, fresR_ok, fresR_exc, seqR_next, seqR_ret, seqR_exc, seqR_brk, seqR_cont, fin_ret, fin_next, fin_exc, List.getElem?_cons_zero, List.getElem?_cons_succ, List.set_cons_zero, List.set_cons_succ, List.map_cons, List.map_nil, List.nil_append, List.cons_append, List.all_cons, List.all_nil, List.contains_nil, Bool.or_self, Bool.and_self, Bool.or_false, Bool.false_or, Bool.or_true, Bool.true_or, Bool.and_true, Bool.true_and, Bool.and_false, Bool.false_and, Bool.not_true, Bool.not_false, or_true, true_or, and_true, true_and, if_true, if_false, ite_true, ite_false, Bool.false_eq_true, reduceCtorEq, isV, isS, get_nil, get_val, owns_n, owns_v, owns_o, Option.map_some, decide_true, decide_false, tru_bool, tru_list, tru_tup, ix_l, ix_t, int_i, abs_i, add_ii, len_l, len_t, lst_neg, tup_t, List.length_cons, List.length_nil, Nat.zero_add, Nat.reduceAdd, eq_self, setAll_c, setAll_n, setEnts_c, setEnts_n, asgTR_tup, Nat.zero_le, Nat.le_refl, all_of, any_of, wipe_nil, wipe_cons, back_nil, back_cons, backO_some, keep0_none, keep0_val, mul_ii, e_compX, compEnd_ok, compEnd_exc, e_zip, zipK_l, zipK_t, e_rng2, isi_bool, isi_str, isi_tup, isi_int, PyData.isStr, PyData.isTuple, PyData.isInt, PyData.isBool, PyData.plain, eq_ii, ne_ii, lt_ii, le_ii, gt_ii, ge_ii, eq_ss, ne_ss, le_ss, sl_t, cut_tail, ez]
      rw [comp_all (fun q : (Int × Int) × (Int × Int) => .tuple [pdI q.1, pdI q.2]) (fun q => .bool (decide (q.1.1 < q.2.1))) (v.zip v.tail) (by rw [List.length_zip]; omega)]
      · simp only [dSs, dS, den, denV, denR, denC, denO, denG, denJ, denOw, Den.val, BOp.F, COp.F, Bi.F, Me.F, TgA.tgt, bind_ok, bind_exc, bind_bad, opR_some, getR_some, varR_some, e_ixV, ixVR_some, truR_some, boolR_bool, andR_some, orR_some, itR_some, itemsOf, partR_int, e_var, e_varB, e_lit, e_op, e_op2, e_cons, e_nil, e_frz, e_tru, e_bool, e_seq, e_asg, e_expr, e_ret, e_retN, e_and, e_or, e_not, e_andT, e_orT, e_notT, e_if, e_un, e_m1, e_noPart, e_part, e_sl, e_only0, e_chain, chR_bool, e_str, e_jnil, e_jcons, strR_str, e_comp, e_in, e_rng1, e_enum, enR_list, e_next, e_brk, e_cont, e_ifS, e_for, e_par, e_ocons, e_asgT, e_app, e_setL, e_rais, e_cnil, e_cval, e_cown, e_callV, e_callO, callR_some, fresR_ok, fresR_exc, seqR_next, seqR_ret, seqR_exc, seqR_brk, seqR_cont, fin_ret, fin_next, fin_exc, List.getElem?_cons_zero, List.getElem?_cons_succ, List.set_cons_zero, List.set_cons_succ, List.map_cons, List.map_nil, List.nil_append, List.cons_append, List.all_cons, List.all_nil, List.contains_nil, Bool.or_self, Bool.and_self, Bool.or_false, Bool.false_or, Bool.or_true, Bool.true_or, Bool.and_true, Bool.true_and, Bool.and_false, Bool.false_and, Bool.not_true, Bool.not_false, or_true, true_or, and_true, true_and, if_true, if_false, ite_true, ite_false, Bool.false_eq_true, reduceCtorEq, isV, isS, get_nil, get_val, owns_n, owns_v, owns_o, Option.map_some, decide_true, decide_false, tru_bool, tru_list, tru_tup, ix_l, ix_t, int_i, abs_i, add_ii, len_l, len_t, lst_neg, tup_t, List.length_cons, List.length_nil, Nat.zero_add, Nat.reduceAdd, eq_self, setAll_c, setAll_n, setEnts_c, setEnts_n, asgTR_tup, Nat.zero_le, Nat.le_refl, all_of, any_of, wipe_nil, wipe_cons, back_nil, back_cons, backO_some, keep0_none, keep0_val, mul_ii, e_compX, compEnd_ok, compEnd_exc, e_zip, zipK_l, zipK_t, e_rng2, isi_bool, isi_str, isi_tup, isi_int, PyData.isStr, PyData.isTuple, PyData.isInt, PyData.isBool, PyData.plain, eq_ii, ne_ii, lt_ii, le_ii, gt_ii, ge_ii, eq_ss, ne_ss, le_ss]
        rfl
      · intro q hq
        refine ⟨_, rfl, ⟨0, ?_⟩, rfl⟩
        simp only [dSs, dS, den, denV, denR, denC, denO, denG, denJ, denOw, Den.val, BOp.F, COp.F, Bi.F, Me.F, TgA.tgt, bind_ok, bind_exc, bind_bad, opR_some, getR_some, varR_some, e_ixV, ixVR_some, truR_some, boolR_bool, andR_some, orR_some, itR_some, itemsOf, partR_int, e_var, e_varB, e_lit, e_op, e_op2, e_cons, e_nil, e_frz, e_tru, e_bool, e_seq, e_asg, e_expr, e_ret, e_retN, e_and, e_or, e_not, e_andT, e_orT, e_notT, e_if, e_un, e_m1, e_noPart, e_part, e_sl, e_only0, e_chain, chR_bool, e_str, e_jnil, e_jcons, strR_str, e_comp, e_in, e_rng1, e_enum, enR_list, e_next, e_brk, e_cont, e_ifS, e_for, e_par, e_ocons, e_asgT, e_app, e_setL, e_rais, e_cnil, e_cval, e_cown, e_callV, e_callO, callR_some, fresR_ok, fresR_exc, seqR_next, seqR_ret, seqR_exc, seqR_brk, seqR_cont, fin_ret, fin_next, fin_exc, List.getElem?_cons_zero, List.getElem?_cons_succ, List.set_cons_zero, List.set_cons_succ, List.map_cons, List.map_nil, List.nil_append, List.cons_append, List.all_cons, List.all_nil, List.contains_nil, Bool.or_self, Bool.and_self, Bool.or_false, Bool.false_or, Bool.or_true, Bool.true_or, Bool.and_true, Bool.true_and, Bool.and_false, Bool.false_and, Bool.not_true, Bool.not_false, or_true, true_or, and_true, true_and, if_true, if_false, ite_true, ite_false, Bool.false_eq_true, reduceCtorEq, isV, isS, get_nil, get_val, owns_n, owns_v, owns_o, Option.map_some, decide_true, decide_false, tru_bool, tru_list, tru_tup, ix_l, ix_t, int_i, abs_i, add_ii, len_l, len_t, lst_neg, tup_t, List.length_cons, List.length_nil, Nat.zero_add, Nat.reduceAdd, eq_self, setAll_c, setAll_n, setEnts_c, setEnts_n, asgTR_tup, Nat.zero_le, Nat.le_refl, all_of, any_of, wipe_nil, wipe_cons, back_nil, back_cons, backO_some, keep0_none, keep0_val, mul_ii, e_compX, compEnd_ok, compEnd_exc, e_zip, zipK_l, zipK_t, e_rng2, isi_bool, isi_str, isi_tup, isi_int, PyData.isStr, PyData.isTuple, PyData.isInt, PyData.isBool, PyData.plain, eq_ii, ne_ii, lt_ii, le_ii, gt_ii, ge_ii, eq_ss, ne_ss, le_ss, pdI_0]
        all_goals rfl
  · intro p hp
    refine ⟨_, rfl, ⟨0, ?_⟩, rfl⟩
    simp only [dSs, dS, den, denV, denR, denC, denO, denG, denJ, denOw, Den.val, BOp.F, COp.F, Bi.F, Me.F, TgA.tgt, bind_ok, bind_exc, bind_bad, opR_some, getR_some, varR_some, e_ixV, ixVR_some, truR_some, boolR_bool, andR_some, orR_some, itR_some, itemsOf, partR_int, e_var, e_varB, e_lit, e_op, e_op2, e_cons, e_nil, e_frz, e_tru, e_bool, e_seq, e_asg, e_expr, e_ret, e_retN, e_and, e_or, e_not, e_andT, e_orT, e_notT, e_if, e_un, e_m1, e_noPart, e_part, e_sl, e_only0, e_chain, chR_bool, e_str, e_jnil, e_jcons, strR_str, e_comp, e_in, e_rng1, e_enum, enR_list, e_next, e_brk, e_cont, e_ifS, e_for, e_par, e_ocons, e_asgT, e_app, e_setL, e_rais, e_cnil, e_cval, e_cown, e_callV, e_callO, callR_some, fresR_ok, fresR_exc, seqR_next, seqR_ret, seqR_exc, seqR_brk, seqR_cont, fin_ret, fin_next, fin_exc, List.getElem?_cons_zero, List.getElem?_cons_succ, List.set_cons_zero, List.set_cons_succ, List.map_cons, List.map_nil, List.nil_append, List.cons_append, List.all_cons, List.all_nil, List.contains_nil, Bool.or_self, Bool.and_self, Bool.or_false, Bool.false_or, Bool.or_true, Bool.true_or, Bool.and_true, Bool.true_and, Bool.and_false, Bool.false_and, Bool.not_true, Bool.not_false, or_true, true_or, and_true, true_and, if_true, if_false, ite_true, ite_false, Bool.false_eq_true, reduceCtorEq, isV, isS, get_nil, get_val, owns_n, owns_v, owns_o, Option.map_some, decide_true, decide_false, tru_bool, tru_list, tru_tup, ix_l, ix_t, int_i, abs_i, add_ii, len_l, len_t, lst_neg, tup_t, List.length_cons, List.length_nil, Nat.zero_add, Nat.reduceAdd, eq_self, setAll_c, setAll_n, setEnts_c, setEnts_n, asgTR_tup, Nat.zero_le, Nat.le_refl, all_of, any_of, wipe_nil, wipe_cons, back_nil, back_cons, backO_some, keep0_none, keep0_val, mul_ii, e_compX, compEnd_ok, compEnd_exc, e_zip, zipK_l, zipK_t, e_rng2, isi_bool, isi_str, isi_tup, isi_int, PyData.isStr, PyData.isTuple, PyData.isInt, PyData.isBool, PyData.plain, eq_ii, ne_ii, lt_ii, le_ii, gt_ii, ge_ii, eq_ss, ne_ss, le_ss, gf_3_2, dot_F]
end K55
end

section
set_option Elab.async false
set_option linter.all false
set_option maxRecDepth 100000
set_option maxHeartbeats 4000000
namespace K55
open PySem PySem.Spec PyProof.Rows L2 Mb TL
def BF : Exn := ⟨"BadForm", [("line", .int 0)]⟩
theorem mk0 (n : Nat) : x_BadForm [(n, .int 0)] = some BF := by
  unfold x_BadForm
  rfl
theorem raisR_some (F : List Ent → Option Exn) (as : List Ent) (x : Exn) (ε : Ev) (h : F as = some x) : raisR F as ε = .exc x ε := by
  unfold raisR
  rw [h]
def dig (c : Nat) : Bool := decide (c ∈ ("0123456789" : Str).cps.toList)
theorem dig_iff (c : Nat) : dig c = true ↔ 48 ≤ c ∧ c ≤ 57 := by
  unfold dig
  have e : ("0123456789" : Str).cps.toList = [48, 49, 50, 51, 52, 53, 54, 55, 56, 57] := rfl
  rw [e, decide_eq_true_eq]
  simp only [List.mem_cons, List.not_mem_nil, or_false]
  omega
theorem tl_take (t : Str) : tl (cutS t none (some 1)) = (tl t).take 1 := by
  have e := len_tl t
  show (((tl t).drop 0).take _) = _
  rw [List.drop_zero]
  unfold HT.sIx
  cases h : tl t with
  | nil => simp
  | cons c r =>
    rw [h, List.length_cons] at e
    have e1 : min 1 t.length = 1 := by omega
    simp [e1]
theorem tl_drop (t : Str) : tl (cutS t (some 1) none) = (tl t).drop 1 := by
  have e := len_tl t
  show (((tl t).drop _).take _) = _
  unfold HT.sIx
  cases h : tl t with
  | nil => simp
  | cons c r =>
    rw [h, List.length_cons] at e
    have e1 : min 1 t.length = 1 := by omega
    simp [e1, e]
def signsOf (t : Str) : Str := if cutS t none (some 1) = "-" then cutS t (some 1) none else t
theorem signs_cases (t : Str) : (cutS t none (some 1) = "-" ∧ tl t = 45 :: tl (signsOf t)) ∨ (¬ cutS t none (some 1) = "-" ∧ signsOf t = t) := by
  unfold signsOf
  by_cases h : cutS t none (some 1) = "-"
  · refine .inl ⟨h, ?_⟩
    rw [if_pos h, tl_drop]
    have e := congrArg tl h
    rw [tl_take] at e
    have e2 : tl ("-" : Str) = [45] := rfl
    rw [e2] at e
    cases q : tl t with
    | nil => rw [q] at e; cases e
    | cons c r =>
      rw [q] at e
      simp at e
      rw [e]
      rfl
  · exact .inr ⟨h, if_neg h⟩
theorem dv_lt : ∀ (cs : List Nat) (a : Nat), NumText.AllDigits cs → cs.foldl (fun acc c => acc * 10 + (c - 48)) a < (a + 1) * 10 ^ cs.length
  | [], a, _ => by simp
  | c :: cs, a, h => by
    have hc := h.head
    have ih := dv_lt cs (a * 10 + (c - 48)) h.tail
    rw [List.foldl_cons, List.length_cons, Nat.pow_succ]
    refine Nat.lt_of_lt_of_le ih ?_
    have : a * 10 + (c - 48) + 1 ≤ (a + 1) * 10 := by omega
    calc (a * 10 + (c - 48) + 1) * 10 ^ cs.length ≤ ((a + 1) * 10) * 10 ^ cs.length := Nat.mul_le_mul_right _ this
      _ = (a + 1) * (10 ^ cs.length * 10) := by rw [Nat.mul_assoc, Nat.mul_comm 10]
theorem log_lt {n : Nat} (h : n < 10 ^ 500) : n.log2 < 1920 := by
  by_cases z : n = 0
  · subst z; decide
  · refine (Nat.log2_lt z).mpr (Nat.lt_of_lt_of_le h ?_)
    decide +kernel
theorem num_some (t : Str) (h1 : tl (signsOf t) ≠ []) (h2 : ∀ c ∈ tl (signsOf t), dig c = true) (hl : t.length ≤ 500) : ∃ n, intText? t = some n ∧ n.natAbs.log2 < 1920 := by
  have ad : NumText.AllDigits (tl (signsOf t)) := fun c hc => (dig_iff c).mp (h2 c hc)
  have lt : t.length = (tl t).length := len_tl t
  have b := dv_lt (tl (signsOf t)) 0 ad
  rw [Nat.zero_add, Nat.one_mul] at b
  have big : ∀ k, k ≤ 500 → 10 ^ k ≤ 10 ^ 500 := fun k hk => Nat.pow_le_pow_right (by decide) hk
  rcases signs_cases t with ⟨_, e⟩ | ⟨_, e⟩
  · refine ⟨_, intText_neg (x := t) e ad h1 (by omega), ?_⟩
    rw [Int.natAbs_neg, Int.natAbs_natCast]
    rw [e, List.length_cons] at lt
    exact log_lt (Nat.lt_of_lt_of_le b (big _ (by omega)))
  · rw [e] at ad h1 b
    refine ⟨_, intText_digits (x := t) ad h1 (by omega), ?_⟩
    rw [Int.natAbs_natCast]
    exact log_lt (Nat.lt_of_lt_of_le b (big _ (by omega)))
def okInt (t : Str) : Bool := !decide (signsOf t = "") && ((tl (signsOf t)).all dig && match intText? t with | some n => decide (Str.ofString (toString n) = t) | none => false)
def intOf (t : Str) : Option Int := if okInt t = true then intText? t else none
def tkF (X : Exn) : Option Int → FRes
  | some n => .ok (0, .int n) [none]
  | none => .exc X
end K55
end

section
set_option Elab.async false
set_option linter.all false
set_option maxRecDepth 100000
set_option maxHeartbeats 4000000
namespace K55
open PySem PySem.Spec PyProof.Rows L2 Mb TL
theorem any_not (l : List Nat) : (l.any fun c => !dig c) = !l.all dig := by
  induction l with
  | nil => rfl
  | cons a l ih => simp [List.any_cons, List.all_cons, ih]
theorem signs_len (t : Str) : (signsOf t).length ≤ t.length := by
  rcases signs_cases t with ⟨_, e⟩ | ⟨_, e⟩
  · have h1 := len_tl t
    have h2 := len_tl (signsOf t)
    rw [e, List.length_cons] at h1
    omega
  · rw [e]; exact Nat.le_refl _
theorem signs_ne {t : Str} (h : ¬ signsOf t = "") : tl (signsOf t) ≠ [] := fun e => h (ext_tl e)
theorem int_F (t : Str) (hl : t.length ≤ 500) : F_integer_in [(0, .str t)] = tkF BF (intOf t) := by
  have lim : 500 ≤ LIM := by decide
  have tl1 : t.length ≤ LIM := by omega
  have sl := signs_len t
  have l640 : t.length ≤ 640 := by omega
  have st : ∀ x, dS (G fl4) [] (.asg 1 (.ite (.cmp .eq (.sl (.var 0) .no (.so (.int 1))) (.str "-")) (.sl (.var 0) (.so (.int 1)) .no) (.var 0))) [some (0, .str t), none, x] = .ok (.next, [some (0, .str t), some (0, .str (signsOf t)), x]) := by
    intro x
    rcases signs_cases t with ⟨c, _⟩ | ⟨c, e⟩
    · have d : decide (cutS t none (some 1) = ("-" : Str)) = true := decide_eq_true c
      have s1 : cutS t (some 1) none = signsOf t := by unfold signsOf; rw [if_pos c]
      simp only [dSs, dS, den, denV, denR, denC, denO, denG, denJ, denOw, Den.val, BOp.F, COp.F, Bi.F, Me.F, TgA.tgt, bind_ok, bind_exc, bind_bad, opR_some, getR_some, varR_some, e_ixV, ixVR_some, truR_some, boolR_bool, andR_some, orR_some, itR_some, itemsOf, partR_int, e_var, e_varB, e_lit, e_op, e_op2, e_cons, e_nil, e_frz, e_tru, e_bool, e_seq, e_asg, e_expr, e_ret, e_retN, e_and, e_or, e_not, e_andT, e_orT, e_notT, e_if, e_un, e_m1, e_noPart, e_part, e_sl, e_only0, e_chain, chR_bool, e_str, e_jnil, e_jcons, strR_str, e_comp, e_in, e_rng1, e_enum, enR_list, e_next, e_brk, e_cont, e_ifS, e_for, e_par, e_ocons, e_asgT, e_app, e_setL, e_rais, e_cnil, e_cval, e_cown, e_callV, e_callO, callR_some, fresR_ok, fresR_exc, seqR_next, seqR_ret, seqR_exc, seqR_brk, seqR_cont, fin_ret, fin_next, fin_exc, List.getElem?_cons_zero, List.getElem?_cons_succ, List.set_cons_zero, List.set_cons_succ, List.map_cons, List.map_nil, List.nil_append, List.cons_append, List.all_cons, List.all_nil, List.contains_nil, Bool.or_self, Bool.and_self, Bool.or_false, Bool.false_or, Bool.or_true, Bool.true_or, Bool.and_true, Bool.true_and, Bool.and_false, Bool.false_and, Bool.not_true, Bool.not_false, or_true, true_or, and_true, true_and, if_true, if_false, ite_true, ite_false, Bool.false_eq_true, reduceCtorEq, isV, isS, get_nil, get_val, owns_n, owns_v, owns_o, Option.map_some, decide_true, decide_false, tru_bool, tru_list, tru_tup, ix_l, ix_t, int_i, abs_i, add_ii, len_l, len_t, lst_neg, tup_t, List.length_cons, List.length_nil, Nat.zero_add, Nat.reduceAdd, eq_self, setAll_c, setAll_n, setEnts_c, setEnts_n, asgTR_tup, Nat.zero_le, Nat.le_refl, all_of, any_of, wipe_nil, wipe_cons, back_nil, back_cons, backO_some, keep0_none, keep0_val, mul_ii, e_compX, compEnd_ok, compEnd_exc, e_zip, zipK_l, zipK_t, e_rng2, isi_bool, isi_str, isi_tup, isi_int, PyData.isStr, PyData.isTuple, PyData.isInt, PyData.isBool, PyData.plain, eq_ii, ne_ii, lt_ii, le_ii, gt_ii, ge_ii, eq_ss, ne_ss, le_ss, sl_s, tl1, d, s1]
    · have d : decide (cutS t none (some 1) = ("-" : Str)) = false := decide_eq_false c
      simp only [dSs, dS, den, denV, denR, denC, denO, denG, denJ, denOw, Den.val, BOp.F, COp.F, Bi.F, Me.F, TgA.tgt, bind_ok, bind_exc, bind_bad, opR_some, getR_some, varR_some, e_ixV, ixVR_some, truR_some, boolR_bool, andR_some, orR_some, itR_some, itemsOf, partR_int, e_var, e_varB, e_lit, e_op, e_op2, e_cons, e_nil, e_frz, e_tru, e_bool, e_seq, e_asg, e_expr, e_ret, e_retN, e_and, e_or, e_not, e_andT, e_orT, e_notT, e_if, e_un, e_m1, e_noPart, e_part, e_sl, e_only0, e_chain, chR_bool, e_str, e_jnil, e_jcons, strR_str, e_comp, e_in, e_rng1, e_enum, enR_list, e_next, e_brk, e_cont, e_ifS, e_for, e_par, e_ocons, e_asgT, e_app, e_setL, e_rais, e_cnil, e_cval, e_cown, e_callV, e_callO, callR_some, fresR_ok, fresR_exc, seqR_next, seqR_ret, seqR_exc, seqR_brk, seqR_cont, fin_ret, fin_next, fin_exc, List.getElem?_cons_zero, List.getElem?_cons_succ, List.set_cons_zero, List.set_cons_succ, List.map_cons, List.map_nil, List.nil_append, List.cons_append, List.all_cons, List.all_nil, List.contains_nil, Bool.or_self, Bool.and_self, Bool.or_false, Bool.false_or, Bool.or_true, Bool.true_or, Bool.and_true, Bool.true_and, Bool.and_false, Bool.false_and, Bool.not_true, Bool.not_false, or_true, true_or, and_true, true_and, if_true, if_false, ite_true, ite_false, Bool.false_eq_true, reduceCtorEq, isV, isS, get_nil, get_val, owns_n, owns_v, owns_o, Option.map_some, decide_true, decide_false, tru_bool, tru_list, tru_tup, ix_l, ix_t, int_i, abs_i, add_ii, len_l, len_t, lst_neg, tup_t, List.length_cons, List.length_nil, Nat.zero_add, Nat.reduceAdd, eq_self, setAll_c, setAll_n, setEnts_c, setEnts_n, asgTR_tup, Nat.zero_le, Nat.le_refl, all_of, any_of, wipe_nil, wipe_cons, back_nil, back_cons, backO_some, keep0_none, keep0_val, mul_ii, e_compX, compEnd_ok, compEnd_exc, e_zip, zipK_l, zipK_t, e_rng2, isi_bool, isi_str, isi_tup, isi_int, PyData.isStr, PyData.isTuple, PyData.isInt, PyData.isBool, PyData.plain, eq_ii, ne_ii, lt_ii, le_ii, gt_ii, ge_ii, eq_ss, ne_ss, le_ss, sl_s, tl1, d, e]
  unfold F_integer_in b_integer_in
  simp only [e_run, List.length_cons, List.length_nil, if_true, List.map_cons, List.map_nil, List.cons_append, List.nil_append, List.replicate_succ, List.replicate_zero, Nat.reduceSub, Nat.reduceAdd]
  simp only [dSs, e_seq]
  rw [st, seqR_next]
  unfold intOf okInt
  by_cases a1 : signsOf t = ""
  · have d1 : decide (signsOf t = ("" : Str)) = true := decide_eq_true a1
    simp only [dSs, dS, den, denV, denR, denC, denO, denG, denJ, denOw, Den.val, BOp.F, COp.F, Bi.F, Me.F, TgA.tgt, bind_ok, bind_exc, bind_bad, opR_some, getR_some, varR_some, e_ixV, ixVR_some, truR_some, boolR_bool, andR_some, orR_some, itR_some, itemsOf, partR_int, e_var, e_varB, e_lit, e_op, e_op2, e_cons, e_nil, e_frz, e_tru, e_bool, e_seq, e_asg, e_expr, e_ret, e_retN, e_and, e_or, e_not, e_andT, e_orT, e_notT, e_if, e_un, e_m1, e_noPart, e_part, e_sl, e_only0, e_chain, chR_bool, e_str, e_jnil, e_jcons, strR_str, e_comp, e_in, e_rng1, e_enum, enR_list, e_next, e_brk, e_cont, e_ifS, e_for, e_par, e_ocons, e_asgT, e_app, e_setL, e_rais, e_cnil, e_cval, e_cown, e_callV, e_callO, callR_some, fresR_ok, fresR_exc, seqR_next, seqR_ret, seqR_exc, seqR_brk, seqR_cont, fin_ret, fin_next, fin_exc, List.getElem?_cons_zero, List.getElem?_cons_succ, List.set_cons_zero, List.set_cons_succ, List.map_cons, List.map_nil, List.nil_append, List.cons_append, List.all_cons, List.all_nil, List.contains_nil, Bool.or_self, Bool.and_self, Bool.or_false, Bool.false_or, Bool.or_true, Bool.true_or, Bool.and_true, Bool.true_and, Bool.and_false, Bool.false_and, Bool.not_true, Bool.not_false, or_true, true_or, and_true, true_and, if_true, if_false, ite_true, ite_false, Bool.false_eq_true, reduceCtorEq, isV, isS, get_nil, get_val, owns_n, owns_v, owns_o, Option.map_some, decide_true, decide_false, tru_bool, tru_list, tru_tup, ix_l, ix_t, int_i, abs_i, add_ii, len_l, len_t, lst_neg, tup_t, List.length_cons, List.length_nil, Nat.zero_add, Nat.reduceAdd, eq_self, setAll_c, setAll_n, setEnts_c, setEnts_n, asgTR_tup, Nat.zero_le, Nat.le_refl, all_of, any_of, wipe_nil, wipe_cons, back_nil, back_cons, backO_some, keep0_none, keep0_val, mul_ii, e_compX, compEnd_ok, compEnd_exc, e_zip, zipK_l, zipK_t, e_rng2, isi_bool, isi_str, isi_tup, isi_int, PyData.isStr, PyData.isTuple, PyData.isInt, PyData.isBool, PyData.plain, eq_ii, ne_ii, lt_ii, le_ii, gt_ii, ge_ii, eq_ss, ne_ss, le_ss, gg_1, gx_0, d1]
    rw [raisR_some _ _ _ _ (mk0 0)]
    rfl
  · have d1 : decide (signsOf t = ("" : Str)) = false := decide_eq_false a1
    simp only [dSs, dS, den, denV, denR, denC, denO, denG, denJ, denOw, Den.val, BOp.F, COp.F, Bi.F, Me.F, TgA.tgt, bind_ok, bind_exc, bind_bad, opR_some, getR_some, varR_some, e_ixV, ixVR_some, truR_some, boolR_bool, andR_some, orR_some, itR_some, itemsOf, partR_int, e_var, e_varB, e_lit, e_op, e_op2, e_cons, e_nil, e_frz, e_tru, e_bool, e_seq, e_asg, e_expr, e_ret, e_retN, e_and, e_or, e_not, e_andT, e_orT, e_notT, e_if, e_un, e_m1, e_noPart, e_part, e_sl, e_only0, e_chain, chR_bool, e_str, e_jnil, e_jcons, strR_str, e_comp, e_in, e_rng1, e_enum, enR_list, e_next, e_brk, e_cont, e_ifS, e_for, e_par, e_ocons, e_asgT, e_app, e_setL, e_rais, e_cnil, e_cval, e_cown, e_callV, e_callO, callR_some, fresR_ok, fresR_exc, seqR_next, seqR_ret, seqR_exc, seqR_brk, seqR_cont, fin_ret, fin_next, fin_exc, List.getElem?_cons_zero, List.getElem?_cons_succ, List.set_cons_zero, List.set_cons_succ, List.map_cons, List.map_nil, List.nil_append, List.cons_append, List.all_cons, List.all_nil, List.contains_nil, Bool.or_self, Bool.and_self, Bool.or_false, Bool.false_or, Bool.or_true, Bool.true_or, Bool.and_true, Bool.true_and, Bool.and_false, Bool.false_and, Bool.not_true, Bool.not_false, or_true, true_or, and_true, true_and, if_true, if_false, ite_true, ite_false, Bool.false_eq_true, reduceCtorEq, isV, isS, get_nil, get_val, owns_n, owns_v, owns_o, Option.map_some, decide_true, decide_false, tru_bool, tru_list, tru_tup, ix_l, ix_t, int_i, abs_i, add_ii, len_l, len_t, lst_neg, tup_t, List.length_cons, List.length_nil, Nat.zero_add, Nat.reduceAdd, eq_self, setAll_c, setAll_n, setEnts_c, setEnts_n, asgTR_tup, Nat.zero_le, Nat.le_refl, all_of, any_of, wipe_nil, wipe_cons, back_nil, back_cons, backO_some, keep0_none, keep0_val, mul_ii, e_compX, compEnd_ok, compEnd_exc, e_zip, zipK_l, zipK_t, e_rng2, isi_bool, isi_str, isi_tup, isi_int, PyData.isStr, PyData.isTuple, PyData.isInt, PyData.isBool, PyData.plain, eq_ii, ne_ii, lt_ii, le_ii, gt_ii, ge_ii, eq_ss, ne_ss, le_ss, gg_1, gx_0, d1]
    rw [comp_all (fun c => .str ⟨#[c]⟩) (fun c => .bool (!dig c)) (signsOf t).cps.toList (by rw [Array.length_toList]; exact Nat.le_trans sl tl1)]
    · simp only [dSs, dS, den, denV, denR, denC, denO, denG, denJ, denOw, Den.val, BOp.F, COp.F, Bi.F, Me.F, TgA.tgt, bind_ok, bind_exc, bind_bad, opR_some, getR_some, varR_some, e_ixV, ixVR_some, truR_some, boolR_bool, andR_some, orR_some, itR_some, itemsOf, partR_int, e_var, e_varB, e_lit, e_op, e_op2, e_cons, e_nil, e_frz, e_tru, e_bool, e_seq, e_asg, e_expr, e_ret, e_retN, e_and, e_or, e_not, e_andT, e_orT, e_notT, e_if, e_un, e_m1, e_noPart, e_part, e_sl, e_only0, e_chain, chR_bool, e_str, e_jnil, e_jcons, strR_str, e_comp, e_in, e_rng1, e_enum, enR_list, e_next, e_brk, e_cont, e_ifS, e_for, e_par, e_ocons, e_asgT, e_app, e_setL, e_rais, e_cnil, e_cval, e_cown, e_callV, e_callO, callR_some, fresR_ok, fresR_exc, seqR_next, seqR_ret, seqR_exc, seqR_brk, seqR_cont, fin_ret, fin_next, fin_exc, List.getElem?_cons_zero, List.getElem?_cons_succ, List.set_cons_zero, List.set_cons_succ, List.map_cons, List.map_nil, List.nil_append, List.cons_append, List.all_cons, List.all_nil, List.contains_nil, Bool.or_self, Bool.and_self, Bool.or_false, Bool.false_or, Bool.or_true, Bool.true_or, Bool.and_true, Bool.true_and, Bool.and_false, Bool.false_and, Bool.not_true, Bool.not_false, or_true, true_or, and_true, true_and, if_true, if_false, ite_true, ite_false, Bool.false_eq_true, reduceCtorEq, isV, isS, get_nil, get_val, owns_n, owns_v, owns_o, Option.map_some, decide_true, decide_false, tru_bool, tru_list, tru_tup, ix_l, ix_t, int_i, abs_i, add_ii, len_l, len_t, lst_neg, tup_t, List.length_cons, List.length_nil, Nat.zero_add, Nat.reduceAdd, eq_self, setAll_c, setAll_n, setEnts_c, setEnts_n, asgTR_tup, Nat.zero_le, Nat.le_refl, all_of, any_of, wipe_nil, wipe_cons, back_nil, back_cons, backO_some, keep0_none, keep0_val, mul_ii, e_compX, compEnd_ok, compEnd_exc, e_zip, zipK_l, zipK_t, e_rng2, isi_bool, isi_str, isi_tup, isi_int, PyData.isStr, PyData.isTuple, PyData.isInt, PyData.isBool, PyData.plain, eq_ii, ne_ii, lt_ii, le_ii, gt_ii, ge_ii, eq_ss, ne_ss, le_ss, any_not, gg_1, gx_0, int_s, l640]
      show _ = tkF BF (if (!false && ((signsOf t).cps.toList.all dig && _)) = true then _ else _)
      cases a2 : (signsOf t).cps.toList.all dig with
      | false =>
        simp only [dSs, dS, den, denV, denR, denC, denO, denG, denJ, denOw, Den.val, BOp.F, COp.F, Bi.F, Me.F, TgA.tgt, bind_ok, bind_exc, bind_bad, opR_some, getR_some, varR_some, e_ixV, ixVR_some, truR_some, boolR_bool, andR_some, orR_some, itR_some, itemsOf, partR_int, e_var, e_varB, e_lit, e_op, e_op2, e_cons, e_nil, e_frz, e_tru, e_bool, e_seq, e_asg, e_expr, e_ret, e_retN, e_and, e_or, e_not, e_andT, e_orT, e_notT, e_if, e_un, e_m1, e_noPart, e_part, e_sl, e_only0, e_chain, chR_bool, e_str, e_jnil, e_jcons, strR_str, e_comp, e_in, e_rng1, e_enum, enR_list, e_next, e_brk, e_cont, e_ifS, e_for, e_par, e_ocons, e_asgT, e_app, e_setL, e_rais, e_cnil, e_cval, e_cown, e_callV, e_callO, callR_some, fresR_ok, fresR_exc, seqR_next, seqR_ret, seqR_exc, seqR_brk, seqR_cont, fin_ret, fin_next, fin_exc, List.getElem?_cons_zero, List.getElem?_cons_succ, List.set_cons_zero, List.set_cons_succ, List.map_cons, List.map_nil, List.nil_append, List.cons_append, List.all_cons, List.all_nil, List.contains_nil, Bool.or_self, Bool.and_self, Bool.or_false, Bool.false_or, Bool.or_true, Bool.true_or, Bool.and_true, Bool.true_and, Bool.and_false, Bool.false_and, Bool.not_true, Bool.not_false, or_true, true_or, and_true, true_and, if_true, if_false, ite_true, ite_false, Bool.false_eq_true, reduceCtorEq, isV, isS, get_nil, get_val, owns_n, owns_v, owns_o, Option.map_some, decide_true, decide_false, tru_bool, tru_list, tru_tup, ix_l, ix_t, int_i, abs_i, add_ii, len_l, len_t, lst_neg, tup_t, List.length_cons, List.length_nil, Nat.zero_add, Nat.reduceAdd, eq_self, setAll_c, setAll_n, setEnts_c, setEnts_n, asgTR_tup, Nat.zero_le, Nat.le_refl, all_of, any_of, wipe_nil, wipe_cons, back_nil, back_cons, backO_some, keep0_none, keep0_val, mul_ii, e_compX, compEnd_ok, compEnd_exc, e_zip, zipK_l, zipK_t, e_rng2, isi_bool, isi_str, isi_tup, isi_int, PyData.isStr, PyData.isTuple, PyData.isInt, PyData.isBool, PyData.plain, eq_ii, ne_ii, lt_ii, le_ii, gt_ii, ge_ii, eq_ss, ne_ss, le_ss, any_not, gg_1, gx_0]
        rw [raisR_some _ _ _ _ (mk0 0)]
        rfl
      | true =>
        obtain ⟨n, hn, hb⟩ := num_some t (signs_ne a1) (fun c hc => List.all_eq_true.mp a2 c hc) hl
        simp only [dSs, dS, den, denV, denR, denC, denO, denG, denJ, denOw, Den.val, BOp.F, COp.F, Bi.F, Me.F, TgA.tgt, bind_ok, bind_exc, bind_bad, opR_some, getR_some, varR_some, e_ixV, ixVR_some, truR_some, boolR_bool, andR_some, orR_some, itR_some, itemsOf, partR_int, e_var, e_varB, e_lit, e_op, e_op2, e_cons, e_nil, e_frz, e_tru, e_bool, e_seq, e_asg, e_expr, e_ret, e_retN, e_and, e_or, e_not, e_andT, e_orT, e_notT, e_if, e_un, e_m1, e_noPart, e_part, e_sl, e_only0, e_chain, chR_bool, e_str, e_jnil, e_jcons, strR_str, e_comp, e_in, e_rng1, e_enum, enR_list, e_next, e_brk, e_cont, e_ifS, e_for, e_par, e_ocons, e_asgT, e_app, e_setL, e_rais, e_cnil, e_cval, e_cown, e_callV, e_callO, callR_some, fresR_ok, fresR_exc, seqR_next, seqR_ret, seqR_exc, seqR_brk, seqR_cont, fin_ret, fin_next, fin_exc, List.getElem?_cons_zero, List.getElem?_cons_succ, List.set_cons_zero, List.set_cons_succ, List.map_cons, List.map_nil, List.nil_append, List.cons_append, List.all_cons, List.all_nil, List.contains_nil, Bool.or_self, Bool.and_self, Bool.or_false, Bool.false_or, Bool.or_true, Bool.true_or, Bool.and_true, Bool.true_and, Bool.and_false, Bool.false_and, Bool.not_true, Bool.not_false, or_true, true_or, and_true, true_and, if_true, if_false, ite_true, ite_false, Bool.false_eq_true, reduceCtorEq, isV, isS, get_nil, get_val, owns_n, owns_v, owns_o, Option.map_some, decide_true, decide_false, tru_bool, tru_list, tru_tup, ix_l, ix_t, int_i, abs_i, add_ii, len_l, len_t, lst_neg, tup_t, List.length_cons, List.length_nil, Nat.zero_add, Nat.reduceAdd, eq_self, setAll_c, setAll_n, setEnts_c, setEnts_n, asgTR_tup, Nat.zero_le, Nat.le_refl, all_of, any_of, wipe_nil, wipe_cons, back_nil, back_cons, backO_some, keep0_none, keep0_val, mul_ii, e_compX, compEnd_ok, compEnd_exc, e_zip, zipK_l, zipK_t, e_rng2, isi_bool, isi_str, isi_tup, isi_int, PyData.isStr, PyData.isTuple, PyData.isInt, PyData.isBool, PyData.plain, eq_ii, ne_ii, lt_ii, le_ii, gt_ii, ge_ii, eq_ss, ne_ss, le_ss, any_not, gg_1, gx_0, int_s, l640, hn, fmt_i, hb]
        by_cases a3 : Str.ofString (toString n) = t
        · have d3 : decide (Str.ofString (toString n) = t) = true := decide_eq_true a3
          simp only [dSs, dS, den, denV, denR, denC, denO, denG, denJ, denOw, Den.val, BOp.F, COp.F, Bi.F, Me.F, TgA.tgt, bind_ok, bind_exc, bind_bad, opR_some, getR_some, varR_some, e_ixV, ixVR_some, truR_some, boolR_bool, andR_some, orR_some, itR_some, itemsOf, partR_int, e_var, e_varB, e_lit, e_op, e_op2, e_cons, e_nil, e_frz, e_tru, e_bool, e_seq, e_asg, e_expr, e_ret, e_retN, e_and, e_or, e_not, e_andT, e_orT, e_notT, e_if, e_un, e_m1, e_noPart, e_part, e_sl, e_only0, e_chain, chR_bool, e_str, e_jnil, e_jcons, strR_str, e_comp, e_in, e_rng1, e_enum, enR_list, e_next, e_brk, e_cont, e_ifS, e_for, e_par, e_ocons, e_asgT, e_app, e_setL, e_rais, e_cnil, e_cval, e_cown, e_callV, e_callO, callR_some, fresR_ok, fresR_exc, seqR_next, seqR_ret, seqR_exc, seqR_brk, seqR_cont, fin_ret, fin_next, fin_exc, List.getElem?_cons_zero, List.getElem?_cons_succ, List.set_cons_zero, List.set_cons_succ, List.map_cons, List.map_nil, List.nil_append, List.cons_append, List.all_cons, List.all_nil, List.contains_nil, Bool.or_self, Bool.and_self, Bool.or_false, Bool.false_or, Bool.or_true, Bool.true_or, Bool.and_true, Bool.true_and, Bool.and_false, Bool.false_and, Bool.not_true, Bool.not_false, or_true, true_or, and_true, true_and, if_true, if_false, ite_true, ite_false, Bool.false_eq_true, reduceCtorEq, isV, isS, get_nil, get_val, owns_n, owns_v, owns_o, Option.map_some, decide_true, decide_false, tru_bool, tru_list, tru_tup, ix_l, ix_t, int_i, abs_i, add_ii, len_l, len_t, lst_neg, tup_t, List.length_cons, List.length_nil, Nat.zero_add, Nat.reduceAdd, eq_self, setAll_c, setAll_n, setEnts_c, setEnts_n, asgTR_tup, Nat.zero_le, Nat.le_refl, all_of, any_of, wipe_nil, wipe_cons, back_nil, back_cons, backO_some, keep0_none, keep0_val, mul_ii, e_compX, compEnd_ok, compEnd_exc, e_zip, zipK_l, zipK_t, e_rng2, isi_bool, isi_str, isi_tup, isi_int, PyData.isStr, PyData.isTuple, PyData.isInt, PyData.isBool, PyData.plain, eq_ii, ne_ii, lt_ii, le_ii, gt_ii, ge_ii, eq_ss, ne_ss, le_ss, d3, gg_1, gx_0, int_s, l640, hn]
          rfl
        · have d3 : decide (Str.ofString (toString n) = t) = false := decide_eq_false a3
          simp only [dSs, dS, den, denV, denR, denC, denO, denG, denJ, denOw, Den.val, BOp.F, COp.F, Bi.F, Me.F, TgA.tgt, bind_ok, bind_exc, bind_bad, opR_some, getR_some, varR_some, e_ixV, ixVR_some, truR_some, boolR_bool, andR_some, orR_some, itR_some, itemsOf, partR_int, e_var, e_varB, e_lit, e_op, e_op2, e_cons, e_nil, e_frz, e_tru, e_bool, e_seq, e_asg, e_expr, e_ret, e_retN, e_and, e_or, e_not, e_andT, e_orT, e_notT, e_if, e_un, e_m1, e_noPart, e_part, e_sl, e_only0, e_chain, chR_bool, e_str, e_jnil, e_jcons, strR_str, e_comp, e_in, e_rng1, e_enum, enR_list, e_next, e_brk, e_cont, e_ifS, e_for, e_par, e_ocons, e_asgT, e_app, e_setL, e_rais, e_cnil, e_cval, e_cown, e_callV, e_callO, callR_some, fresR_ok, fresR_exc, seqR_next, seqR_ret, seqR_exc, seqR_brk, seqR_cont, fin_ret, fin_next, fin_exc, List.getElem?_cons_zero, List.getElem?_cons_succ, List.set_cons_zero, List.set_cons_succ, List.map_cons, List.map_nil, List.nil_append, List.cons_append, List.all_cons, List.all_nil, List.contains_nil, Bool.or_self, Bool.and_self, Bool.or_false, Bool.false_or, Bool.or_true, Bool.true_or, Bool.and_true, Bool.true_and, Bool.and_false, Bool.false_and, Bool.not_true, Bool.not_false, or_true, true_or, and_true, true_and, if_true, if_false, ite_true, ite_false, Bool.false_eq_true, reduceCtorEq, isV, isS, get_nil, get_val, owns_n, owns_v, owns_o, Option.map_some, decide_true, decide_false, tru_bool, tru_list, tru_tup, ix_l, ix_t, int_i, abs_i, add_ii, len_l, len_t, lst_neg, tup_t, List.length_cons, List.length_nil, Nat.zero_add, Nat.reduceAdd, eq_self, setAll_c, setAll_n, setEnts_c, setEnts_n, asgTR_tup, Nat.zero_le, Nat.le_refl, all_of, any_of, wipe_nil, wipe_cons, back_nil, back_cons, backO_some, keep0_none, keep0_val, mul_ii, e_compX, compEnd_ok, compEnd_exc, e_zip, zipK_l, zipK_t, e_rng2, isi_bool, isi_str, isi_tup, isi_int, PyData.isStr, PyData.isTuple, PyData.isInt, PyData.isBool, PyData.plain, eq_ii, ne_ii, lt_ii, le_ii, gt_ii, ge_ii, eq_ss, ne_ss, le_ss, d3, gg_1, gx_0]
          rw [raisR_some _ _ _ _ (mk0 0)]
          rfl
    · intro c _
      refine ⟨_, rfl, ⟨0, ?_⟩, rfl⟩
      simp only [dSs, dS, den, denV, denR, denC, denO, denG, denJ, denOw, Den.val, BOp.F, COp.F, Bi.F, Me.F, TgA.tgt, bind_ok, bind_exc, bind_bad, opR_some, getR_some, varR_some, e_ixV, ixVR_some, truR_some, boolR_bool, andR_some, orR_some, itR_some, itemsOf, partR_int, e_var, e_varB, e_lit, e_op, e_op2, e_cons, e_nil, e_frz, e_tru, e_bool, e_seq, e_asg, e_expr, e_ret, e_retN, e_and, e_or, e_not, e_andT, e_orT, e_notT, e_if, e_un, e_m1, e_noPart, e_part, e_sl, e_only0, e_chain, chR_bool, e_str, e_jnil, e_jcons, strR_str, e_comp, e_in, e_rng1, e_enum, enR_list, e_next, e_brk, e_cont, e_ifS, e_for, e_par, e_ocons, e_asgT, e_app, e_setL, e_rais, e_cnil, e_cval, e_cown, e_callV, e_callO, callR_some, fresR_ok, fresR_exc, seqR_next, seqR_ret, seqR_exc, seqR_brk, seqR_cont, fin_ret, fin_next, fin_exc, List.getElem?_cons_zero, List.getElem?_cons_succ, List.set_cons_zero, List.set_cons_succ, List.map_cons, List.map_nil, List.nil_append, List.cons_append, List.all_cons, List.all_nil, List.contains_nil, Bool.or_self, Bool.and_self, Bool.or_false, Bool.false_or, Bool.or_true, Bool.true_or, Bool.and_true, Bool.true_and, Bool.and_false, Bool.false_and, Bool.not_true, Bool.not_false, or_true, true_or, and_true, true_and, if_true, if_false, ite_true, ite_false, Bool.false_eq_true, reduceCtorEq, isV, isS, get_nil, get_val, owns_n, owns_v, owns_o, Option.map_some, decide_true, decide_false, tru_bool, tru_list, tru_tup, ix_l, ix_t, int_i, abs_i, add_ii, len_l, len_t, lst_neg, tup_t, List.length_cons, List.length_nil, Nat.zero_add, Nat.reduceAdd, eq_self, setAll_c, setAll_n, setEnts_c, setEnts_n, asgTR_tup, Nat.zero_le, Nat.le_refl, all_of, any_of, wipe_nil, wipe_cons, back_nil, back_cons, backO_some, keep0_none, keep0_val, mul_ii, e_compX, compEnd_ok, compEnd_exc, e_zip, zipK_l, zipK_t, e_rng2, isi_bool, isi_str, isi_tup, isi_int, PyData.isStr, PyData.isTuple, PyData.isInt, PyData.isBool, PyData.plain, eq_ii, ne_ii, lt_ii, le_ii, gt_ii, ge_ii, eq_ss, ne_ss, le_ss, gg_1, gx_0, in_sign, xorT]
      rfl
end K55
end

section
set_option Elab.async false
set_option linter.all false
set_option maxRecDepth 100000
set_option maxHeartbeats 4000000
namespace K55
open PySem PySem.Spec PyProof.Rows L2 Mb TL
def optI : Option Int → PyData
  | some n => .int n
  | none => .none
theorem nodig (l : List Nat) : ((l.filter fun c => !dig c).map fun c => PyData.str ⟨#[c]⟩).isEmpty = l.all dig := by
  induction l with
  | nil => rfl
  | cons a l ih => cases h : dig a <;> simp [List.filter_cons, h, ih]
theorem lint_F (t : Str) (hl : t.length ≤ 500) : F__law_int [(0, .str t)] = .ok (0, optI (intOf t)) [none] := by
  have lim : 500 ≤ LIM := by decide
  have tl1 : t.length ≤ LIM := by omega
  have sl := signs_len t
  have l640 : t.length ≤ 640 := by omega
  have ln : lstD [] = some (1, .list []) := rfl
  have st : ∀ x, dS (G fl17) [] (.asg 1 (.ite (.cmp .eq (.sl (.var 0) .no (.so (.int 1))) (.str "-")) (.sl (.var 0) (.so (.int 1)) .no) (.var 0))) [some (0, .str t), none, x] = .ok (.next, [some (0, .str t), some (0, .str (signsOf t)), x]) := by
    intro x
    rcases signs_cases t with ⟨c, _⟩ | ⟨c, e⟩
    · have d : decide (cutS t none (some 1) = ("-" : Str)) = true := decide_eq_true c
      have s1 : cutS t (some 1) none = signsOf t := by unfold signsOf; rw [if_pos c]
      simp only [dSs, dS, den, denV, denR, denC, denO, denG, denJ, denOw, Den.val, BOp.F, COp.F, Bi.F, Me.F, TgA.tgt, bind_ok, bind_exc, bind_bad, opR_some, getR_some, varR_some, e_ixV, ixVR_some, truR_some, boolR_bool, andR_some, orR_some, itR_some, itemsOf, partR_int, e_var, e_varB, e_lit, e_op, e_op2, e_cons, e_nil, e_frz, e_tru, e_bool, e_seq, e_asg, e_expr, e_ret, e_retN, e_and, e_or, e_not, e_andT, e_orT, e_notT, e_if, e_un, e_m1, e_noPart, e_part, e_sl, e_only0, e_chain, chR_bool, e_str, e_jnil, e_jcons, strR_str, e_comp, e_in, e_rng1, e_enum, enR_list, e_next, e_brk, e_cont, e_ifS, e_for, e_par, e_ocons, e_asgT, e_app, e_setL, e_rais, e_cnil, e_cval, e_cown, e_callV, e_callO, callR_some, fresR_ok, fresR_exc, seqR_next, seqR_ret, seqR_exc, seqR_brk, seqR_cont, fin_ret, fin_next, fin_exc, List.getElem?_cons_zero, List.getElem?_cons_succ, List.set_cons_zero, List.set_cons_succ, List.map_cons, List.map_nil, List.nil_append, List.cons_append, List.all_cons, List.all_nil, List.contains_nil, Bool.or_self, Bool.and_self, Bool.or_false, Bool.false_or, Bool.or_true, Bool.true_or, Bool.and_true, Bool.true_and, Bool.and_false, Bool.false_and, Bool.not_true, Bool.not_false, or_true, true_or, and_true, true_and, if_true, if_false, ite_true, ite_false, Bool.false_eq_true, reduceCtorEq, isV, isS, get_nil, get_val, owns_n, owns_v, owns_o, Option.map_some, decide_true, decide_false, tru_bool, tru_list, tru_tup, ix_l, ix_t, int_i, abs_i, add_ii, len_l, len_t, lst_neg, tup_t, List.length_cons, List.length_nil, Nat.zero_add, Nat.reduceAdd, eq_self, setAll_c, setAll_n, setEnts_c, setEnts_n, asgTR_tup, Nat.zero_le, Nat.le_refl, all_of, any_of, wipe_nil, wipe_cons, back_nil, back_cons, backO_some, keep0_none, keep0_val, mul_ii, e_compX, compEnd_ok, compEnd_exc, e_zip, zipK_l, zipK_t, e_rng2, isi_bool, isi_str, isi_tup, isi_int, PyData.isStr, PyData.isTuple, PyData.isInt, PyData.isBool, PyData.plain, eq_ii, ne_ii, lt_ii, le_ii, gt_ii, ge_ii, eq_ss, ne_ss, le_ss, sl_s, tl1, d, s1]
    · have d : decide (cutS t none (some 1) = ("-" : Str)) = false := decide_eq_false c
      simp only [dSs, dS, den, denV, denR, denC, denO, denG, denJ, denOw, Den.val, BOp.F, COp.F, Bi.F, Me.F, TgA.tgt, bind_ok, bind_exc, bind_bad, opR_some, getR_some, varR_some, e_ixV, ixVR_some, truR_some, boolR_bool, andR_some, orR_some, itR_some, itemsOf, partR_int, e_var, e_varB, e_lit, e_op, e_op2, e_cons, e_nil, e_frz, e_tru, e_bool, e_seq, e_asg, e_expr, e_ret, e_retN, e_and, e_or, e_not, e_andT, e_orT, e_notT, e_if, e_un, e_m1, e_noPart, e_part, e_sl, e_only0, e_chain, chR_bool, e_str, e_jnil, e_jcons, strR_str, e_comp, e_in, e_rng1, e_enum, enR_list, e_next, e_brk, e_cont, e_ifS, e_for, e_par, e_ocons, e_asgT, e_app, e_setL, e_rais, e_cnil, e_cval, e_cown, e_callV, e_callO, callR_some, fresR_ok, fresR_exc, seqR_next, seqR_ret, seqR_exc, seqR_brk, seqR_cont, fin_ret, fin_next, fin_exc, List.getElem?_cons_zero, List.getElem?_cons_succ, List.set_cons_zero, List.set_cons_succ, List.map_cons, List.map_nil, List.nil_append, List.cons_append, List.all_cons, List.all_nil, List.contains_nil, Bool.or_self, Bool.and_self, Bool.or_false, Bool.false_or, Bool.or_true, Bool.true_or, Bool.and_true, Bool.true_and, Bool.and_false, Bool.false_and, Bool.not_true, Bool.not_false, or_true, true_or, and_true, true_and, if_true, if_false, ite_true, ite_false, Bool.false_eq_true, reduceCtorEq, isV, isS, get_nil, get_val, owns_n, owns_v, owns_o, Option.map_some, decide_true, decide_false, tru_bool, tru_list, tru_tup, ix_l, ix_t, int_i, abs_i, add_ii, len_l, len_t, lst_neg, tup_t, List.length_cons, List.length_nil, Nat.zero_add, Nat.reduceAdd, eq_self, setAll_c, setAll_n, setEnts_c, setEnts_n, asgTR_tup, Nat.zero_le, Nat.le_refl, all_of, any_of, wipe_nil, wipe_cons, back_nil, back_cons, backO_some, keep0_none, keep0_val, mul_ii, e_compX, compEnd_ok, compEnd_exc, e_zip, zipK_l, zipK_t, e_rng2, isi_bool, isi_str, isi_tup, isi_int, PyData.isStr, PyData.isTuple, PyData.isInt, PyData.isBool, PyData.plain, eq_ii, ne_ii, lt_ii, le_ii, gt_ii, ge_ii, eq_ss, ne_ss, le_ss, sl_s, tl1, d, e]
  unfold F__law_int b__law_int
  simp only [e_run, List.length_cons, List.length_nil, if_true, List.map_cons, List.map_nil, List.cons_append, List.nil_append, List.replicate_succ, List.replicate_zero, Nat.reduceSub, Nat.reduceAdd]
  simp only [dSs, e_seq]
  rw [st, seqR_next]
  unfold intOf okInt
  by_cases a1 : signsOf t = ""
  · have d1 : decide (signsOf t = ("" : Str)) = true := decide_eq_true a1
    simp only [dSs, dS, den, denV, denR, denC, denO, denG, denJ, denOw, Den.val, BOp.F, COp.F, Bi.F, Me.F, TgA.tgt, bind_ok, bind_exc, bind_bad, opR_some, getR_some, varR_some, e_ixV, ixVR_some, truR_some, boolR_bool, andR_some, orR_some, itR_some, itemsOf, partR_int, e_var, e_varB, e_lit, e_op, e_op2, e_cons, e_nil, e_frz, e_tru, e_bool, e_seq, e_asg, e_expr, e_ret, e_retN, e_and, e_or, e_not, e_andT, e_orT, e_notT, e_if, e_un, e_m1, e_noPart, e_part, e_sl, e_only0, e_chain, chR_bool, e_str, e_jnil, e_jcons, strR_str, e_comp, e_in, e_rng1, e_enum, enR_list, e_next, e_brk, e_cont, e_ifS, e_for, e_par, e_ocons, e_asgT, e_app, e_setL, e_rais, e_cnil, e_cval, e_cown, e_callV, e_callO, callR_some, fresR_ok, fresR_exc, seqR_next, seqR_ret, seqR_exc, seqR_brk, seqR_cont, fin_ret, fin_next, fin_exc, List.getElem?_cons_zero, List.getElem?_cons_succ, List.set_cons_zero, List.set_cons_succ, List.map_cons, List.map_nil, List.nil_append, List.cons_append, List.all_cons, List.all_nil, List.contains_nil, Bool.or_self, Bool.and_self, Bool.or_false, Bool.false_or, Bool.or_true, Bool.true_or, Bool.and_true, Bool.true_and, Bool.and_false, Bool.false_and, Bool.not_true, Bool.not_false, or_true, true_or, and_true, true_and, if_true, if_false, ite_true, ite_false, Bool.false_eq_true, reduceCtorEq, isV, isS, get_nil, get_val, owns_n, owns_v, owns_o, Option.map_some, decide_true, decide_false, tru_bool, tru_list, tru_tup, ix_l, ix_t, int_i, abs_i, add_ii, len_l, len_t, lst_neg, tup_t, List.length_cons, List.length_nil, Nat.zero_add, Nat.reduceAdd, eq_self, setAll_c, setAll_n, setEnts_c, setEnts_n, asgTR_tup, Nat.zero_le, Nat.le_refl, all_of, any_of, wipe_nil, wipe_cons, back_nil, back_cons, backO_some, keep0_none, keep0_val, mul_ii, e_compX, compEnd_ok, compEnd_exc, e_zip, zipK_l, zipK_t, e_rng2, isi_bool, isi_str, isi_tup, isi_int, PyData.isStr, PyData.isTuple, PyData.isInt, PyData.isBool, PyData.plain, eq_ii, ne_ii, lt_ii, le_ii, gt_ii, ge_ii, eq_ss, ne_ss, le_ss, d1]
    rfl
  · have d1 : decide (signsOf t = ("" : Str)) = false := decide_eq_false a1
    simp only [dSs, dS, den, denV, denR, denC, denO, denG, denJ, denOw, Den.val, BOp.F, COp.F, Bi.F, Me.F, TgA.tgt, bind_ok, bind_exc, bind_bad, opR_some, getR_some, varR_some, e_ixV, ixVR_some, truR_some, boolR_bool, andR_some, orR_some, itR_some, itemsOf, partR_int, e_var, e_varB, e_lit, e_op, e_op2, e_cons, e_nil, e_frz, e_tru, e_bool, e_seq, e_asg, e_expr, e_ret, e_retN, e_and, e_or, e_not, e_andT, e_orT, e_notT, e_if, e_un, e_m1, e_noPart, e_part, e_sl, e_only0, e_chain, chR_bool, e_str, e_jnil, e_jcons, strR_str, e_comp, e_in, e_rng1, e_enum, enR_list, e_next, e_brk, e_cont, e_ifS, e_for, e_par, e_ocons, e_asgT, e_app, e_setL, e_rais, e_cnil, e_cval, e_cown, e_callV, e_callO, callR_some, fresR_ok, fresR_exc, seqR_next, seqR_ret, seqR_exc, seqR_brk, seqR_cont, fin_ret, fin_next, fin_exc, List.getElem?_cons_zero, List.getElem?_cons_succ, List.set_cons_zero, List.set_cons_succ, List.map_cons, List.map_nil, List.nil_append, List.cons_append, List.all_cons, List.all_nil, List.contains_nil, Bool.or_self, Bool.and_self, Bool.or_false, Bool.false_or, Bool.or_true, Bool.true_or, Bool.and_true, Bool.true_and, Bool.and_false, Bool.false_and, Bool.not_true, Bool.not_false, or_true, true_or, and_true, true_and, if_true, if_false, ite_true, ite_false, Bool.false_eq_true, reduceCtorEq, isV, isS, get_nil, get_val, owns_n, owns_v, owns_o, Option.map_some, decide_true, decide_false, tru_bool, tru_list, tru_tup, ix_l, ix_t, int_i, abs_i, add_ii, len_l, len_t, lst_neg, tup_t, List.length_cons, List.length_nil, Nat.zero_add, Nat.reduceAdd, eq_self, setAll_c, setAll_n, setEnts_c, setEnts_n, asgTR_tup, Nat.zero_le, Nat.le_refl, all_of, any_of, wipe_nil, wipe_cons, back_nil, back_cons, backO_some, keep0_none, keep0_val, mul_ii, e_compX, compEnd_ok, compEnd_exc, e_zip, zipK_l, zipK_t, e_rng2, isi_bool, isi_str, isi_tup, isi_int, PyData.isStr, PyData.isTuple, PyData.isInt, PyData.isBool, PyData.plain, eq_ii, ne_ii, lt_ii, le_ii, gt_ii, ge_ii, eq_ss, ne_ss, le_ss, d1]
    rw [comp_q (fun c => .str ⟨#[c]⟩) (fun c => !dig c) (fun c => .str ⟨#[c]⟩) (signsOf t).cps.toList (by rw [Array.length_toList]; exact Nat.le_trans (Nat.le_of_eq (Nat.zero_add _)) (Nat.le_trans sl tl1))]
    · have pl := plain_map (k := fun c : Nat => PyData.str ⟨#[c]⟩) (fun _ => by simp [PyData.plain]) ((signsOf t).cps.toList.filter fun c => !dig c)
      have nl := fun n m => ne_lnil n m _ pl
      simp only [dSs, dS, den, denV, denR, denC, denO, denG, denJ, denOw, Den.val, BOp.F, COp.F, Bi.F, Me.F, TgA.tgt, bind_ok, bind_exc, bind_bad, opR_some, getR_some, varR_some, e_ixV, ixVR_some, truR_some, boolR_bool, andR_some, orR_some, itR_some, itemsOf, partR_int, e_var, e_varB, e_lit, e_op, e_op2, e_cons, e_nil, e_frz, e_tru, e_bool, e_seq, e_asg, e_expr, e_ret, e_retN, e_and, e_or, e_not, e_andT, e_orT, e_notT, e_if, e_un, e_m1, e_noPart, e_part, e_sl, e_only0, e_chain, chR_bool, e_str, e_jnil, e_jcons, strR_str, e_comp, e_in, e_rng1, e_enum, enR_list, e_next, e_brk, e_cont, e_ifS, e_for, e_par, e_ocons, e_asgT, e_app, e_setL, e_rais, e_cnil, e_cval, e_cown, e_callV, e_callO, callR_some, fresR_ok, fresR_exc, seqR_next, seqR_ret, seqR_exc, seqR_brk, seqR_cont, fin_ret, fin_next, fin_exc, List.getElem?_cons_zero, List.getElem?_cons_succ, List.set_cons_zero, List.set_cons_succ, List.map_cons, List.map_nil, List.nil_append, List.cons_append, List.all_cons, List.all_nil, List.contains_nil, Bool.or_self, Bool.and_self, Bool.or_false, Bool.false_or, Bool.or_true, Bool.true_or, Bool.and_true, Bool.true_and, Bool.and_false, Bool.false_and, Bool.not_true, Bool.not_false, or_true, true_or, and_true, true_and, if_true, if_false, ite_true, ite_false, Bool.false_eq_true, reduceCtorEq, isV, isS, get_nil, get_val, owns_n, owns_v, owns_o, Option.map_some, decide_true, decide_false, tru_bool, tru_list, tru_tup, ix_l, ix_t, int_i, abs_i, add_ii, len_l, len_t, lst_neg, tup_t, List.length_cons, List.length_nil, Nat.zero_add, Nat.reduceAdd, eq_self, setAll_c, setAll_n, setEnts_c, setEnts_n, asgTR_tup, Nat.zero_le, Nat.le_refl, all_of, any_of, wipe_nil, wipe_cons, back_nil, back_cons, backO_some, keep0_none, keep0_val, mul_ii, e_compX, compEnd_ok, compEnd_exc, e_zip, zipK_l, zipK_t, e_rng2, isi_bool, isi_str, isi_tup, isi_int, PyData.isStr, PyData.isTuple, PyData.isInt, PyData.isBool, PyData.plain, eq_ii, ne_ii, lt_ii, le_ii, gt_ii, ge_ii, eq_ss, ne_ss, le_ss, ln, nl, nodig, int_s, l640]
      show _ = FRes.ok (0, optI (if (!false && ((signsOf t).cps.toList.all dig && _)) = true then _ else _)) _
      cases a2 : (signsOf t).cps.toList.all dig with
      | false =>
        simp only [dSs, dS, den, denV, denR, denC, denO, denG, denJ, denOw, Den.val, BOp.F, COp.F, Bi.F, Me.F, TgA.tgt, bind_ok, bind_exc, bind_bad, opR_some, getR_some, varR_some, e_ixV, ixVR_some, truR_some, boolR_bool, andR_some, orR_some, itR_some, itemsOf, partR_int, e_var, e_varB, e_lit, e_op, e_op2, e_cons, e_nil, e_frz, e_tru, e_bool, e_seq, e_asg, e_expr, e_ret, e_retN, e_and, e_or, e_not, e_andT, e_orT, e_notT, e_if, e_un, e_m1, e_noPart, e_part, e_sl, e_only0, e_chain, chR_bool, e_str, e_jnil, e_jcons, strR_str, e_comp, e_in, e_rng1, e_enum, enR_list, e_next, e_brk, e_cont, e_ifS, e_for, e_par, e_ocons, e_asgT, e_app, e_setL, e_rais, e_cnil, e_cval, e_cown, e_callV, e_callO, callR_some, fresR_ok, fresR_exc, seqR_next, seqR_ret, seqR_exc, seqR_brk, seqR_cont, fin_ret, fin_next, fin_exc, List.getElem?_cons_zero, List.getElem?_cons_succ, List.set_cons_zero, List.set_cons_succ, List.map_cons, List.map_nil, List.nil_append, List.cons_append, List.all_cons, List.all_nil, List.contains_nil, Bool.or_self, Bool.and_self, Bool.or_false, Bool.false_or, Bool.or_true, Bool.true_or, Bool.and_true, Bool.true_and, Bool.and_false, Bool.false_and, Bool.not_true, Bool.not_false, or_true, true_or, and_true, true_and, if_true, if_false, ite_true, ite_false, Bool.false_eq_true, reduceCtorEq, isV, isS, get_nil, get_val, owns_n, owns_v, owns_o, Option.map_some, decide_true, decide_false, tru_bool, tru_list, tru_tup, ix_l, ix_t, int_i, abs_i, add_ii, len_l, len_t, lst_neg, tup_t, List.length_cons, List.length_nil, Nat.zero_add, Nat.reduceAdd, eq_self, setAll_c, setAll_n, setEnts_c, setEnts_n, asgTR_tup, Nat.zero_le, Nat.le_refl, all_of, any_of, wipe_nil, wipe_cons, back_nil, back_cons, backO_some, keep0_none, keep0_val, mul_ii, e_compX, compEnd_ok, compEnd_exc, e_zip, zipK_l, zipK_t, e_rng2, isi_bool, isi_str, isi_tup, isi_int, PyData.isStr, PyData.isTuple, PyData.isInt, PyData.isBool, PyData.plain, eq_ii, ne_ii, lt_ii, le_ii, gt_ii, ge_ii, eq_ss, ne_ss, le_ss]
        rfl
      | true =>
        obtain ⟨n, hn, hb⟩ := num_some t (signs_ne a1) (fun c hc => List.all_eq_true.mp a2 c hc) hl
        simp only [dSs, dS, den, denV, denR, denC, denO, denG, denJ, denOw, Den.val, BOp.F, COp.F, Bi.F, Me.F, TgA.tgt, bind_ok, bind_exc, bind_bad, opR_some, getR_some, varR_some, e_ixV, ixVR_some, truR_some, boolR_bool, andR_some, orR_some, itR_some, itemsOf, partR_int, e_var, e_varB, e_lit, e_op, e_op2, e_cons, e_nil, e_frz, e_tru, e_bool, e_seq, e_asg, e_expr, e_ret, e_retN, e_and, e_or, e_not, e_andT, e_orT, e_notT, e_if, e_un, e_m1, e_noPart, e_part, e_sl, e_only0, e_chain, chR_bool, e_str, e_jnil, e_jcons, strR_str, e_comp, e_in, e_rng1, e_enum, enR_list, e_next, e_brk, e_cont, e_ifS, e_for, e_par, e_ocons, e_asgT, e_app, e_setL, e_rais, e_cnil, e_cval, e_cown, e_callV, e_callO, callR_some, fresR_ok, fresR_exc, seqR_next, seqR_ret, seqR_exc, seqR_brk, seqR_cont, fin_ret, fin_next, fin_exc, List.getElem?_cons_zero, List.getElem?_cons_succ, List.set_cons_zero, List.set_cons_succ, List.map_cons, List.map_nil, List.nil_append, List.cons_append, List.all_cons, List.all_nil, List.contains_nil, Bool.or_self, Bool.and_self, Bool.or_false, Bool.false_or, Bool.or_true, Bool.true_or, Bool.and_true, Bool.true_and, Bool.and_false, Bool.false_and, Bool.not_true, Bool.not_false, or_true, true_or, and_true, true_and, if_true, if_false, ite_true, ite_false, Bool.false_eq_true, reduceCtorEq, isV, isS, get_nil, get_val, owns_n, owns_v, owns_o, Option.map_some, decide_true, decide_false, tru_bool, tru_list, tru_tup, ix_l, ix_t, int_i, abs_i, add_ii, len_l, len_t, lst_neg, tup_t, List.length_cons, List.length_nil, Nat.zero_add, Nat.reduceAdd, eq_self, setAll_c, setAll_n, setEnts_c, setEnts_n, asgTR_tup, Nat.zero_le, Nat.le_refl, all_of, any_of, wipe_nil, wipe_cons, back_nil, back_cons, backO_some, keep0_none, keep0_val, mul_ii, e_compX, compEnd_ok, compEnd_exc, e_zip, zipK_l, zipK_t, e_rng2, isi_bool, isi_str, isi_tup, isi_int, PyData.isStr, PyData.isTuple, PyData.isInt, PyData.isBool, PyData.plain, eq_ii, ne_ii, lt_ii, le_ii, gt_ii, ge_ii, eq_ss, ne_ss, le_ss, int_s, l640, hn, str_i, hb]
        by_cases a3 : Str.ofString (toString n) = t
        · have d3 : decide (Str.ofString (toString n) = t) = true := decide_eq_true a3
          simp only [dSs, dS, den, denV, denR, denC, denO, denG, denJ, denOw, Den.val, BOp.F, COp.F, Bi.F, Me.F, TgA.tgt, bind_ok, bind_exc, bind_bad, opR_some, getR_some, varR_some, e_ixV, ixVR_some, truR_some, boolR_bool, andR_some, orR_some, itR_some, itemsOf, partR_int, e_var, e_varB, e_lit, e_op, e_op2, e_cons, e_nil, e_frz, e_tru, e_bool, e_seq, e_asg, e_expr, e_ret, e_retN, e_and, e_or, e_not, e_andT, e_orT, e_notT, e_if, e_un, e_m1, e_noPart, e_part, e_sl, e_only0, e_chain, chR_bool, e_str, e_jnil, e_jcons, strR_str, e_comp, e_in, e_rng1, e_enum, enR_list, e_next, e_brk, e_cont, e_ifS, e_for, e_par, e_ocons, e_asgT, e_app, e_setL, e_rais, e_cnil, e_cval, e_cown, e_callV, e_callO, callR_some, fresR_ok, fresR_exc, seqR_next, seqR_ret, seqR_exc, seqR_brk, seqR_cont, fin_ret, fin_next, fin_exc, List.getElem?_cons_zero, List.getElem?_cons_succ, List.set_cons_zero, List.set_cons_succ, List.map_cons, List.map_nil, List.nil_append, List.cons_append, List.all_cons, List.all_nil, List.contains_nil, Bool.or_self, Bool.and_self, Bool.or_false, Bool.false_or, Bool.or_true, Bool.true_or, Bool.and_true, Bool.true_and, Bool.and_false, Bool.false_and, Bool.not_true, Bool.not_false, or_true, true_or, and_true, true_and, if_true, if_false, ite_true, ite_false, Bool.false_eq_true, reduceCtorEq, isV, isS, get_nil, get_val, owns_n, owns_v, owns_o, Option.map_some, decide_true, decide_false, tru_bool, tru_list, tru_tup, ix_l, ix_t, int_i, abs_i, add_ii, len_l, len_t, lst_neg, tup_t, List.length_cons, List.length_nil, Nat.zero_add, Nat.reduceAdd, eq_self, setAll_c, setAll_n, setEnts_c, setEnts_n, asgTR_tup, Nat.zero_le, Nat.le_refl, all_of, any_of, wipe_nil, wipe_cons, back_nil, back_cons, backO_some, keep0_none, keep0_val, mul_ii, e_compX, compEnd_ok, compEnd_exc, e_zip, zipK_l, zipK_t, e_rng2, isi_bool, isi_str, isi_tup, isi_int, PyData.isStr, PyData.isTuple, PyData.isInt, PyData.isBool, PyData.plain, eq_ii, ne_ii, lt_ii, le_ii, gt_ii, ge_ii, eq_ss, ne_ss, le_ss, d3, int_s, l640, hn]
          rfl
        · have d3 : decide (Str.ofString (toString n) = t) = false := decide_eq_false a3
          simp only [dSs, dS, den, denV, denR, denC, denO, denG, denJ, denOw, Den.val, BOp.F, COp.F, Bi.F, Me.F, TgA.tgt, bind_ok, bind_exc, bind_bad, opR_some, getR_some, varR_some, e_ixV, ixVR_some, truR_some, boolR_bool, andR_some, orR_some, itR_some, itemsOf, partR_int, e_var, e_varB, e_lit, e_op, e_op2, e_cons, e_nil, e_frz, e_tru, e_bool, e_seq, e_asg, e_expr, e_ret, e_retN, e_and, e_or, e_not, e_andT, e_orT, e_notT, e_if, e_un, e_m1, e_noPart, e_part, e_sl, e_only0, e_chain, chR_bool, e_str, e_jnil, e_jcons, strR_str, e_comp, e_in, e_rng1, e_enum, enR_list, e_next, e_brk, e_cont, e_ifS, e_for, e_par, e_ocons, e_asgT, e_app, e_setL, e_rais, e_cnil, e_cval, e_cown, e_callV, e_callO, callR_some, fresR_ok, fresR_exc, seqR_next, seqR_ret, seqR_exc, seqR_brk, seqR_cont, fin_ret, fin_next, fin_exc, List.getElem?_cons_zero, List.getElem?_cons_succ, List.set_cons_zero, List.set_cons_succ, List.map_cons, List.map_nil, List.nil_append, List.cons_append, List.all_cons, List.all_nil, List.contains_nil, Bool.or_self, Bool.and_self, Bool.or_false, Bool.false_or, Bool.or_true, Bool.true_or, Bool.and_true, Bool.true_and, Bool.and_false, Bool.false_and, Bool.not_true, Bool.not_false, or_true, true_or, and_true, true_and, if_true, if_false, ite_true, ite_false, Bool.false_eq_true, reduceCtorEq, isV, isS, get_nil, get_val, owns_n, owns_v, owns_o, Option.map_some, decide_true, decide_false, tru_bool, tru_list, tru_tup, ix_l, ix_t, int_i, abs_i, add_ii, len_l, len_t, lst_neg, tup_t, List.length_cons, List.length_nil, Nat.zero_add, Nat.reduceAdd, eq_self, setAll_c, setAll_n, setEnts_c, setEnts_n, asgTR_tup, Nat.zero_le, Nat.le_refl, all_of, any_of, wipe_nil, wipe_cons, back_nil, back_cons, backO_some, keep0_none, keep0_val, mul_ii, e_compX, compEnd_ok, compEnd_exc, e_zip, zipK_l, zipK_t, e_rng2, isi_bool, isi_str, isi_tup, isi_int, PyData.isStr, PyData.isTuple, PyData.isInt, PyData.isBool, PyData.plain, eq_ii, ne_ii, lt_ii, le_ii, gt_ii, ge_ii, eq_ss, ne_ss, le_ss, d3]
          rfl
    · intro c _
      refine ⟨_, rfl, ?_, fun _ => ⟨0, ?_⟩, rfl⟩
      · simp only [dSs, dS, den, denV, denR, denC, denO, denG, denJ, denOw, Den.val, BOp.F, COp.F, Bi.F, Me.F, TgA.tgt, bind_ok, bind_exc, bind_bad, opR_some, getR_some, varR_some, e_ixV, ixVR_some, truR_some, boolR_bool, andR_some, orR_some, itR_some, itemsOf, partR_int, e_var, e_varB, e_lit, e_op, e_op2, e_cons, e_nil, e_frz, e_tru, e_bool, e_seq, e_asg, e_expr, e_ret, e_retN, e_and, e_or, e_not, e_andT, e_orT, e_notT, e_if, e_un, e_m1, e_noPart, e_part, e_sl, e_only0, e_chain, chR_bool, e_str, e_jnil, e_jcons, strR_str, e_comp, e_in, e_rng1, e_enum, enR_list, e_next, e_brk, e_cont, e_ifS, e_for, e_par, e_ocons, e_asgT, e_app, e_setL, e_rais, e_cnil, e_cval, e_cown, e_callV, e_callO, callR_some, fresR_ok, fresR_exc, seqR_next, seqR_ret, seqR_exc, seqR_brk, seqR_cont, fin_ret, fin_next, fin_exc, List.getElem?_cons_zero, List.getElem?_cons_succ, List.set_cons_zero, List.set_cons_succ, List.map_cons, List.map_nil, List.nil_append, List.cons_append, List.all_cons, List.all_nil, List.contains_nil, Bool.or_self, Bool.and_self, Bool.or_false, Bool.false_or, Bool.or_true, Bool.true_or, Bool.and_true, Bool.true_and, Bool.and_false, Bool.false_and, Bool.not_true, Bool.not_false, or_true, true_or, and_true, true_and, if_true, if_false, ite_true, ite_false, Bool.false_eq_true, reduceCtorEq, isV, isS, get_nil, get_val, owns_n, owns_v, owns_o, Option.map_some, decide_true, decide_false, tru_bool, tru_list, tru_tup, ix_l, ix_t, int_i, abs_i, add_ii, len_l, len_t, lst_neg, tup_t, List.length_cons, List.length_nil, Nat.zero_add, Nat.reduceAdd, eq_self, setAll_c, setAll_n, setEnts_c, setEnts_n, asgTR_tup, Nat.zero_le, Nat.le_refl, all_of, any_of, wipe_nil, wipe_cons, back_nil, back_cons, backO_some, keep0_none, keep0_val, mul_ii, e_compX, compEnd_ok, compEnd_exc, e_zip, zipK_l, zipK_t, e_rng2, isi_bool, isi_str, isi_tup, isi_int, PyData.isStr, PyData.isTuple, PyData.isInt, PyData.isBool, PyData.plain, eq_ii, ne_ii, lt_ii, le_ii, gt_ii, ge_ii, eq_ss, ne_ss, le_ss, in_sign, xorT]
        rfl
      · simp only [dSs, dS, den, denV, denR, denC, denO, denG, denJ, denOw, Den.val, BOp.F, COp.F, Bi.F, Me.F, TgA.tgt, bind_ok, bind_exc, bind_bad, opR_some, getR_some, varR_some, e_ixV, ixVR_some, truR_some, boolR_bool, andR_some, orR_some, itR_some, itemsOf, partR_int, e_var, e_varB, e_lit, e_op, e_op2, e_cons, e_nil, e_frz, e_tru, e_bool, e_seq, e_asg, e_expr, e_ret, e_retN, e_and, e_or, e_not, e_andT, e_orT, e_notT, e_if, e_un, e_m1, e_noPart, e_part, e_sl, e_only0, e_chain, chR_bool, e_str, e_jnil, e_jcons, strR_str, e_comp, e_in, e_rng1, e_enum, enR_list, e_next, e_brk, e_cont, e_ifS, e_for, e_par, e_ocons, e_asgT, e_app, e_setL, e_rais, e_cnil, e_cval, e_cown, e_callV, e_callO, callR_some, fresR_ok, fresR_exc, seqR_next, seqR_ret, seqR_exc, seqR_brk, seqR_cont, fin_ret, fin_next, fin_exc, List.getElem?_cons_zero, List.getElem?_cons_succ, List.set_cons_zero, List.set_cons_succ, List.map_cons, List.map_nil, List.nil_append, List.cons_append, List.all_cons, List.all_nil, List.contains_nil, Bool.or_self, Bool.and_self, Bool.or_false, Bool.false_or, Bool.or_true, Bool.true_or, Bool.and_true, Bool.true_and, Bool.and_false, Bool.false_and, Bool.not_true, Bool.not_false, or_true, true_or, and_true, true_and, if_true, if_false, ite_true, ite_false, Bool.false_eq_true, reduceCtorEq, isV, isS, get_nil, get_val, owns_n, owns_v, owns_o, Option.map_some, decide_true, decide_false, tru_bool, tru_list, tru_tup, ix_l, ix_t, int_i, abs_i, add_ii, len_l, len_t, lst_neg, tup_t, List.length_cons, List.length_nil, Nat.zero_add, Nat.reduceAdd, eq_self, setAll_c, setAll_n, setEnts_c, setEnts_n, asgTR_tup, Nat.zero_le, Nat.le_refl, all_of, any_of, wipe_nil, wipe_cons, back_nil, back_cons, backO_some, keep0_none, keep0_val, mul_ii, e_compX, compEnd_ok, compEnd_exc, e_zip, zipK_l, zipK_t, e_rng2, isi_bool, isi_str, isi_tup, isi_int, PyData.isStr, PyData.isTuple, PyData.isInt, PyData.isBool, PyData.plain, eq_ii, ne_ii, lt_ii, le_ii, gt_ii, ge_ii, eq_ss, ne_ss, le_ss]
def tsz (n : Int) : Str := Str.ofString (toString n)
def Sm2 (p : Int × Int) : Prop := 0 ≤ p.1 ∧ p.1 < 1000000 ∧ 0 ≤ p.2 ∧ p.2 < 1000000
theorem tl_tsz {n : Int} (h : 0 ≤ n) : tl (tsz n) = numL n.toNat := by
  obtain ⟨k, rfl⟩ := Int.eq_ofNat_of_zero_le h
  exact tl_num k
theorem tsz_len {n : Int} (h : 0 ≤ n) (h2 : n < 1000000) : (tsz n).length ≤ 6 := by
  rw [len_tl, tl_tsz h]
  exact numL_len (k := 6) (by decide) (by omega)
theorem tsz_log {n : Int} (h : 0 ≤ n) (h2 : n < 1000000) : n.natAbs.log2 < 1920 := by
  refine log_lt ?_
  have : (1000000 : Nat) ≤ 10 ^ 500 := by decide +kernel
  omega
def pdT (p : Int × Int) : Str := tsz p.1 ++ "." ++ tsz p.2


theorem pdT_len {p : Int × Int} (h : Sm2 p) : (pdT p).length ≤ 13 := by
  obtain ⟨h1, h2, h3, h4⟩ := h
  have a := tsz_len h1 h2
  have b := tsz_len h3 h4
  have c : ("." : Str).length = 1 := rfl
  unfold pdT
  rw [slen, slen]
  omega
theorem dtext_F {p : Int × Int} (h : Sm2 p) : F_dot_text [(0, pdI p)] = .ok (0, .str (pdT p)) [none] := by
  obtain ⟨h1, h2, h3, h4⟩ := h
  have a := tsz_len h1 h2
  have b := tsz_len h3 h4
  have la := tsz_log h1 h2
  have lb := tsz_log h3 h4
  have c : ("." : Str).length = 1 := rfl
  have lim : 500 ≤ LIM := by decide
  have e1 : (Str.ofString (toString p.1)).length ≤ LIM := Nat.le_trans a (by omega)
  have e2 : (Str.ofString (toString p.1) ++ ".").length ≤ LIM := by rw [slen]; have : (Str.ofString (toString p.1)).length ≤ 6 := a; omega
  have e3 : (Str.ofString (toString p.1) ++ "." ++ Str.ofString (toString p.2)).length ≤ LIM := by rw [slen, slen]; have : (Str.ofString (toString p.1)).length ≤ 6 := a; have : (Str.ofString (toString p.2)).length ≤ 6 := b; omega
  unfold F_dot_text b_dot_text
  simp only [e_run, List.length_cons, List.length_nil, if_true, List.map_cons, List.map_nil, List.cons_append, List.nil_append, List.replicate_succ, List.replicate_zero, Nat.reduceSub, Nat.reduceAdd]
  simp only [dSs, dS, den, denV, denR, denC, denO, denG, denJ, denOw, Den.val, BOp.F, COp.F, Bi.F, Me.F, TgA.tgt, bind_ok, bind_exc, bind_bad, opR_some, getR_some, varR_some, e_ixV, ixVR_some, truR_some, boolR_bool, andR_some, orR_some, itR_some, itemsOf, partR_int, e_var, e_varB, e_lit, e_op, e_op2, e_cons, e_nil, e_frz, e_tru, e_bool, e_seq, e_asg, e_expr, e_ret, e_retN, e_and, e_or, e_not, e_andT, e_orT, e_notT, e_if, e_un, e_m1, e_noPart, e_part, e_sl, e_only0, e_chain, chR_bool, e_str, e_jnil, e_jcons, strR_str, e_comp, e_in, e_rng1, e_enum, enR_list, e_next, e_brk, e_cont, e_ifS, e_for, e_par, e_ocons, e_asgT, e_app, e_setL, e_rais, e_cnil, e_cval, e_cown, e_callV, e_callO, callR_some, fresR_ok, fresR_exc, seqR_next, seqR_ret, seqR_exc, seqR_brk, seqR_cont, fin_ret, fin_next, fin_exc, List.getElem?_cons_zero, List.getElem?_cons_succ, List.set_cons_zero, List.set_cons_succ, List.map_cons, List.map_nil, List.nil_append, List.cons_append, List.all_cons, List.all_nil, List.contains_nil, Bool.or_self, Bool.and_self, Bool.or_false, Bool.false_or, Bool.or_true, Bool.true_or, Bool.and_true, Bool.true_and, Bool.and_false, Bool.false_and, Bool.not_true, Bool.not_false, or_true, true_or, and_true, true_and, if_true, if_false, ite_true, ite_false, Bool.false_eq_true, reduceCtorEq, isV, isS, get_nil, get_val, owns_n, owns_v, owns_o, Option.map_some, decide_true, decide_false, tru_bool, tru_list, tru_tup, ix_l, ix_t, int_i, abs_i, add_ii, len_l, len_t, lst_neg, tup_t, List.length_cons, List.length_nil, Nat.zero_add, Nat.reduceAdd, eq_self, setAll_c, setAll_n, setEnts_c, setEnts_n, asgTR_tup, Nat.zero_le, Nat.le_refl, all_of, any_of, wipe_nil, wipe_cons, back_nil, back_cons, backO_some, keep0_none, keep0_val, mul_ii, e_compX, compEnd_ok, compEnd_exc, e_zip, zipK_l, zipK_t, e_rng2, isi_bool, isi_str, isi_tup, isi_int, PyData.isStr, PyData.isTuple, PyData.isInt, PyData.isBool, PyData.plain, eq_ii, ne_ii, lt_ii, le_ii, gt_ii, ge_ii, eq_ss, ne_ss, le_ss, pdI_0, pdI_1, fmt_i, la, lb, emp_app, e1, e2, e3]
  rfl
theorem ldot_F {p : Int × Int} (h : Sm2 p) : F__law_dot [(0, pdI p)] = .ok (0, .str (pdT p)) [none] := by
  obtain ⟨h1, h2, h3, h4⟩ := h
  have a := tsz_len h1 h2
  have b := tsz_len h3 h4
  have la := tsz_log h1 h2
  have lb := tsz_log h3 h4
  have c : ("." : Str).length = 1 := rfl
  have lim : 500 ≤ LIM := by decide
  have e2 : (Str.ofString (toString p.1)).length + ("." : Str).length ≤ LIM := by have : (Str.ofString (toString p.1)).length ≤ 6 := a; omega
  have e3 : (Str.ofString (toString p.1) ++ ".").length + (Str.ofString (toString p.2)).length ≤ LIM := by rw [slen]; have : (Str.ofString (toString p.1)).length ≤ 6 := a; have : (Str.ofString (toString p.2)).length ≤ 6 := b; omega
  unfold F__law_dot b__law_dot
  simp only [e_run, List.length_cons, List.length_nil, if_true, List.map_cons, List.map_nil, List.cons_append, List.nil_append, List.replicate_succ, List.replicate_zero, Nat.reduceSub, Nat.reduceAdd]
  simp only [dSs, dS, den, denV, denR, denC, denO, denG, denJ, denOw, Den.val, BOp.F, COp.F, Bi.F, Me.F, TgA.tgt, bind_ok, bind_exc, bind_bad, opR_some, getR_some, varR_some, e_ixV, ixVR_some, truR_some, boolR_bool, andR_some, orR_some, itR_some, itemsOf, partR_int, e_var, e_varB, e_lit, e_op, e_op2, e_cons, e_nil, e_frz, e_tru, e_bool, e_seq, e_asg, e_expr, e_ret, e_retN, e_and, e_or, e_not, e_andT, e_orT, e_notT, e_if, e_un, e_m1, e_noPart, e_part, e_sl, e_only0, e_chain, chR_bool, e_str, e_jnil, e_jcons, strR_str, e_comp, e_in, e_rng1, e_enum, enR_list, e_next, e_brk, e_cont, e_ifS, e_for, e_par, e_ocons, e_asgT, e_app, e_setL, e_rais, e_cnil, e_cval, e_cown, e_callV, e_callO, callR_some, fresR_ok, fresR_exc, seqR_next, seqR_ret, seqR_exc, seqR_brk, seqR_cont, fin_ret, fin_next, fin_exc, List.getElem?_cons_zero, List.getElem?_cons_succ, List.set_cons_zero, List.set_cons_succ, List.map_cons, List.map_nil, List.nil_append, List.cons_append, List.all_cons, List.all_nil, List.contains_nil, Bool.or_self, Bool.and_self, Bool.or_false, Bool.false_or, Bool.or_true, Bool.true_or, Bool.and_true, Bool.true_and, Bool.and_false, Bool.false_and, Bool.not_true, Bool.not_false, or_true, true_or, and_true, true_and, if_true, if_false, ite_true, ite_false, Bool.false_eq_true, reduceCtorEq, isV, isS, get_nil, get_val, owns_n, owns_v, owns_o, Option.map_some, decide_true, decide_false, tru_bool, tru_list, tru_tup, ix_l, ix_t, int_i, abs_i, add_ii, len_l, len_t, lst_neg, tup_t, List.length_cons, List.length_nil, Nat.zero_add, Nat.reduceAdd, eq_self, setAll_c, setAll_n, setEnts_c, setEnts_n, asgTR_tup, Nat.zero_le, Nat.le_refl, all_of, any_of, wipe_nil, wipe_cons, back_nil, back_cons, backO_some, keep0_none, keep0_val, mul_ii, e_compX, compEnd_ok, compEnd_exc, e_zip, zipK_l, zipK_t, e_rng2, isi_bool, isi_str, isi_tup, isi_int, PyData.isStr, PyData.isTuple, PyData.isInt, PyData.isBool, PyData.plain, eq_ii, ne_ii, lt_ii, le_ii, gt_ii, ge_ii, eq_ss, ne_ss, le_ss, pdI_0, pdI_1, str_i, la, lb, add_ss, e2, e3]
  rfl
end K55
end

section
set_option Elab.async false
set_option linter.all false
set_option maxRecDepth 100000
set_option maxHeartbeats 4000000
namespace K55
open PySem PySem.Spec PyProof.Rows L2 Mb TL
theorem edot : tl ("." : Str) = [46] := rfl
theorem ecom : tl ("," : Str) = [44] := rfl
theorem kdot : ("." : Str).cps.all (· < 256) = true := by decide +kernel
theorem kcom : ("," : Str).cps.all (· < 256) = true := by decide +kernel
theorem int_other {t : Str} {c : Nat} (h : c ∈ tl t) (h1 : c ≠ 45) (h2 : dig c = false) : intOf t = none := by
  unfold intOf okInt
  have : (tl (signsOf t)).all dig = false := by
    rw [List.all_eq_false]
    refine ⟨c, ?_, by rw [h2]; exact Bool.false_ne_true⟩
    rcases signs_cases t with ⟨_, e⟩ | ⟨_, e⟩
    · rw [e] at h
      exact (List.mem_cons.mp h).resolve_left h1
    · rw [e]; exact h
  rw [this]
  simp
def rdDot (t : Str) : Option (Int × Int) := match Txt.split t "." with
  | [a, b] => match intOf a, intOf b with
    | some x, some y => if isD (x, y) = true then some (x, y) else none
    | _, _ => none
  | _ => none
def dotR : Option (Int × Int) → FRes
  | some p => .ok (0, pdI p) [none]
  | none => .exc BF
def dotV : Option (Int × Int) → PyData
  | some p => pdI p
  | none => .none
theorem app_len1 {a b y : Str} {c : Nat} (ey : tl y = [c]) : (a ++ y ++ b).length = a.length + b.length + 1 := by
  have : y.length = 1 := by rw [len_tl, ey]; rfl
  rw [slen, slen]
  omega
theorem tup2 (a b : PyData) : tupD [(0, a), (0, b)] = some (0, .tuple [a, b]) := tupD_of rfl (show 2 ≤ 16777216 by decide)
theorem rdot_F (t : Str) (hl : t.length ≤ 500) : F_read_dot [(0, .str t)] = dotR (rdDot t) := by
  have lim : 500 ≤ LIM := by decide
  have tl1 : t.length ≤ LIM := by omega
  have pt := fun n m => part_of edot n (m := m) tl1
  have d0 : decide ((Str.empty : Str) = "") = true := by decide +kernel
  have d1 : decide (("." : Str) = "") = false := by decide +kernel
  rcases words1 edot kdot t with ⟨h, e1, e2⟩ | ⟨a, b, e, ha, hb, e2, e1⟩ | ⟨a, b, e, ha, hb, e2, e1⟩
  · unfold rdDot
    rw [e1]
    unfold F_read_dot b_read_dot
    simp only [e_run, List.length_cons, List.length_nil, if_true, List.map_cons, List.map_nil, List.cons_append, List.nil_append, List.replicate_succ, List.replicate_zero, Nat.reduceSub, Nat.reduceAdd]
    simp only [dSs, dS, den, denV, denR, denC, denO, denG, denJ, denOw, Den.val, BOp.F, COp.F, Bi.F, Me.F, TgA.tgt, bind_ok, bind_exc, bind_bad, opR_some, getR_some, varR_some, e_ixV, ixVR_some, truR_some, boolR_bool, andR_some, orR_some, itR_some, itemsOf, partR_int, e_var, e_varB, e_lit, e_op, e_op2, e_cons, e_nil, e_frz, e_tru, e_bool, e_seq, e_asg, e_expr, e_ret, e_retN, e_and, e_or, e_not, e_andT, e_orT, e_notT, e_if, e_un, e_m1, e_noPart, e_part, e_sl, e_only0, e_chain, chR_bool, e_str, e_jnil, e_jcons, strR_str, e_comp, e_in, e_rng1, e_enum, enR_list, e_next, e_brk, e_cont, e_ifS, e_for, e_par, e_ocons, e_asgT, e_app, e_setL, e_rais, e_cnil, e_cval, e_cown, e_callV, e_callO, callR_some, fresR_ok, fresR_exc, seqR_next, seqR_ret, seqR_exc, seqR_brk, seqR_cont, fin_ret, fin_next, fin_exc, List.getElem?_cons_zero, List.getElem?_cons_succ, List.set_cons_zero, List.set_cons_succ, List.map_cons, List.map_nil, List.nil_append, List.cons_append, List.all_cons, List.all_nil, List.contains_nil, Bool.or_self, Bool.and_self, Bool.or_false, Bool.false_or, Bool.or_true, Bool.true_or, Bool.and_true, Bool.true_and, Bool.and_false, Bool.false_and, Bool.not_true, Bool.not_false, or_true, true_or, and_true, true_and, if_true, if_false, ite_true, ite_false, Bool.false_eq_true, reduceCtorEq, isV, isS, get_nil, get_val, owns_n, owns_v, owns_o, Option.map_some, decide_true, decide_false, tru_bool, tru_list, tru_tup, ix_l, ix_t, int_i, abs_i, add_ii, len_l, len_t, lst_neg, tup_t, List.length_cons, List.length_nil, Nat.zero_add, Nat.reduceAdd, eq_self, setAll_c, setAll_n, setEnts_c, setEnts_n, asgTR_tup, Nat.zero_le, Nat.le_refl, all_of, any_of, wipe_nil, wipe_cons, back_nil, back_cons, backO_some, keep0_none, keep0_val, mul_ii, e_compX, compEnd_ok, compEnd_exc, e_zip, zipK_l, zipK_t, e_rng2, isi_bool, isi_str, isi_tup, isi_int, PyData.isStr, PyData.isTuple, PyData.isInt, PyData.isBool, PyData.plain, eq_ii, ne_ii, lt_ii, le_ii, gt_ii, ge_ii, eq_ss, ne_ss, le_ss, gf_6_2, gf_6_4, gx_0, pt, e2, d0]
    rw [raisR_some _ _ _ _ (mk0 0)]
    rfl
  · have ln := app_len1 (a := a) (b := b) edot
    rw [← e] at ln
    have fa := int_F a (by omega)
    have fb := int_F b (by omega)
    cases ia : intOf a with
    | none =>
      rw [show rdDot t = none from by unfold rdDot; rw [e1]; simp only [ia]]
      rw [ia] at fa
      have fa : F_integer_in [(0, .str a)] = .exc BF := fa
      unfold F_read_dot b_read_dot
      simp only [e_run, List.length_cons, List.length_nil, if_true, List.map_cons, List.map_nil, List.cons_append, List.nil_append, List.replicate_succ, List.replicate_zero, Nat.reduceSub, Nat.reduceAdd]
      simp only [dSs, dS, den, denV, denR, denC, denO, denG, denJ, denOw, Den.val, BOp.F, COp.F, Bi.F, Me.F, TgA.tgt, bind_ok, bind_exc, bind_bad, opR_some, getR_some, varR_some, e_ixV, ixVR_some, truR_some, boolR_bool, andR_some, orR_some, itR_some, itemsOf, partR_int, e_var, e_varB, e_lit, e_op, e_op2, e_cons, e_nil, e_frz, e_tru, e_bool, e_seq, e_asg, e_expr, e_ret, e_retN, e_and, e_or, e_not, e_andT, e_orT, e_notT, e_if, e_un, e_m1, e_noPart, e_part, e_sl, e_only0, e_chain, chR_bool, e_str, e_jnil, e_jcons, strR_str, e_comp, e_in, e_rng1, e_enum, enR_list, e_next, e_brk, e_cont, e_ifS, e_for, e_par, e_ocons, e_asgT, e_app, e_setL, e_rais, e_cnil, e_cval, e_cown, e_callV, e_callO, callR_some, fresR_ok, fresR_exc, seqR_next, seqR_ret, seqR_exc, seqR_brk, seqR_cont, fin_ret, fin_next, fin_exc, List.getElem?_cons_zero, List.getElem?_cons_succ, List.set_cons_zero, List.set_cons_succ, List.map_cons, List.map_nil, List.nil_append, List.cons_append, List.all_cons, List.all_nil, List.contains_nil, Bool.or_self, Bool.and_self, Bool.or_false, Bool.false_or, Bool.or_true, Bool.true_or, Bool.and_true, Bool.true_and, Bool.and_false, Bool.false_and, Bool.not_true, Bool.not_false, or_true, true_or, and_true, true_and, if_true, if_false, ite_true, ite_false, Bool.false_eq_true, reduceCtorEq, isV, isS, get_nil, get_val, owns_n, owns_v, owns_o, Option.map_some, decide_true, decide_false, tru_bool, tru_list, tru_tup, ix_l, ix_t, int_i, abs_i, add_ii, len_l, len_t, lst_neg, tup_t, List.length_cons, List.length_nil, Nat.zero_add, Nat.reduceAdd, eq_self, setAll_c, setAll_n, setEnts_c, setEnts_n, asgTR_tup, Nat.zero_le, Nat.le_refl, all_of, any_of, wipe_nil, wipe_cons, back_nil, back_cons, backO_some, keep0_none, keep0_val, mul_ii, e_compX, compEnd_ok, compEnd_exc, e_zip, zipK_l, zipK_t, e_rng2, isi_bool, isi_str, isi_tup, isi_int, PyData.isStr, PyData.isTuple, PyData.isInt, PyData.isBool, PyData.plain, eq_ii, ne_ii, lt_ii, le_ii, gt_ii, ge_ii, eq_ss, ne_ss, le_ss, gf_6_2, gf_6_4, gx_0, pt, e2, d1, fa]
      rfl
    | some x =>
      rw [ia] at fa
      have fa : F_integer_in [(0, .str a)] = .ok (0, .int x) [none] := fa
      cases ib : intOf b with
      | none =>
        rw [show rdDot t = none from by unfold rdDot; rw [e1]; simp only [ia, ib]]
        rw [ib] at fb
        have fb : F_integer_in [(0, .str b)] = .exc BF := fb
        unfold F_read_dot b_read_dot
        simp only [e_run, List.length_cons, List.length_nil, if_true, List.map_cons, List.map_nil, List.cons_append, List.nil_append, List.replicate_succ, List.replicate_zero, Nat.reduceSub, Nat.reduceAdd]
        simp only [dSs, dS, den, denV, denR, denC, denO, denG, denJ, denOw, Den.val, BOp.F, COp.F, Bi.F, Me.F, TgA.tgt, bind_ok, bind_exc, bind_bad, opR_some, getR_some, varR_some, e_ixV, ixVR_some, truR_some, boolR_bool, andR_some, orR_some, itR_some, itemsOf, partR_int, e_var, e_varB, e_lit, e_op, e_op2, e_cons, e_nil, e_frz, e_tru, e_bool, e_seq, e_asg, e_expr, e_ret, e_retN, e_and, e_or, e_not, e_andT, e_orT, e_notT, e_if, e_un, e_m1, e_noPart, e_part, e_sl, e_only0, e_chain, chR_bool, e_str, e_jnil, e_jcons, strR_str, e_comp, e_in, e_rng1, e_enum, enR_list, e_next, e_brk, e_cont, e_ifS, e_for, e_par, e_ocons, e_asgT, e_app, e_setL, e_rais, e_cnil, e_cval, e_cown, e_callV, e_callO, callR_some, fresR_ok, fresR_exc, seqR_next, seqR_ret, seqR_exc, seqR_brk, seqR_cont, fin_ret, fin_next, fin_exc, List.getElem?_cons_zero, List.getElem?_cons_succ, List.set_cons_zero, List.set_cons_succ, List.map_cons, List.map_nil, List.nil_append, List.cons_append, List.all_cons, List.all_nil, List.contains_nil, Bool.or_self, Bool.and_self, Bool.or_false, Bool.false_or, Bool.or_true, Bool.true_or, Bool.and_true, Bool.true_and, Bool.and_false, Bool.false_and, Bool.not_true, Bool.not_false, or_true, true_or, and_true, true_and, if_true, if_false, ite_true, ite_false, Bool.false_eq_true, reduceCtorEq, isV, isS, get_nil, get_val, owns_n, owns_v, owns_o, Option.map_some, decide_true, decide_false, tru_bool, tru_list, tru_tup, ix_l, ix_t, int_i, abs_i, add_ii, len_l, len_t, lst_neg, tup_t, List.length_cons, List.length_nil, Nat.zero_add, Nat.reduceAdd, eq_self, setAll_c, setAll_n, setEnts_c, setEnts_n, asgTR_tup, Nat.zero_le, Nat.le_refl, all_of, any_of, wipe_nil, wipe_cons, back_nil, back_cons, backO_some, keep0_none, keep0_val, mul_ii, e_compX, compEnd_ok, compEnd_exc, e_zip, zipK_l, zipK_t, e_rng2, isi_bool, isi_str, isi_tup, isi_int, PyData.isStr, PyData.isTuple, PyData.isInt, PyData.isBool, PyData.plain, eq_ii, ne_ii, lt_ii, le_ii, gt_ii, ge_ii, eq_ss, ne_ss, le_ss, gf_6_2, gf_6_4, gx_0, pt, e2, d1, fa, fb]
        rfl
      | some y =>
        rw [show rdDot t = if isD (x, y) = true then some (x, y) else none from by unfold rdDot; rw [e1]; simp only [ia, ib]]
        rw [ib] at fb
        have fb : F_integer_in [(0, .str b)] = .ok (0, .int y) [none] := fb
        have fd := dot_F (x, y)
        have fd : F_is_dot [(0, .tuple [.int x, .int y])] = .ok (0, .bool (isD (x, y))) [none] := fd
        unfold F_read_dot b_read_dot
        simp only [e_run, List.length_cons, List.length_nil, if_true, List.map_cons, List.map_nil, List.cons_append, List.nil_append, List.replicate_succ, List.replicate_zero, Nat.reduceSub, Nat.reduceAdd]
        simp only [dSs, dS, den, denV, denR, denC, denO, denG, denJ, denOw, Den.val, BOp.F, COp.F, Bi.F, Me.F, TgA.tgt, bind_ok, bind_exc, bind_bad, opR_some, getR_some, varR_some, e_ixV, ixVR_some, truR_some, boolR_bool, andR_some, orR_some, itR_some, itemsOf, partR_int, e_var, e_varB, e_lit, e_op, e_op2, e_cons, e_nil, e_frz, e_tru, e_bool, e_seq, e_asg, e_expr, e_ret, e_retN, e_and, e_or, e_not, e_andT, e_orT, e_notT, e_if, e_un, e_m1, e_noPart, e_part, e_sl, e_only0, e_chain, chR_bool, e_str, e_jnil, e_jcons, strR_str, e_comp, e_in, e_rng1, e_enum, enR_list, e_next, e_brk, e_cont, e_ifS, e_for, e_par, e_ocons, e_asgT, e_app, e_setL, e_rais, e_cnil, e_cval, e_cown, e_callV, e_callO, callR_some, fresR_ok, fresR_exc, seqR_next, seqR_ret, seqR_exc, seqR_brk, seqR_cont, fin_ret, fin_next, fin_exc, List.getElem?_cons_zero, List.getElem?_cons_succ, List.set_cons_zero, List.set_cons_succ, List.map_cons, List.map_nil, List.nil_append, List.cons_append, List.all_cons, List.all_nil, List.contains_nil, Bool.or_self, Bool.and_self, Bool.or_false, Bool.false_or, Bool.or_true, Bool.true_or, Bool.and_true, Bool.true_and, Bool.and_false, Bool.false_and, Bool.not_true, Bool.not_false, or_true, true_or, and_true, true_and, if_true, if_false, ite_true, ite_false, Bool.false_eq_true, reduceCtorEq, isV, isS, get_nil, get_val, owns_n, owns_v, owns_o, Option.map_some, decide_true, decide_false, tru_bool, tru_list, tru_tup, ix_l, ix_t, int_i, abs_i, add_ii, len_l, len_t, lst_neg, tup_t, List.length_cons, List.length_nil, Nat.zero_add, Nat.reduceAdd, eq_self, setAll_c, setAll_n, setEnts_c, setEnts_n, asgTR_tup, Nat.zero_le, Nat.le_refl, all_of, any_of, wipe_nil, wipe_cons, back_nil, back_cons, backO_some, keep0_none, keep0_val, mul_ii, e_compX, compEnd_ok, compEnd_exc, e_zip, zipK_l, zipK_t, e_rng2, isi_bool, isi_str, isi_tup, isi_int, PyData.isStr, PyData.isTuple, PyData.isInt, PyData.isBool, PyData.plain, eq_ii, ne_ii, lt_ii, le_ii, gt_ii, ge_ii, eq_ss, ne_ss, le_ss, gf_6_2, gf_6_4, gx_0, pt, e2, d1, fa, fb, tup2, fd]
        cases isD (x, y) with
        | true =>
          simp only [dSs, dS, den, denV, denR, denC, denO, denG, denJ, denOw, Den.val, BOp.F, COp.F, Bi.F, Me.F, TgA.tgt, bind_ok, bind_exc, bind_bad, opR_some, getR_some, varR_some, e_ixV, ixVR_some, truR_some, boolR_bool, andR_some, orR_some, itR_some, itemsOf, partR_int, e_var, e_varB, e_lit, e_op, e_op2, e_cons, e_nil, e_frz, e_tru, e_bool, e_seq, e_asg, e_expr, e_ret, e_retN, e_and, e_or, e_not, e_andT, e_orT, e_notT, e_if, e_un, e_m1, e_noPart, e_part, e_sl, e_only0, e_chain, chR_bool, e_str, e_jnil, e_jcons, strR_str, e_comp, e_in, e_rng1, e_enum, enR_list, e_next, e_brk, e_cont, e_ifS, e_for, e_par, e_ocons, e_asgT, e_app, e_setL, e_rais, e_cnil, e_cval, e_cown, e_callV, e_callO, callR_some, fresR_ok, fresR_exc, seqR_next, seqR_ret, seqR_exc, seqR_brk, seqR_cont, fin_ret, fin_next, fin_exc, List.getElem?_cons_zero, List.getElem?_cons_succ, List.set_cons_zero, List.set_cons_succ, List.map_cons, List.map_nil, List.nil_append, List.cons_append, List.all_cons, List.all_nil, List.contains_nil, Bool.or_self, Bool.and_self, Bool.or_false, Bool.false_or, Bool.or_true, Bool.true_or, Bool.and_true, Bool.true_and, Bool.and_false, Bool.false_and, Bool.not_true, Bool.not_false, or_true, true_or, and_true, true_and, if_true, if_false, ite_true, ite_false, Bool.false_eq_true, reduceCtorEq, isV, isS, get_nil, get_val, owns_n, owns_v, owns_o, Option.map_some, decide_true, decide_false, tru_bool, tru_list, tru_tup, ix_l, ix_t, int_i, abs_i, add_ii, len_l, len_t, lst_neg, tup_t, List.length_cons, List.length_nil, Nat.zero_add, Nat.reduceAdd, eq_self, setAll_c, setAll_n, setEnts_c, setEnts_n, asgTR_tup, Nat.zero_le, Nat.le_refl, all_of, any_of, wipe_nil, wipe_cons, back_nil, back_cons, backO_some, keep0_none, keep0_val, mul_ii, e_compX, compEnd_ok, compEnd_exc, e_zip, zipK_l, zipK_t, e_rng2, isi_bool, isi_str, isi_tup, isi_int, PyData.isStr, PyData.isTuple, PyData.isInt, PyData.isBool, PyData.plain, eq_ii, ne_ii, lt_ii, le_ii, gt_ii, ge_ii, eq_ss, ne_ss, le_ss, gf_6_2, gf_6_4, gx_0]
          rfl
        | false =>
          simp only [dSs, dS, den, denV, denR, denC, denO, denG, denJ, denOw, Den.val, BOp.F, COp.F, Bi.F, Me.F, TgA.tgt, bind_ok, bind_exc, bind_bad, opR_some, getR_some, varR_some, e_ixV, ixVR_some, truR_some, boolR_bool, andR_some, orR_some, itR_some, itemsOf, partR_int, e_var, e_varB, e_lit, e_op, e_op2, e_cons, e_nil, e_frz, e_tru, e_bool, e_seq, e_asg, e_expr, e_ret, e_retN, e_and, e_or, e_not, e_andT, e_orT, e_notT, e_if, e_un, e_m1, e_noPart, e_part, e_sl, e_only0, e_chain, chR_bool, e_str, e_jnil, e_jcons, strR_str, e_comp, e_in, e_rng1, e_enum, enR_list, e_next, e_brk, e_cont, e_ifS, e_for, e_par, e_ocons, e_asgT, e_app, e_setL, e_rais, e_cnil, e_cval, e_cown, e_callV, e_callO, callR_some, fresR_ok, fresR_exc, seqR_next, seqR_ret, seqR_exc, seqR_brk, seqR_cont, fin_ret, fin_next, fin_exc, List.getElem?_cons_zero, List.getElem?_cons_succ, List.set_cons_zero, List.set_cons_succ, List.map_cons, List.map_nil, List.nil_append, List.cons_append, List.all_cons, List.all_nil, List.contains_nil, Bool.or_self, Bool.and_self, Bool.or_false, Bool.false_or, Bool.or_true, Bool.true_or, Bool.and_true, Bool.true_and, Bool.and_false, Bool.false_and, Bool.not_true, Bool.not_false, or_true, true_or, and_true, true_and, if_true, if_false, ite_true, ite_false, Bool.false_eq_true, reduceCtorEq, isV, isS, get_nil, get_val, owns_n, owns_v, owns_o, Option.map_some, decide_true, decide_false, tru_bool, tru_list, tru_tup, ix_l, ix_t, int_i, abs_i, add_ii, len_l, len_t, lst_neg, tup_t, List.length_cons, List.length_nil, Nat.zero_add, Nat.reduceAdd, eq_self, setAll_c, setAll_n, setEnts_c, setEnts_n, asgTR_tup, Nat.zero_le, Nat.le_refl, all_of, any_of, wipe_nil, wipe_cons, back_nil, back_cons, backO_some, keep0_none, keep0_val, mul_ii, e_compX, compEnd_ok, compEnd_exc, e_zip, zipK_l, zipK_t, e_rng2, isi_bool, isi_str, isi_tup, isi_int, PyData.isStr, PyData.isTuple, PyData.isInt, PyData.isBool, PyData.plain, eq_ii, ne_ii, lt_ii, le_ii, gt_ii, ge_ii, eq_ss, ne_ss, le_ss, gf_6_2, gf_6_4, gx_0]
          rw [raisR_some _ _ _ _ (mk0 0)]
          rfl
  · have ln := app_len1 (a := a) (b := b) edot
    rw [← e] at ln
    have fa := int_F a (by omega)
    have fb := int_F b (by omega)
    rw [int_other hb (by decide) (by decide +kernel)] at fb
    have fb : F_integer_in [(0, .str b)] = .exc BF := fb
    have no : rdDot t = none := by
      unfold rdDot
      generalize Txt.split t "." = ws at e1
      match ws, e1 with
      | _ :: _ :: _ :: _, _ => rfl
    rw [no]
    cases ia : intOf a with
    | none =>
      rw [ia] at fa
      have fa : F_integer_in [(0, .str a)] = .exc BF := fa
      unfold F_read_dot b_read_dot
      simp only [e_run, List.length_cons, List.length_nil, if_true, List.map_cons, List.map_nil, List.cons_append, List.nil_append, List.replicate_succ, List.replicate_zero, Nat.reduceSub, Nat.reduceAdd]
      simp only [dSs, dS, den, denV, denR, denC, denO, denG, denJ, denOw, Den.val, BOp.F, COp.F, Bi.F, Me.F, TgA.tgt, bind_ok, bind_exc, bind_bad, opR_some, getR_some, varR_some, e_ixV, ixVR_some, truR_some, boolR_bool, andR_some, orR_some, itR_some, itemsOf, partR_int, e_var, e_varB, e_lit, e_op, e_op2, e_cons, e_nil, e_frz, e_tru, e_bool, e_seq, e_asg, e_expr, e_ret, e_retN, e_and, e_or, e_not, e_andT, e_orT, e_notT, e_if, e_un, e_m1, e_noPart, e_part, e_sl, e_only0, e_chain, chR_bool, e_str, e_jnil, e_jcons, strR_str, e_comp, e_in, e_rng1, e_enum, enR_list, e_next, e_brk, e_cont, e_ifS, e_for, e_par, e_ocons, e_asgT, e_app, e_setL, e_rais, e_cnil, e_cval, e_cown, e_callV, e_callO, callR_some, fresR_ok, fresR_exc, seqR_next, seqR_ret, seqR_exc, seqR_brk, seqR_cont, fin_ret, fin_next, fin_exc, List.getElem?_cons_zero, List.getElem?_cons_succ, List.set_cons_zero, List.set_cons_succ, List.map_cons, List.map_nil, List.nil_append, List.cons_append, List.all_cons, List.all_nil, List.contains_nil, Bool.or_self, Bool.and_self, Bool.or_false, Bool.false_or, Bool.or_true, Bool.true_or, Bool.and_true, Bool.true_and, Bool.and_false, Bool.false_and, Bool.not_true, Bool.not_false, or_true, true_or, and_true, true_and, if_true, if_false, ite_true, ite_false, Bool.false_eq_true, reduceCtorEq, isV, isS, get_nil, get_val, owns_n, owns_v, owns_o, Option.map_some, decide_true, decide_false, tru_bool, tru_list, tru_tup, ix_l, ix_t, int_i, abs_i, add_ii, len_l, len_t, lst_neg, tup_t, List.length_cons, List.length_nil, Nat.zero_add, Nat.reduceAdd, eq_self, setAll_c, setAll_n, setEnts_c, setEnts_n, asgTR_tup, Nat.zero_le, Nat.le_refl, all_of, any_of, wipe_nil, wipe_cons, back_nil, back_cons, backO_some, keep0_none, keep0_val, mul_ii, e_compX, compEnd_ok, compEnd_exc, e_zip, zipK_l, zipK_t, e_rng2, isi_bool, isi_str, isi_tup, isi_int, PyData.isStr, PyData.isTuple, PyData.isInt, PyData.isBool, PyData.plain, eq_ii, ne_ii, lt_ii, le_ii, gt_ii, ge_ii, eq_ss, ne_ss, le_ss, gf_6_2, gf_6_4, gx_0, pt, e2, d1, fa]
      rfl
    | some x =>
      rw [ia] at fa
      have fa : F_integer_in [(0, .str a)] = .ok (0, .int x) [none] := fa
      unfold F_read_dot b_read_dot
      simp only [e_run, List.length_cons, List.length_nil, if_true, List.map_cons, List.map_nil, List.cons_append, List.nil_append, List.replicate_succ, List.replicate_zero, Nat.reduceSub, Nat.reduceAdd]
      simp only [dSs, dS, den, denV, denR, denC, denO, denG, denJ, denOw, Den.val, BOp.F, COp.F, Bi.F, Me.F, TgA.tgt, bind_ok, bind_exc, bind_bad, opR_some, getR_some, varR_some, e_ixV, ixVR_some, truR_some, boolR_bool, andR_some, orR_some, itR_some, itemsOf, partR_int, e_var, e_varB, e_lit, e_op, e_op2, e_cons, e_nil, e_frz, e_tru, e_bool, e_seq, e_asg, e_expr, e_ret, e_retN, e_and, e_or, e_not, e_andT, e_orT, e_notT, e_if, e_un, e_m1, e_noPart, e_part, e_sl, e_only0, e_chain, chR_bool, e_str, e_jnil, e_jcons, strR_str, e_comp, e_in, e_rng1, e_enum, enR_list, e_next, e_brk, e_cont, e_ifS, e_for, e_par, e_ocons, e_asgT, e_app, e_setL, e_rais, e_cnil, e_cval, e_cown, e_callV, e_callO, callR_some, fresR_ok, fresR_exc, seqR_next, seqR_ret, seqR_exc, seqR_brk, seqR_cont, fin_ret, fin_next, fin_exc, List.getElem?_cons_zero, List.getElem?_cons_succ, List.set_cons_zero, List.set_cons_succ, List.map_cons, List.map_nil, List.nil_append, List.cons_append, List.all_cons, List.all_nil, List.contains_nil, Bool.or_self, Bool.and_self, Bool.or_false, Bool.false_or, Bool.or_true, Bool.true_or, Bool.and_true, Bool.true_and, Bool.and_false, Bool.false_and, Bool.not_true, Bool.not_false, or_true, true_or, and_true, true_and, if_true, if_false, ite_true, ite_false, Bool.false_eq_true, reduceCtorEq, isV, isS, get_nil, get_val, owns_n, owns_v, owns_o, Option.map_some, decide_true, decide_false, tru_bool, tru_list, tru_tup, ix_l, ix_t, int_i, abs_i, add_ii, len_l, len_t, lst_neg, tup_t, List.length_cons, List.length_nil, Nat.zero_add, Nat.reduceAdd, eq_self, setAll_c, setAll_n, setEnts_c, setEnts_n, asgTR_tup, Nat.zero_le, Nat.le_refl, all_of, any_of, wipe_nil, wipe_cons, back_nil, back_cons, backO_some, keep0_none, keep0_val, mul_ii, e_compX, compEnd_ok, compEnd_exc, e_zip, zipK_l, zipK_t, e_rng2, isi_bool, isi_str, isi_tup, isi_int, PyData.isStr, PyData.isTuple, PyData.isInt, PyData.isBool, PyData.plain, eq_ii, ne_ii, lt_ii, le_ii, gt_ii, ge_ii, eq_ss, ne_ss, le_ss, gf_6_2, gf_6_4, gx_0, pt, e2, d1, fa, fb]
      rfl
end K55
end

section
set_option Elab.async false
set_option linter.all false
set_option maxRecDepth 100000
set_option maxHeartbeats 4000000
namespace K55
open PySem PySem.Spec PyProof.Rows L2 Mb TL
theorem optI_some (n : Int) : optI (some n) = .int n := rfl
theorem optI_none : optI none = .none := rfl
theorem c2 : ((2 : Nat) : Int) = 2 := rfl
theorem nin_ii (n m : Nat) (x y : Int) : inF true [(n, .none), (m, .tuple [.int x, .int y])] = some (0, .bool true) := rfl
theorem nin2 (n m : Nat) (x y : Option Int) : inF true [(n, .none), (m, .tuple [optI x, optI y])] = some (0, .bool (x.isSome && y.isSome)) := by
  cases x <;> cases y <;> rfl
theorem dotin_F (t : Str) (hl : t.length ≤ 500) : F__law_dot_in [(0, .str t)] = .ok (0, dotV (rdDot t)) [none] := by
  have lim : 1000 ≤ LIM := by decide
  have tl2 : t.length + 2 ≤ LIM := by omega
  have sp := fun n m => split_of edot n (m := m) tl2
  obtain ⟨l1, l2, l3⟩ := pieces_len edot kdot t
  have cs : ∀ (ε : Ev) (vs : List Nat) (tg : Tgt) (f : Ev → Res (Ent × Ev)), (∀ w ∈ Txt.split t ".", ∃ ε1, tg.put (.str w) ε = some ε1 ∧ (∃ n, f ε1 = .ok ((n, optI (intOf w)), ε1)) ∧ wipeE ε1 vs = ε) → cLoop vs tg fTrue f ((Txt.split t ".").map PyData.str) ε [] = .ok ((Txt.split t ".").map fun w => optI (intOf w), ε) :=
    fun ε vs tg f h => comp_all PyData.str (fun w => optI (intOf w)) (Txt.split t ".") (by omega) h
  unfold F__law_dot_in b__law_dot_in
  simp only [e_run, List.length_cons, List.length_nil, if_true, List.map_cons, List.map_nil, List.cons_append, List.nil_append, List.replicate_succ, List.replicate_zero, Nat.reduceSub, Nat.reduceAdd]
  simp only [dSs, dS, den, denV, denR, denC, denO, denG, denJ, denOw, Den.val, BOp.F, COp.F, Bi.F, Me.F, TgA.tgt, bind_ok, bind_exc, bind_bad, opR_some, getR_some, varR_some, e_ixV, ixVR_some, truR_some, boolR_bool, andR_some, orR_some, itR_some, itemsOf, partR_int, e_var, e_varB, e_lit, e_op, e_op2, e_cons, e_nil, e_frz, e_tru, e_bool, e_seq, e_asg, e_expr, e_ret, e_retN, e_and, e_or, e_not, e_andT, e_orT, e_notT, e_if, e_un, e_m1, e_noPart, e_part, e_sl, e_only0, e_chain, chR_bool, e_str, e_jnil, e_jcons, strR_str, e_comp, e_in, e_rng1, e_enum, enR_list, e_next, e_brk, e_cont, e_ifS, e_for, e_par, e_ocons, e_asgT, e_app, e_setL, e_rais, e_cnil, e_cval, e_cown, e_callV, e_callO, callR_some, fresR_ok, fresR_exc, seqR_next, seqR_ret, seqR_exc, seqR_brk, seqR_cont, fin_ret, fin_next, fin_exc, List.getElem?_cons_zero, List.getElem?_cons_succ, List.set_cons_zero, List.set_cons_succ, List.map_cons, List.map_nil, List.nil_append, List.cons_append, List.all_cons, List.all_nil, List.contains_nil, Bool.or_self, Bool.and_self, Bool.or_false, Bool.false_or, Bool.or_true, Bool.true_or, Bool.and_true, Bool.true_and, Bool.and_false, Bool.false_and, Bool.not_true, Bool.not_false, or_true, true_or, and_true, true_and, if_true, if_false, ite_true, ite_false, Bool.false_eq_true, reduceCtorEq, isV, isS, get_nil, get_val, owns_n, owns_v, owns_o, Option.map_some, decide_true, decide_false, tru_bool, tru_list, tru_tup, ix_l, ix_t, int_i, abs_i, add_ii, len_l, len_t, lst_neg, tup_t, tup_l, List.length_cons, List.length_nil, Nat.zero_add, Nat.reduceAdd, eq_self, setAll_c, setAll_n, setEnts_c, setEnts_n, asgTR_tup, Nat.zero_le, Nat.le_refl, all_of, any_of, wipe_nil, wipe_cons, back_nil, back_cons, backO_some, keep0_none, keep0_val, mul_ii, e_compX, compEnd_ok, compEnd_exc, e_zip, zipK_l, zipK_t, e_rng2, isi_bool, isi_str, isi_tup, isi_int, PyData.isStr, PyData.isTuple, PyData.isInt, PyData.isBool, PyData.plain, eq_ii, ne_ii, lt_ii, le_ii, gt_ii, ge_ii, eq_ss, ne_ss, le_ss, gf_18_17, sp]
  rw [cs]
  · unfold rdDot
    generalize Txt.split t "." = ws at l2 l3
    match ws, l2, l3 with
    | [w], _, _ =>
      simp only [dSs, dS, den, denV, denR, denC, denO, denG, denJ, denOw, Den.val, BOp.F, COp.F, Bi.F, Me.F, TgA.tgt, bind_ok, bind_exc, bind_bad, opR_some, getR_some, varR_some, e_ixV, ixVR_some, truR_some, boolR_bool, andR_some, orR_some, itR_some, itemsOf, partR_int, e_var, e_varB, e_lit, e_op, e_op2, e_cons, e_nil, e_frz, e_tru, e_bool, e_seq, e_asg, e_expr, e_ret, e_retN, e_and, e_or, e_not, e_andT, e_orT, e_notT, e_if, e_un, e_m1, e_noPart, e_part, e_sl, e_only0, e_chain, chR_bool, e_str, e_jnil, e_jcons, strR_str, e_comp, e_in, e_rng1, e_enum, enR_list, e_next, e_brk, e_cont, e_ifS, e_for, e_par, e_ocons, e_asgT, e_app, e_setL, e_rais, e_cnil, e_cval, e_cown, e_callV, e_callO, callR_some, fresR_ok, fresR_exc, seqR_next, seqR_ret, seqR_exc, seqR_brk, seqR_cont, fin_ret, fin_next, fin_exc, List.getElem?_cons_zero, List.getElem?_cons_succ, List.set_cons_zero, List.set_cons_succ, List.map_cons, List.map_nil, List.nil_append, List.cons_append, List.all_cons, List.all_nil, List.contains_nil, Bool.or_self, Bool.and_self, Bool.or_false, Bool.false_or, Bool.or_true, Bool.true_or, Bool.and_true, Bool.true_and, Bool.and_false, Bool.false_and, Bool.not_true, Bool.not_false, or_true, true_or, and_true, true_and, if_true, if_false, ite_true, ite_false, Bool.false_eq_true, reduceCtorEq, isV, isS, get_nil, get_val, owns_n, owns_v, owns_o, Option.map_some, decide_true, decide_false, tru_bool, tru_list, tru_tup, ix_l, ix_t, int_i, abs_i, add_ii, len_l, len_t, lst_neg, tup_t, tup_l, List.length_cons, List.length_nil, Nat.zero_add, Nat.reduceAdd, eq_self, setAll_c, setAll_n, setEnts_c, setEnts_n, asgTR_tup, Nat.zero_le, Nat.le_refl, all_of, any_of, wipe_nil, wipe_cons, back_nil, back_cons, backO_some, keep0_none, keep0_val, mul_ii, e_compX, compEnd_ok, compEnd_exc, e_zip, zipK_l, zipK_t, e_rng2, isi_bool, isi_str, isi_tup, isi_int, PyData.isStr, PyData.isTuple, PyData.isInt, PyData.isBool, PyData.plain, eq_ii, ne_ii, lt_ii, le_ii, gt_ii, ge_ii, eq_ss, ne_ss, le_ss, len_t]
      rfl
    | [a, b], l2, _ =>
      simp only [dSs, dS, den, denV, denR, denC, denO, denG, denJ, denOw, Den.val, BOp.F, COp.F, Bi.F, Me.F, TgA.tgt, bind_ok, bind_exc, bind_bad, opR_some, getR_some, varR_some, e_ixV, ixVR_some, truR_some, boolR_bool, andR_some, orR_some, itR_some, itemsOf, partR_int, e_var, e_varB, e_lit, e_op, e_op2, e_cons, e_nil, e_frz, e_tru, e_bool, e_seq, e_asg, e_expr, e_ret, e_retN, e_and, e_or, e_not, e_andT, e_orT, e_notT, e_if, e_un, e_m1, e_noPart, e_part, e_sl, e_only0, e_chain, chR_bool, e_str, e_jnil, e_jcons, strR_str, e_comp, e_in, e_rng1, e_enum, enR_list, e_next, e_brk, e_cont, e_ifS, e_for, e_par, e_ocons, e_asgT, e_app, e_setL, e_rais, e_cnil, e_cval, e_cown, e_callV, e_callO, callR_some, fresR_ok, fresR_exc, seqR_next, seqR_ret, seqR_exc, seqR_brk, seqR_cont, fin_ret, fin_next, fin_exc, List.getElem?_cons_zero, List.getElem?_cons_succ, List.set_cons_zero, List.set_cons_succ, List.map_cons, List.map_nil, List.nil_append, List.cons_append, List.all_cons, List.all_nil, List.contains_nil, Bool.or_self, Bool.and_self, Bool.or_false, Bool.false_or, Bool.or_true, Bool.true_or, Bool.and_true, Bool.true_and, Bool.and_false, Bool.false_and, Bool.not_true, Bool.not_false, or_true, true_or, and_true, true_and, if_true, if_false, ite_true, ite_false, Bool.false_eq_true, reduceCtorEq, isV, isS, get_nil, get_val, owns_n, owns_v, owns_o, Option.map_some, decide_true, decide_false, tru_bool, tru_list, tru_tup, ix_l, ix_t, int_i, abs_i, add_ii, len_l, len_t, lst_neg, tup_t, tup_l, List.length_cons, List.length_nil, Nat.zero_add, Nat.reduceAdd, eq_self, setAll_c, setAll_n, setEnts_c, setEnts_n, asgTR_tup, Nat.zero_le, Nat.le_refl, all_of, any_of, wipe_nil, wipe_cons, back_nil, back_cons, backO_some, keep0_none, keep0_val, mul_ii, e_compX, compEnd_ok, compEnd_exc, e_zip, zipK_l, zipK_t, e_rng2, isi_bool, isi_str, isi_tup, isi_int, PyData.isStr, PyData.isTuple, PyData.isInt, PyData.isBool, PyData.plain, eq_ii, ne_ii, lt_ii, le_ii, gt_ii, ge_ii, eq_ss, ne_ss, le_ss, len_t]
      cases ia : intOf a with
      | none =>
        simp only [dSs, dS, den, denV, denR, denC, denO, denG, denJ, denOw, Den.val, BOp.F, COp.F, Bi.F, Me.F, TgA.tgt, bind_ok, bind_exc, bind_bad, opR_some, getR_some, varR_some, e_ixV, ixVR_some, truR_some, boolR_bool, andR_some, orR_some, itR_some, itemsOf, partR_int, e_var, e_varB, e_lit, e_op, e_op2, e_cons, e_nil, e_frz, e_tru, e_bool, e_seq, e_asg, e_expr, e_ret, e_retN, e_and, e_or, e_not, e_andT, e_orT, e_notT, e_if, e_un, e_m1, e_noPart, e_part, e_sl, e_only0, e_chain, chR_bool, e_str, e_jnil, e_jcons, strR_str, e_comp, e_in, e_rng1, e_enum, enR_list, e_next, e_brk, e_cont, e_ifS, e_for, e_par, e_ocons, e_asgT, e_app, e_setL, e_rais, e_cnil, e_cval, e_cown, e_callV, e_callO, callR_some, fresR_ok, fresR_exc, seqR_next, seqR_ret, seqR_exc, seqR_brk, seqR_cont, fin_ret, fin_next, fin_exc, List.getElem?_cons_zero, List.getElem?_cons_succ, List.set_cons_zero, List.set_cons_succ, List.map_cons, List.map_nil, List.nil_append, List.cons_append, List.all_cons, List.all_nil, List.contains_nil, Bool.or_self, Bool.and_self, Bool.or_false, Bool.false_or, Bool.or_true, Bool.true_or, Bool.and_true, Bool.true_and, Bool.and_false, Bool.false_and, Bool.not_true, Bool.not_false, or_true, true_or, and_true, true_and, if_true, if_false, ite_true, ite_false, Bool.false_eq_true, reduceCtorEq, isV, isS, get_nil, get_val, owns_n, owns_v, owns_o, Option.map_some, decide_true, decide_false, tru_bool, tru_list, tru_tup, ix_l, ix_t, int_i, abs_i, add_ii, len_l, len_t, lst_neg, tup_t, tup_l, List.length_cons, List.length_nil, Nat.zero_add, Nat.reduceAdd, eq_self, setAll_c, setAll_n, setEnts_c, setEnts_n, asgTR_tup, Nat.zero_le, Nat.le_refl, all_of, any_of, wipe_nil, wipe_cons, back_nil, back_cons, backO_some, keep0_none, keep0_val, mul_ii, e_compX, compEnd_ok, compEnd_exc, e_zip, zipK_l, zipK_t, e_rng2, isi_bool, isi_str, isi_tup, isi_int, PyData.isStr, PyData.isTuple, PyData.isInt, PyData.isBool, PyData.plain, eq_ii, ne_ii, lt_ii, le_ii, gt_ii, ge_ii, eq_ss, ne_ss, le_ss, len_t, c2, nin2, Option.isSome_none]
        rfl
      | some x =>
        cases ib : intOf b with
        | none =>
          simp only [dSs, dS, den, denV, denR, denC, denO, denG, denJ, denOw, Den.val, BOp.F, COp.F, Bi.F, Me.F, TgA.tgt, bind_ok, bind_exc, bind_bad, opR_some, getR_some, varR_some, e_ixV, ixVR_some, truR_some, boolR_bool, andR_some, orR_some, itR_some, itemsOf, partR_int, e_var, e_varB, e_lit, e_op, e_op2, e_cons, e_nil, e_frz, e_tru, e_bool, e_seq, e_asg, e_expr, e_ret, e_retN, e_and, e_or, e_not, e_andT, e_orT, e_notT, e_if, e_un, e_m1, e_noPart, e_part, e_sl, e_only0, e_chain, chR_bool, e_str, e_jnil, e_jcons, strR_str, e_comp, e_in, e_rng1, e_enum, enR_list, e_next, e_brk, e_cont, e_ifS, e_for, e_par, e_ocons, e_asgT, e_app, e_setL, e_rais, e_cnil, e_cval, e_cown, e_callV, e_callO, callR_some, fresR_ok, fresR_exc, seqR_next, seqR_ret, seqR_exc, seqR_brk, seqR_cont, fin_ret, fin_next, fin_exc, List.getElem?_cons_zero, List.getElem?_cons_succ, List.set_cons_zero, List.set_cons_succ, List.map_cons, List.map_nil, List.nil_append, List.cons_append, List.all_cons, List.all_nil, List.contains_nil, Bool.or_self, Bool.and_self, Bool.or_false, Bool.false_or, Bool.or_true, Bool.true_or, Bool.and_true, Bool.true_and, Bool.and_false, Bool.false_and, Bool.not_true, Bool.not_false, or_true, true_or, and_true, true_and, if_true, if_false, ite_true, ite_false, Bool.false_eq_true, reduceCtorEq, isV, isS, get_nil, get_val, owns_n, owns_v, owns_o, Option.map_some, decide_true, decide_false, tru_bool, tru_list, tru_tup, ix_l, ix_t, int_i, abs_i, add_ii, len_l, len_t, lst_neg, tup_t, tup_l, List.length_cons, List.length_nil, Nat.zero_add, Nat.reduceAdd, eq_self, setAll_c, setAll_n, setEnts_c, setEnts_n, asgTR_tup, Nat.zero_le, Nat.le_refl, all_of, any_of, wipe_nil, wipe_cons, back_nil, back_cons, backO_some, keep0_none, keep0_val, mul_ii, e_compX, compEnd_ok, compEnd_exc, e_zip, zipK_l, zipK_t, e_rng2, isi_bool, isi_str, isi_tup, isi_int, PyData.isStr, PyData.isTuple, PyData.isInt, PyData.isBool, PyData.plain, eq_ii, ne_ii, lt_ii, le_ii, gt_ii, ge_ii, eq_ss, ne_ss, le_ss, len_t, c2, nin2, Option.isSome_none, Option.isSome_some]
          rfl
        | some y =>
          simp only [dSs, dS, den, denV, denR, denC, denO, denG, denJ, denOw, Den.val, BOp.F, COp.F, Bi.F, Me.F, TgA.tgt, bind_ok, bind_exc, bind_bad, opR_some, getR_some, varR_some, e_ixV, ixVR_some, truR_some, boolR_bool, andR_some, orR_some, itR_some, itemsOf, partR_int, e_var, e_varB, e_lit, e_op, e_op2, e_cons, e_nil, e_frz, e_tru, e_bool, e_seq, e_asg, e_expr, e_ret, e_retN, e_and, e_or, e_not, e_andT, e_orT, e_notT, e_if, e_un, e_m1, e_noPart, e_part, e_sl, e_only0, e_chain, chR_bool, e_str, e_jnil, e_jcons, strR_str, e_comp, e_in, e_rng1, e_enum, enR_list, e_next, e_brk, e_cont, e_ifS, e_for, e_par, e_ocons, e_asgT, e_app, e_setL, e_rais, e_cnil, e_cval, e_cown, e_callV, e_callO, callR_some, fresR_ok, fresR_exc, seqR_next, seqR_ret, seqR_exc, seqR_brk, seqR_cont, fin_ret, fin_next, fin_exc, List.getElem?_cons_zero, List.getElem?_cons_succ, List.set_cons_zero, List.set_cons_succ, List.map_cons, List.map_nil, List.nil_append, List.cons_append, List.all_cons, List.all_nil, List.contains_nil, Bool.or_self, Bool.and_self, Bool.or_false, Bool.false_or, Bool.or_true, Bool.true_or, Bool.and_true, Bool.true_and, Bool.and_false, Bool.false_and, Bool.not_true, Bool.not_false, or_true, true_or, and_true, true_and, if_true, if_false, ite_true, ite_false, Bool.false_eq_true, reduceCtorEq, isV, isS, get_nil, get_val, owns_n, owns_v, owns_o, Option.map_some, decide_true, decide_false, tru_bool, tru_list, tru_tup, ix_l, ix_t, int_i, abs_i, add_ii, len_l, len_t, lst_neg, tup_t, tup_l, List.length_cons, List.length_nil, Nat.zero_add, Nat.reduceAdd, eq_self, setAll_c, setAll_n, setEnts_c, setEnts_n, asgTR_tup, Nat.zero_le, Nat.le_refl, all_of, any_of, wipe_nil, wipe_cons, back_nil, back_cons, backO_some, keep0_none, keep0_val, mul_ii, e_compX, compEnd_ok, compEnd_exc, e_zip, zipK_l, zipK_t, e_rng2, isi_bool, isi_str, isi_tup, isi_int, PyData.isStr, PyData.isTuple, PyData.isInt, PyData.isBool, PyData.plain, eq_ii, ne_ii, lt_ii, le_ii, gt_ii, ge_ii, eq_ss, ne_ss, le_ss, len_t, c2, nin_ii, ix_t, at_0, at_1, optI_some]
          have un : isD (x, y) = ((decide (0 ≤ x) && decide (x ≤ 7)) && decide (1 ≤ y)) := rfl
          rw [un]
          cases decide (0 ≤ x) with
          | false =>
            simp only [dSs, dS, den, denV, denR, denC, denO, denG, denJ, denOw, Den.val, BOp.F, COp.F, Bi.F, Me.F, TgA.tgt, bind_ok, bind_exc, bind_bad, opR_some, getR_some, varR_some, e_ixV, ixVR_some, truR_some, boolR_bool, andR_some, orR_some, itR_some, itemsOf, partR_int, e_var, e_varB, e_lit, e_op, e_op2, e_cons, e_nil, e_frz, e_tru, e_bool, e_seq, e_asg, e_expr, e_ret, e_retN, e_and, e_or, e_not, e_andT, e_orT, e_notT, e_if, e_un, e_m1, e_noPart, e_part, e_sl, e_only0, e_chain, chR_bool, e_str, e_jnil, e_jcons, strR_str, e_comp, e_in, e_rng1, e_enum, enR_list, e_next, e_brk, e_cont, e_ifS, e_for, e_par, e_ocons, e_asgT, e_app, e_setL, e_rais, e_cnil, e_cval, e_cown, e_callV, e_callO, callR_some, fresR_ok, fresR_exc, seqR_next, seqR_ret, seqR_exc, seqR_brk, seqR_cont, fin_ret, fin_next, fin_exc, List.getElem?_cons_zero, List.getElem?_cons_succ, List.set_cons_zero, List.set_cons_succ, List.map_cons, List.map_nil, List.nil_append, List.cons_append, List.all_cons, List.all_nil, List.contains_nil, Bool.or_self, Bool.and_self, Bool.or_false, Bool.false_or, Bool.or_true, Bool.true_or, Bool.and_true, Bool.true_and, Bool.and_false, Bool.false_and, Bool.not_true, Bool.not_false, or_true, true_or, and_true, true_and, if_true, if_false, ite_true, ite_false, Bool.false_eq_true, reduceCtorEq, isV, isS, get_nil, get_val, owns_n, owns_v, owns_o, Option.map_some, decide_true, decide_false, tru_bool, tru_list, tru_tup, ix_l, ix_t, int_i, abs_i, add_ii, len_l, len_t, lst_neg, tup_t, tup_l, List.length_cons, List.length_nil, Nat.zero_add, Nat.reduceAdd, eq_self, setAll_c, setAll_n, setEnts_c, setEnts_n, asgTR_tup, Nat.zero_le, Nat.le_refl, all_of, any_of, wipe_nil, wipe_cons, back_nil, back_cons, backO_some, keep0_none, keep0_val, mul_ii, e_compX, compEnd_ok, compEnd_exc, e_zip, zipK_l, zipK_t, e_rng2, isi_bool, isi_str, isi_tup, isi_int, PyData.isStr, PyData.isTuple, PyData.isInt, PyData.isBool, PyData.plain, eq_ii, ne_ii, lt_ii, le_ii, gt_ii, ge_ii, eq_ss, ne_ss, le_ss]
            rfl
          | true =>
            simp only [dSs, dS, den, denV, denR, denC, denO, denG, denJ, denOw, Den.val, BOp.F, COp.F, Bi.F, Me.F, TgA.tgt, bind_ok, bind_exc, bind_bad, opR_some, getR_some, varR_some, e_ixV, ixVR_some, truR_some, boolR_bool, andR_some, orR_some, itR_some, itemsOf, partR_int, e_var, e_varB, e_lit, e_op, e_op2, e_cons, e_nil, e_frz, e_tru, e_bool, e_seq, e_asg, e_expr, e_ret, e_retN, e_and, e_or, e_not, e_andT, e_orT, e_notT, e_if, e_un, e_m1, e_noPart, e_part, e_sl, e_only0, e_chain, chR_bool, e_str, e_jnil, e_jcons, strR_str, e_comp, e_in, e_rng1, e_enum, enR_list, e_next, e_brk, e_cont, e_ifS, e_for, e_par, e_ocons, e_asgT, e_app, e_setL, e_rais, e_cnil, e_cval, e_cown, e_callV, e_callO, callR_some, fresR_ok, fresR_exc, seqR_next, seqR_ret, seqR_exc, seqR_brk, seqR_cont, fin_ret, fin_next, fin_exc, List.getElem?_cons_zero, List.getElem?_cons_succ, List.set_cons_zero, List.set_cons_succ, List.map_cons, List.map_nil, List.nil_append, List.cons_append, List.all_cons, List.all_nil, List.contains_nil, Bool.or_self, Bool.and_self, Bool.or_false, Bool.false_or, Bool.or_true, Bool.true_or, Bool.and_true, Bool.true_and, Bool.and_false, Bool.false_and, Bool.not_true, Bool.not_false, or_true, true_or, and_true, true_and, if_true, if_false, ite_true, ite_false, Bool.false_eq_true, reduceCtorEq, isV, isS, get_nil, get_val, owns_n, owns_v, owns_o, Option.map_some, decide_true, decide_false, tru_bool, tru_list, tru_tup, ix_l, ix_t, int_i, abs_i, add_ii, len_l, len_t, lst_neg, tup_t, tup_l, List.length_cons, List.length_nil, Nat.zero_add, Nat.reduceAdd, eq_self, setAll_c, setAll_n, setEnts_c, setEnts_n, asgTR_tup, Nat.zero_le, Nat.le_refl, all_of, any_of, wipe_nil, wipe_cons, back_nil, back_cons, backO_some, keep0_none, keep0_val, mul_ii, e_compX, compEnd_ok, compEnd_exc, e_zip, zipK_l, zipK_t, e_rng2, isi_bool, isi_str, isi_tup, isi_int, PyData.isStr, PyData.isTuple, PyData.isInt, PyData.isBool, PyData.plain, eq_ii, ne_ii, lt_ii, le_ii, gt_ii, ge_ii, eq_ss, ne_ss, le_ss, ix_t, at_0, at_1, optI_some]
            cases decide (x ≤ 7) with
            | false =>
              simp only [dSs, dS, den, denV, denR, denC, denO, denG, denJ, denOw, Den.val, BOp.F, COp.F, Bi.F, Me.F, TgA.tgt, bind_ok, bind_exc, bind_bad, opR_some, getR_some, varR_some, e_ixV, ixVR_some, truR_some, boolR_bool, andR_some, orR_some, itR_some, itemsOf, partR_int, e_var, e_varB, e_lit, e_op, e_op2, e_cons, e_nil, e_frz, e_tru, e_bool, e_seq, e_asg, e_expr, e_ret, e_retN, e_and, e_or, e_not, e_andT, e_orT, e_notT, e_if, e_un, e_m1, e_noPart, e_part, e_sl, e_only0, e_chain, chR_bool, e_str, e_jnil, e_jcons, strR_str, e_comp, e_in, e_rng1, e_enum, enR_list, e_next, e_brk, e_cont, e_ifS, e_for, e_par, e_ocons, e_asgT, e_app, e_setL, e_rais, e_cnil, e_cval, e_cown, e_callV, e_callO, callR_some, fresR_ok, fresR_exc, seqR_next, seqR_ret, seqR_exc, seqR_brk, seqR_cont, fin_ret, fin_next, fin_exc, List.getElem?_cons_zero, List.getElem?_cons_succ, List.set_cons_zero, List.set_cons_succ, List.map_cons, List.map_nil, List.nil_append, List.cons_append, List.all_cons, List.all_nil, List.contains_nil, Bool.or_self, Bool.and_self, Bool.or_false, Bool.false_or, Bool.or_true, Bool.true_or, Bool.and_true, Bool.true_and, Bool.and_false, Bool.false_and, Bool.not_true, Bool.not_false, or_true, true_or, and_true, true_and, if_true, if_false, ite_true, ite_false, Bool.false_eq_true, reduceCtorEq, isV, isS, get_nil, get_val, owns_n, owns_v, owns_o, Option.map_some, decide_true, decide_false, tru_bool, tru_list, tru_tup, ix_l, ix_t, int_i, abs_i, add_ii, len_l, len_t, lst_neg, tup_t, tup_l, List.length_cons, List.length_nil, Nat.zero_add, Nat.reduceAdd, eq_self, setAll_c, setAll_n, setEnts_c, setEnts_n, asgTR_tup, Nat.zero_le, Nat.le_refl, all_of, any_of, wipe_nil, wipe_cons, back_nil, back_cons, backO_some, keep0_none, keep0_val, mul_ii, e_compX, compEnd_ok, compEnd_exc, e_zip, zipK_l, zipK_t, e_rng2, isi_bool, isi_str, isi_tup, isi_int, PyData.isStr, PyData.isTuple, PyData.isInt, PyData.isBool, PyData.plain, eq_ii, ne_ii, lt_ii, le_ii, gt_ii, ge_ii, eq_ss, ne_ss, le_ss]
              rfl
            | true =>
              simp only [dSs, dS, den, denV, denR, denC, denO, denG, denJ, denOw, Den.val, BOp.F, COp.F, Bi.F, Me.F, TgA.tgt, bind_ok, bind_exc, bind_bad, opR_some, getR_some, varR_some, e_ixV, ixVR_some, truR_some, boolR_bool, andR_some, orR_some, itR_some, itemsOf, partR_int, e_var, e_varB, e_lit, e_op, e_op2, e_cons, e_nil, e_frz, e_tru, e_bool, e_seq, e_asg, e_expr, e_ret, e_retN, e_and, e_or, e_not, e_andT, e_orT, e_notT, e_if, e_un, e_m1, e_noPart, e_part, e_sl, e_only0, e_chain, chR_bool, e_str, e_jnil, e_jcons, strR_str, e_comp, e_in, e_rng1, e_enum, enR_list, e_next, e_brk, e_cont, e_ifS, e_for, e_par, e_ocons, e_asgT, e_app, e_setL, e_rais, e_cnil, e_cval, e_cown, e_callV, e_callO, callR_some, fresR_ok, fresR_exc, seqR_next, seqR_ret, seqR_exc, seqR_brk, seqR_cont, fin_ret, fin_next, fin_exc, List.getElem?_cons_zero, List.getElem?_cons_succ, List.set_cons_zero, List.set_cons_succ, List.map_cons, List.map_nil, List.nil_append, List.cons_append, List.all_cons, List.all_nil, List.contains_nil, Bool.or_self, Bool.and_self, Bool.or_false, Bool.false_or, Bool.or_true, Bool.true_or, Bool.and_true, Bool.true_and, Bool.and_false, Bool.false_and, Bool.not_true, Bool.not_false, or_true, true_or, and_true, true_and, if_true, if_false, ite_true, ite_false, Bool.false_eq_true, reduceCtorEq, isV, isS, get_nil, get_val, owns_n, owns_v, owns_o, Option.map_some, decide_true, decide_false, tru_bool, tru_list, tru_tup, ix_l, ix_t, int_i, abs_i, add_ii, len_l, len_t, lst_neg, tup_t, tup_l, List.length_cons, List.length_nil, Nat.zero_add, Nat.reduceAdd, eq_self, setAll_c, setAll_n, setEnts_c, setEnts_n, asgTR_tup, Nat.zero_le, Nat.le_refl, all_of, any_of, wipe_nil, wipe_cons, back_nil, back_cons, backO_some, keep0_none, keep0_val, mul_ii, e_compX, compEnd_ok, compEnd_exc, e_zip, zipK_l, zipK_t, e_rng2, isi_bool, isi_str, isi_tup, isi_int, PyData.isStr, PyData.isTuple, PyData.isInt, PyData.isBool, PyData.plain, eq_ii, ne_ii, lt_ii, le_ii, gt_ii, ge_ii, eq_ss, ne_ss, le_ss, ix_t, at_0, at_1, optI_some]
              cases decide (1 ≤ y) with
              | false =>
                simp only [dSs, dS, den, denV, denR, denC, denO, denG, denJ, denOw, Den.val, BOp.F, COp.F, Bi.F, Me.F, TgA.tgt, bind_ok, bind_exc, bind_bad, opR_some, getR_some, varR_some, e_ixV, ixVR_some, truR_some, boolR_bool, andR_some, orR_some, itR_some, itemsOf, partR_int, e_var, e_varB, e_lit, e_op, e_op2, e_cons, e_nil, e_frz, e_tru, e_bool, e_seq, e_asg, e_expr, e_ret, e_retN, e_and, e_or, e_not, e_andT, e_orT, e_notT, e_if, e_un, e_m1, e_noPart, e_part, e_sl, e_only0, e_chain, chR_bool, e_str, e_jnil, e_jcons, strR_str, e_comp, e_in, e_rng1, e_enum, enR_list, e_next, e_brk, e_cont, e_ifS, e_for, e_par, e_ocons, e_asgT, e_app, e_setL, e_rais, e_cnil, e_cval, e_cown, e_callV, e_callO, callR_some, fresR_ok, fresR_exc, seqR_next, seqR_ret, seqR_exc, seqR_brk, seqR_cont, fin_ret, fin_next, fin_exc, List.getElem?_cons_zero, List.getElem?_cons_succ, List.set_cons_zero, List.set_cons_succ, List.map_cons, List.map_nil, List.nil_append, List.cons_append, List.all_cons, List.all_nil, List.contains_nil, Bool.or_self, Bool.and_self, Bool.or_false, Bool.false_or, Bool.or_true, Bool.true_or, Bool.and_true, Bool.true_and, Bool.and_false, Bool.false_and, Bool.not_true, Bool.not_false, or_true, true_or, and_true, true_and, if_true, if_false, ite_true, ite_false, Bool.false_eq_true, reduceCtorEq, isV, isS, get_nil, get_val, owns_n, owns_v, owns_o, Option.map_some, decide_true, decide_false, tru_bool, tru_list, tru_tup, ix_l, ix_t, int_i, abs_i, add_ii, len_l, len_t, lst_neg, tup_t, tup_l, List.length_cons, List.length_nil, Nat.zero_add, Nat.reduceAdd, eq_self, setAll_c, setAll_n, setEnts_c, setEnts_n, asgTR_tup, Nat.zero_le, Nat.le_refl, all_of, any_of, wipe_nil, wipe_cons, back_nil, back_cons, backO_some, keep0_none, keep0_val, mul_ii, e_compX, compEnd_ok, compEnd_exc, e_zip, zipK_l, zipK_t, e_rng2, isi_bool, isi_str, isi_tup, isi_int, PyData.isStr, PyData.isTuple, PyData.isInt, PyData.isBool, PyData.plain, eq_ii, ne_ii, lt_ii, le_ii, gt_ii, ge_ii, eq_ss, ne_ss, le_ss]
                rfl
              | true =>
                simp only [dSs, dS, den, denV, denR, denC, denO, denG, denJ, denOw, Den.val, BOp.F, COp.F, Bi.F, Me.F, TgA.tgt, bind_ok, bind_exc, bind_bad, opR_some, getR_some, varR_some, e_ixV, ixVR_some, truR_some, boolR_bool, andR_some, orR_some, itR_some, itemsOf, partR_int, e_var, e_varB, e_lit, e_op, e_op2, e_cons, e_nil, e_frz, e_tru, e_bool, e_seq, e_asg, e_expr, e_ret, e_retN, e_and, e_or, e_not, e_andT, e_orT, e_notT, e_if, e_un, e_m1, e_noPart, e_part, e_sl, e_only0, e_chain, chR_bool, e_str, e_jnil, e_jcons, strR_str, e_comp, e_in, e_rng1, e_enum, enR_list, e_next, e_brk, e_cont, e_ifS, e_for, e_par, e_ocons, e_asgT, e_app, e_setL, e_rais, e_cnil, e_cval, e_cown, e_callV, e_callO, callR_some, fresR_ok, fresR_exc, seqR_next, seqR_ret, seqR_exc, seqR_brk, seqR_cont, fin_ret, fin_next, fin_exc, List.getElem?_cons_zero, List.getElem?_cons_succ, List.set_cons_zero, List.set_cons_succ, List.map_cons, List.map_nil, List.nil_append, List.cons_append, List.all_cons, List.all_nil, List.contains_nil, Bool.or_self, Bool.and_self, Bool.or_false, Bool.false_or, Bool.or_true, Bool.true_or, Bool.and_true, Bool.true_and, Bool.and_false, Bool.false_and, Bool.not_true, Bool.not_false, or_true, true_or, and_true, true_and, if_true, if_false, ite_true, ite_false, Bool.false_eq_true, reduceCtorEq, isV, isS, get_nil, get_val, owns_n, owns_v, owns_o, Option.map_some, decide_true, decide_false, tru_bool, tru_list, tru_tup, ix_l, ix_t, int_i, abs_i, add_ii, len_l, len_t, lst_neg, tup_t, tup_l, List.length_cons, List.length_nil, Nat.zero_add, Nat.reduceAdd, eq_self, setAll_c, setAll_n, setEnts_c, setEnts_n, asgTR_tup, Nat.zero_le, Nat.le_refl, all_of, any_of, wipe_nil, wipe_cons, back_nil, back_cons, backO_some, keep0_none, keep0_val, mul_ii, e_compX, compEnd_ok, compEnd_exc, e_zip, zipK_l, zipK_t, e_rng2, isi_bool, isi_str, isi_tup, isi_int, PyData.isStr, PyData.isTuple, PyData.isInt, PyData.isBool, PyData.plain, eq_ii, ne_ii, lt_ii, le_ii, gt_ii, ge_ii, eq_ss, ne_ss, le_ss]
                rfl
    | a :: b :: c :: r, _, _ =>
      have d : decide ((((a :: b :: c :: r).length : Nat) : Int) = 2) = false := decide_eq_false (by simp only [List.length_cons]; omega)
      simp only [List.length_cons] at d
      simp only [dSs, dS, den, denV, denR, denC, denO, denG, denJ, denOw, Den.val, BOp.F, COp.F, Bi.F, Me.F, TgA.tgt, bind_ok, bind_exc, bind_bad, opR_some, getR_some, varR_some, e_ixV, ixVR_some, truR_some, boolR_bool, andR_some, orR_some, itR_some, itemsOf, partR_int, e_var, e_varB, e_lit, e_op, e_op2, e_cons, e_nil, e_frz, e_tru, e_bool, e_seq, e_asg, e_expr, e_ret, e_retN, e_and, e_or, e_not, e_andT, e_orT, e_notT, e_if, e_un, e_m1, e_noPart, e_part, e_sl, e_only0, e_chain, chR_bool, e_str, e_jnil, e_jcons, strR_str, e_comp, e_in, e_rng1, e_enum, enR_list, e_next, e_brk, e_cont, e_ifS, e_for, e_par, e_ocons, e_asgT, e_app, e_setL, e_rais, e_cnil, e_cval, e_cown, e_callV, e_callO, callR_some, fresR_ok, fresR_exc, seqR_next, seqR_ret, seqR_exc, seqR_brk, seqR_cont, fin_ret, fin_next, fin_exc, List.getElem?_cons_zero, List.getElem?_cons_succ, List.set_cons_zero, List.set_cons_succ, List.map_cons, List.map_nil, List.nil_append, List.cons_append, List.all_cons, List.all_nil, List.contains_nil, Bool.or_self, Bool.and_self, Bool.or_false, Bool.false_or, Bool.or_true, Bool.true_or, Bool.and_true, Bool.true_and, Bool.and_false, Bool.false_and, Bool.not_true, Bool.not_false, or_true, true_or, and_true, true_and, if_true, if_false, ite_true, ite_false, Bool.false_eq_true, reduceCtorEq, isV, isS, get_nil, get_val, owns_n, owns_v, owns_o, Option.map_some, decide_true, decide_false, tru_bool, tru_list, tru_tup, ix_l, ix_t, int_i, abs_i, add_ii, len_l, len_t, lst_neg, tup_t, tup_l, List.length_cons, List.length_nil, Nat.zero_add, Nat.reduceAdd, eq_self, setAll_c, setAll_n, setEnts_c, setEnts_n, asgTR_tup, Nat.zero_le, Nat.le_refl, all_of, any_of, wipe_nil, wipe_cons, back_nil, back_cons, backO_some, keep0_none, keep0_val, mul_ii, e_compX, compEnd_ok, compEnd_exc, e_zip, zipK_l, zipK_t, e_rng2, isi_bool, isi_str, isi_tup, isi_int, PyData.isStr, PyData.isTuple, PyData.isInt, PyData.isBool, PyData.plain, eq_ii, ne_ii, lt_ii, le_ii, gt_ii, ge_ii, eq_ss, ne_ss, le_ss, len_t, List.length_map, d]
      rfl
  · intro w hw
    have := lint_F w (by have := l2 w hw; omega)
    refine ⟨_, rfl, ⟨0, ?_⟩, rfl⟩
    simp only [dSs, dS, den, denV, denR, denC, denO, denG, denJ, denOw, Den.val, BOp.F, COp.F, Bi.F, Me.F, TgA.tgt, bind_ok, bind_exc, bind_bad, opR_some, getR_some, varR_some, e_ixV, ixVR_some, truR_some, boolR_bool, andR_some, orR_some, itR_some, itemsOf, partR_int, e_var, e_varB, e_lit, e_op, e_op2, e_cons, e_nil, e_frz, e_tru, e_bool, e_seq, e_asg, e_expr, e_ret, e_retN, e_and, e_or, e_not, e_andT, e_orT, e_notT, e_if, e_un, e_m1, e_noPart, e_part, e_sl, e_only0, e_chain, chR_bool, e_str, e_jnil, e_jcons, strR_str, e_comp, e_in, e_rng1, e_enum, enR_list, e_next, e_brk, e_cont, e_ifS, e_for, e_par, e_ocons, e_asgT, e_app, e_setL, e_rais, e_cnil, e_cval, e_cown, e_callV, e_callO, callR_some, fresR_ok, fresR_exc, seqR_next, seqR_ret, seqR_exc, seqR_brk, seqR_cont, fin_ret, fin_next, fin_exc, List.getElem?_cons_zero, List.getElem?_cons_succ, List.set_cons_zero, List.set_cons_succ, List.map_cons, List.map_nil, List.nil_append, List.cons_append, List.all_cons, List.all_nil, List.contains_nil, Bool.or_self, Bool.and_self, Bool.or_false, Bool.false_or, Bool.or_true, Bool.true_or, Bool.and_true, Bool.true_and, Bool.and_false, Bool.false_and, Bool.not_true, Bool.not_false, or_true, true_or, and_true, true_and, if_true, if_false, ite_true, ite_false, Bool.false_eq_true, reduceCtorEq, isV, isS, get_nil, get_val, owns_n, owns_v, owns_o, Option.map_some, decide_true, decide_false, tru_bool, tru_list, tru_tup, ix_l, ix_t, int_i, abs_i, add_ii, len_l, len_t, lst_neg, tup_t, tup_l, List.length_cons, List.length_nil, Nat.zero_add, Nat.reduceAdd, eq_self, setAll_c, setAll_n, setEnts_c, setEnts_n, asgTR_tup, Nat.zero_le, Nat.le_refl, all_of, any_of, wipe_nil, wipe_cons, back_nil, back_cons, backO_some, keep0_none, keep0_val, mul_ii, e_compX, compEnd_ok, compEnd_exc, e_zip, zipK_l, zipK_t, e_rng2, isi_bool, isi_str, isi_tup, isi_int, PyData.isStr, PyData.isTuple, PyData.isInt, PyData.isBool, PyData.plain, eq_ii, ne_ii, lt_ii, le_ii, gt_ii, ge_ii, eq_ss, ne_ss, le_ss, gf_18_17, this]
def rdVec (t : Str) : Option (List (Int × Int)) := (if t = "-" then some [] else (Txt.split t ",").mapM rdDot).bind fun v => if asc v = true then some v else none
def vecR : Option (List (Int × Int)) → FRes
  | some v => .ok (0, .tuple (v.map pdI)) [none]
  | none => .exc BF
def vecV : Option (List (Int × Int)) → PyData
  | some v => .tuple (v.map pdI)
  | none => .none
theorem rdDot_isD {t : Str} {p : Int × Int} (h : rdDot t = some p) : isD p = true := by
  unfold rdDot at h
  split at h
  · split at h
    · split at h
      · cases h; assumption
      · cases h
    · cases h
  · cases h
theorem mapM_isD : ∀ {ws : List Str} {v : List (Int × Int)}, ws.mapM rdDot = some v → v.all isD = true ∧ v.length = ws.length
  | [], v, h => by simp at h; subst h; exact ⟨rfl, rfl⟩
  | w :: ws, v, h => by
    rw [List.mapM_cons] at h
    cases q : rdDot w with
    | none => rw [q] at h; cases h
    | some p =>
      rw [q] at h
      cases q2 : ws.mapM rdDot with
      | none => rw [q2] at h; cases h
      | some u =>
        rw [q2] at h
        have e : v = p :: u := by simpa using h.symm
        subst e
        obtain ⟨i1, i2⟩ := mapM_isD q2
        exact ⟨by rw [List.all_cons, rdDot_isD q, i1]; rfl, by simp [i2]⟩
theorem rvec_F (t : Str) (hl : t.length ≤ 500) : F_read_vector [(0, .str t)] = vecR (rdVec t) := by
  have lim : 1000 ≤ LIM := by decide
  have tl2 : t.length + 2 ≤ LIM := by omega
  have sp := fun n m => split_of ecom n (m := m) tl2
  obtain ⟨l1, l2, l3⟩ := pieces_len ecom kcom t
  have fin : ∀ v : List (Int × Int), v.length ≤ 1000 → v.all isD = true → finF 1 [] (seqR (dSs (G fl8) [] (.cons (.ite (.not (.call 3 (.val (.var 1) .nil))) (.cons (.rais 0 (.cons (.int 0) .nil)) .nil) .nil) (.cons (.ret (.var 1)) .nil))) (.ok (.next, [some (0, .str t), some (0, .tuple (v.map pdI)), none]))) = vecR (if asc v = true then some v else none) := by
    intro v hv ha
    have vf := vec_F v hv
    rw [ha] at vf
    simp only [dSs, dS, den, denV, denR, denC, denO, denG, denJ, denOw, Den.val, BOp.F, COp.F, Bi.F, Me.F, TgA.tgt, bind_ok, bind_exc, bind_bad, opR_some, getR_some, varR_some, e_ixV, ixVR_some, truR_some, boolR_bool, andR_some, orR_some, itR_some, itemsOf, partR_int, e_var, e_varB, e_lit, e_op, e_op2, e_cons, e_nil, e_frz, e_tru, e_bool, e_seq, e_asg, e_expr, e_ret, e_retN, e_and, e_or, e_not, e_andT, e_orT, e_notT, e_if, e_un, e_m1, e_noPart, e_part, e_sl, e_only0, e_chain, chR_bool, e_str, e_jnil, e_jcons, strR_str, e_comp, e_in, e_rng1, e_enum, enR_list, e_next, e_brk, e_cont, e_ifS, e_for, e_par, e_ocons, e_asgT, e_app, e_setL, e_rais, e_cnil, e_cval, e_cown, e_callV, e_callO, callR_some, fresR_ok, fresR_exc, seqR_next, seqR_ret, seqR_exc, seqR_brk, seqR_cont, fin_ret, fin_next, fin_exc, List.getElem?_cons_zero, List.getElem?_cons_succ, List.set_cons_zero, List.set_cons_succ, List.map_cons, List.map_nil, List.nil_append, List.cons_append, List.all_cons, List.all_nil, List.contains_nil, Bool.or_self, Bool.and_self, Bool.or_false, Bool.false_or, Bool.or_true, Bool.true_or, Bool.and_true, Bool.true_and, Bool.and_false, Bool.false_and, Bool.not_true, Bool.not_false, or_true, true_or, and_true, true_and, if_true, if_false, ite_true, ite_false, Bool.false_eq_true, reduceCtorEq, isV, isS, get_nil, get_val, owns_n, owns_v, owns_o, Option.map_some, decide_true, decide_false, tru_bool, tru_list, tru_tup, ix_l, ix_t, int_i, abs_i, add_ii, len_l, len_t, lst_neg, tup_t, tup_l, List.length_cons, List.length_nil, Nat.zero_add, Nat.reduceAdd, eq_self, setAll_c, setAll_n, setEnts_c, setEnts_n, asgTR_tup, Nat.zero_le, Nat.le_refl, all_of, any_of, wipe_nil, wipe_cons, back_nil, back_cons, backO_some, keep0_none, keep0_val, mul_ii, e_compX, compEnd_ok, compEnd_exc, e_zip, zipK_l, zipK_t, e_rng2, isi_bool, isi_str, isi_tup, isi_int, PyData.isStr, PyData.isTuple, PyData.isInt, PyData.isBool, PyData.plain, eq_ii, ne_ii, lt_ii, le_ii, gt_ii, ge_ii, eq_ss, ne_ss, le_ss, gf_8_3, gf_8_6, gg_2, gx_0, vf]
    cases asc v with
    | true =>
      simp only [dSs, dS, den, denV, denR, denC, denO, denG, denJ, denOw, Den.val, BOp.F, COp.F, Bi.F, Me.F, TgA.tgt, bind_ok, bind_exc, bind_bad, opR_some, getR_some, varR_some, e_ixV, ixVR_some, truR_some, boolR_bool, andR_some, orR_some, itR_some, itemsOf, partR_int, e_var, e_varB, e_lit, e_op, e_op2, e_cons, e_nil, e_frz, e_tru, e_bool, e_seq, e_asg, e_expr, e_ret, e_retN, e_and, e_or, e_not, e_andT, e_orT, e_notT, e_if, e_un, e_m1, e_noPart, e_part, e_sl, e_only0, e_chain, chR_bool, e_str, e_jnil, e_jcons, strR_str, e_comp, e_in, e_rng1, e_enum, enR_list, e_next, e_brk, e_cont, e_ifS, e_for, e_par, e_ocons, e_asgT, e_app, e_setL, e_rais, e_cnil, e_cval, e_cown, e_callV, e_callO, callR_some, fresR_ok, fresR_exc, seqR_next, seqR_ret, seqR_exc, seqR_brk, seqR_cont, fin_ret, fin_next, fin_exc, List.getElem?_cons_zero, List.getElem?_cons_succ, List.set_cons_zero, List.set_cons_succ, List.map_cons, List.map_nil, List.nil_append, List.cons_append, List.all_cons, List.all_nil, List.contains_nil, Bool.or_self, Bool.and_self, Bool.or_false, Bool.false_or, Bool.or_true, Bool.true_or, Bool.and_true, Bool.true_and, Bool.and_false, Bool.false_and, Bool.not_true, Bool.not_false, or_true, true_or, and_true, true_and, if_true, if_false, ite_true, ite_false, Bool.false_eq_true, reduceCtorEq, isV, isS, get_nil, get_val, owns_n, owns_v, owns_o, Option.map_some, decide_true, decide_false, tru_bool, tru_list, tru_tup, ix_l, ix_t, int_i, abs_i, add_ii, len_l, len_t, lst_neg, tup_t, tup_l, List.length_cons, List.length_nil, Nat.zero_add, Nat.reduceAdd, eq_self, setAll_c, setAll_n, setEnts_c, setEnts_n, asgTR_tup, Nat.zero_le, Nat.le_refl, all_of, any_of, wipe_nil, wipe_cons, back_nil, back_cons, backO_some, keep0_none, keep0_val, mul_ii, e_compX, compEnd_ok, compEnd_exc, e_zip, zipK_l, zipK_t, e_rng2, isi_bool, isi_str, isi_tup, isi_int, PyData.isStr, PyData.isTuple, PyData.isInt, PyData.isBool, PyData.plain, eq_ii, ne_ii, lt_ii, le_ii, gt_ii, ge_ii, eq_ss, ne_ss, le_ss, gf_8_3, gf_8_6, gg_2, gx_0]
      rfl
    | false =>
      simp only [dSs, dS, den, denV, denR, denC, denO, denG, denJ, denOw, Den.val, BOp.F, COp.F, Bi.F, Me.F, TgA.tgt, bind_ok, bind_exc, bind_bad, opR_some, getR_some, varR_some, e_ixV, ixVR_some, truR_some, boolR_bool, andR_some, orR_some, itR_some, itemsOf, partR_int, e_var, e_varB, e_lit, e_op, e_op2, e_cons, e_nil, e_frz, e_tru, e_bool, e_seq, e_asg, e_expr, e_ret, e_retN, e_and, e_or, e_not, e_andT, e_orT, e_notT, e_if, e_un, e_m1, e_noPart, e_part, e_sl, e_only0, e_chain, chR_bool, e_str, e_jnil, e_jcons, strR_str, e_comp, e_in, e_rng1, e_enum, enR_list, e_next, e_brk, e_cont, e_ifS, e_for, e_par, e_ocons, e_asgT, e_app, e_setL, e_rais, e_cnil, e_cval, e_cown, e_callV, e_callO, callR_some, fresR_ok, fresR_exc, seqR_next, seqR_ret, seqR_exc, seqR_brk, seqR_cont, fin_ret, fin_next, fin_exc, List.getElem?_cons_zero, List.getElem?_cons_succ, List.set_cons_zero, List.set_cons_succ, List.map_cons, List.map_nil, List.nil_append, List.cons_append, List.all_cons, List.all_nil, List.contains_nil, Bool.or_self, Bool.and_self, Bool.or_false, Bool.false_or, Bool.or_true, Bool.true_or, Bool.and_true, Bool.true_and, Bool.and_false, Bool.false_and, Bool.not_true, Bool.not_false, or_true, true_or, and_true, true_and, if_true, if_false, ite_true, ite_false, Bool.false_eq_true, reduceCtorEq, isV, isS, get_nil, get_val, owns_n, owns_v, owns_o, Option.map_some, decide_true, decide_false, tru_bool, tru_list, tru_tup, ix_l, ix_t, int_i, abs_i, add_ii, len_l, len_t, lst_neg, tup_t, tup_l, List.length_cons, List.length_nil, Nat.zero_add, Nat.reduceAdd, eq_self, setAll_c, setAll_n, setEnts_c, setEnts_n, asgTR_tup, Nat.zero_le, Nat.le_refl, all_of, any_of, wipe_nil, wipe_cons, back_nil, back_cons, backO_some, keep0_none, keep0_val, mul_ii, e_compX, compEnd_ok, compEnd_exc, e_zip, zipK_l, zipK_t, e_rng2, isi_bool, isi_str, isi_tup, isi_int, PyData.isStr, PyData.isTuple, PyData.isInt, PyData.isBool, PyData.plain, eq_ii, ne_ii, lt_ii, le_ii, gt_ii, ge_ii, eq_ss, ne_ss, le_ss, gf_8_3, gf_8_6, gg_2, gx_0]
      rw [raisR_some _ _ _ _ (mk0 0)]
      rfl
  unfold F_read_vector b_read_vector
  simp only [e_run, List.length_cons, List.length_nil, if_true, List.map_cons, List.map_nil, List.cons_append, List.nil_append, List.replicate_succ, List.replicate_zero, Nat.reduceSub, Nat.reduceAdd]
  rw [show ∀ a b c : Sm, Sms.cons a (.cons b (.cons c .nil)) = Sms.cons a (.cons b (.cons c .nil)) from fun _ _ _ => rfl]
  rw [dSs, e_seq]
  unfold rdVec
  by_cases a1 : t = "-"
  · have d : decide (t = ("-" : Str)) = true := decide_eq_true a1
    have t0 : tupD [] = some (0, .tuple []) := rfl
    rw [show dS (G fl8) [] (.asg 1 (.ite (.cmp .eq (.var 0) (.glob 2)) (.tup .nil) (.bi .tuple (.compX [("word", 2)] (.nm 2) (.inn (.me .split (.var 0) (.str ","))) .no (.call 6 (.val (.var 2) .nil)))))) [some (0, .str t), none, none] = .ok (.next, [some (0, .str t), some (0, .tuple (([] : List (Int × Int)).map pdI)), none]) from by
      simp only [dSs, dS, den, denV, denR, denC, denO, denG, denJ, denOw, Den.val, BOp.F, COp.F, Bi.F, Me.F, TgA.tgt, bind_ok, bind_exc, bind_bad, opR_some, getR_some, varR_some, e_ixV, ixVR_some, truR_some, boolR_bool, andR_some, orR_some, itR_some, itemsOf, partR_int, e_var, e_varB, e_lit, e_op, e_op2, e_cons, e_nil, e_frz, e_tru, e_bool, e_seq, e_asg, e_expr, e_ret, e_retN, e_and, e_or, e_not, e_andT, e_orT, e_notT, e_if, e_un, e_m1, e_noPart, e_part, e_sl, e_only0, e_chain, chR_bool, e_str, e_jnil, e_jcons, strR_str, e_comp, e_in, e_rng1, e_enum, enR_list, e_next, e_brk, e_cont, e_ifS, e_for, e_par, e_ocons, e_asgT, e_app, e_setL, e_rais, e_cnil, e_cval, e_cown, e_callV, e_callO, callR_some, fresR_ok, fresR_exc, seqR_next, seqR_ret, seqR_exc, seqR_brk, seqR_cont, fin_ret, fin_next, fin_exc, List.getElem?_cons_zero, List.getElem?_cons_succ, List.set_cons_zero, List.set_cons_succ, List.map_cons, List.map_nil, List.nil_append, List.cons_append, List.all_cons, List.all_nil, List.contains_nil, Bool.or_self, Bool.and_self, Bool.or_false, Bool.false_or, Bool.or_true, Bool.true_or, Bool.and_true, Bool.true_and, Bool.and_false, Bool.false_and, Bool.not_true, Bool.not_false, or_true, true_or, and_true, true_and, if_true, if_false, ite_true, ite_false, Bool.false_eq_true, reduceCtorEq, isV, isS, get_nil, get_val, owns_n, owns_v, owns_o, Option.map_some, decide_true, decide_false, tru_bool, tru_list, tru_tup, ix_l, ix_t, int_i, abs_i, add_ii, len_l, len_t, lst_neg, tup_t, tup_l, List.length_cons, List.length_nil, Nat.zero_add, Nat.reduceAdd, eq_self, setAll_c, setAll_n, setEnts_c, setEnts_n, asgTR_tup, Nat.zero_le, Nat.le_refl, all_of, any_of, wipe_nil, wipe_cons, back_nil, back_cons, backO_some, keep0_none, keep0_val, mul_ii, e_compX, compEnd_ok, compEnd_exc, e_zip, zipK_l, zipK_t, e_rng2, isi_bool, isi_str, isi_tup, isi_int, PyData.isStr, PyData.isTuple, PyData.isInt, PyData.isBool, PyData.plain, eq_ii, ne_ii, lt_ii, le_ii, gt_ii, ge_ii, eq_ss, ne_ss, le_ss, gf_8_3, gf_8_6, gg_2, gx_0, d, t0]]
    rw [fin [] (by decide) rfl, if_pos a1]
    rfl
  · have d : decide (t = ("-" : Str)) = false := decide_eq_false a1
    rw [if_neg a1]
    have ev : dS (G fl8) [] (.asg 1 (.ite (.cmp .eq (.var 0) (.glob 2)) (.tup .nil) (.bi .tuple (.compX [("word", 2)] (.nm 2) (.inn (.me .split (.var 0) (.str ","))) .no (.call 6 (.val (.var 2) .nil)))))) [some (0, .str t), none, none] = match (Txt.split t ",").mapM rdDot with | some v => .ok (.next, [some (0, .str t), some (0, .tuple (v.map pdI)), none]) | none => .exc BF [some (0, .str t), none, none] := by
      simp only [dSs, dS, den, denV, denR, denC, denO, denG, denJ, denOw, Den.val, BOp.F, COp.F, Bi.F, Me.F, TgA.tgt, bind_ok, bind_exc, bind_bad, opR_some, getR_some, varR_some, e_ixV, ixVR_some, truR_some, boolR_bool, andR_some, orR_some, itR_some, itemsOf, partR_int, e_var, e_varB, e_lit, e_op, e_op2, e_cons, e_nil, e_frz, e_tru, e_bool, e_seq, e_asg, e_expr, e_ret, e_retN, e_and, e_or, e_not, e_andT, e_orT, e_notT, e_if, e_un, e_m1, e_noPart, e_part, e_sl, e_only0, e_chain, chR_bool, e_str, e_jnil, e_jcons, strR_str, e_comp, e_in, e_rng1, e_enum, enR_list, e_next, e_brk, e_cont, e_ifS, e_for, e_par, e_ocons, e_asgT, e_app, e_setL, e_rais, e_cnil, e_cval, e_cown, e_callV, e_callO, callR_some, fresR_ok, fresR_exc, seqR_next, seqR_ret, seqR_exc, seqR_brk, seqR_cont, fin_ret, fin_next, fin_exc, List.getElem?_cons_zero, List.getElem?_cons_succ, List.set_cons_zero, List.set_cons_succ, List.map_cons, List.map_nil, List.nil_append, List.cons_append, List.all_cons, List.all_nil, List.contains_nil, Bool.or_self, Bool.and_self, Bool.or_false, Bool.false_or, Bool.or_true, Bool.true_or, Bool.and_true, Bool.true_and, Bool.and_false, Bool.false_and, Bool.not_true, Bool.not_false, or_true, true_or, and_true, true_and, if_true, if_false, ite_true, ite_false, Bool.false_eq_true, reduceCtorEq, isV, isS, get_nil, get_val, owns_n, owns_v, owns_o, Option.map_some, decide_true, decide_false, tru_bool, tru_list, tru_tup, ix_l, ix_t, int_i, abs_i, add_ii, len_l, len_t, lst_neg, tup_t, tup_l, List.length_cons, List.length_nil, Nat.zero_add, Nat.reduceAdd, eq_self, setAll_c, setAll_n, setEnts_c, setEnts_n, asgTR_tup, Nat.zero_le, Nat.le_refl, all_of, any_of, wipe_nil, wipe_cons, back_nil, back_cons, backO_some, keep0_none, keep0_val, mul_ii, e_compX, compEnd_ok, compEnd_exc, e_zip, zipK_l, zipK_t, e_rng2, isi_bool, isi_str, isi_tup, isi_int, PyData.isStr, PyData.isTuple, PyData.isInt, PyData.isBool, PyData.plain, eq_ii, ne_ii, lt_ii, le_ii, gt_ii, ge_ii, eq_ss, ne_ss, le_ss, gf_8_3, gf_8_6, gg_2, gx_0, d, sp]
      rw [compX_q PyData.str rdDot pdI BF (Txt.split t ",") (by rw [List.length_nil]; omega)]
      · cases (Txt.split t ",").mapM rdDot with
        | none => rfl
        | some v => simp only [dSs, dS, den, denV, denR, denC, denO, denG, denJ, denOw, Den.val, BOp.F, COp.F, Bi.F, Me.F, TgA.tgt, bind_ok, bind_exc, bind_bad, opR_some, getR_some, varR_some, e_ixV, ixVR_some, truR_some, boolR_bool, andR_some, orR_some, itR_some, itemsOf, partR_int, e_var, e_varB, e_lit, e_op, e_op2, e_cons, e_nil, e_frz, e_tru, e_bool, e_seq, e_asg, e_expr, e_ret, e_retN, e_and, e_or, e_not, e_andT, e_orT, e_notT, e_if, e_un, e_m1, e_noPart, e_part, e_sl, e_only0, e_chain, chR_bool, e_str, e_jnil, e_jcons, strR_str, e_comp, e_in, e_rng1, e_enum, enR_list, e_next, e_brk, e_cont, e_ifS, e_for, e_par, e_ocons, e_asgT, e_app, e_setL, e_rais, e_cnil, e_cval, e_cown, e_callV, e_callO, callR_some, fresR_ok, fresR_exc, seqR_next, seqR_ret, seqR_exc, seqR_brk, seqR_cont, fin_ret, fin_next, fin_exc, List.getElem?_cons_zero, List.getElem?_cons_succ, List.set_cons_zero, List.set_cons_succ, List.map_cons, List.map_nil, List.nil_append, List.cons_append, List.all_cons, List.all_nil, List.contains_nil, Bool.or_self, Bool.and_self, Bool.or_false, Bool.false_or, Bool.or_true, Bool.true_or, Bool.and_true, Bool.true_and, Bool.and_false, Bool.false_and, Bool.not_true, Bool.not_false, or_true, true_or, and_true, true_and, if_true, if_false, ite_true, ite_false, Bool.false_eq_true, reduceCtorEq, isV, isS, get_nil, get_val, owns_n, owns_v, owns_o, Option.map_some, decide_true, decide_false, tru_bool, tru_list, tru_tup, ix_l, ix_t, int_i, abs_i, add_ii, len_l, len_t, lst_neg, tup_t, tup_l, List.length_cons, List.length_nil, Nat.zero_add, Nat.reduceAdd, eq_self, setAll_c, setAll_n, setEnts_c, setEnts_n, asgTR_tup, Nat.zero_le, Nat.le_refl, all_of, any_of, wipe_nil, wipe_cons, back_nil, back_cons, backO_some, keep0_none, keep0_val, mul_ii, e_compX, compEnd_ok, compEnd_exc, e_zip, zipK_l, zipK_t, e_rng2, isi_bool, isi_str, isi_tup, isi_int, PyData.isStr, PyData.isTuple, PyData.isInt, PyData.isBool, PyData.plain, eq_ii, ne_ii, lt_ii, le_ii, gt_ii, ge_ii, eq_ss, ne_ss, le_ss]
      · intro w hw
        have := rdot_F w (by have := l2 w hw; omega)
        refine ⟨_, rfl, ⟨0, ?_⟩, rfl⟩
        simp only [dSs, dS, den, denV, denR, denC, denO, denG, denJ, denOw, Den.val, BOp.F, COp.F, Bi.F, Me.F, TgA.tgt, bind_ok, bind_exc, bind_bad, opR_some, getR_some, varR_some, e_ixV, ixVR_some, truR_some, boolR_bool, andR_some, orR_some, itR_some, itemsOf, partR_int, e_var, e_varB, e_lit, e_op, e_op2, e_cons, e_nil, e_frz, e_tru, e_bool, e_seq, e_asg, e_expr, e_ret, e_retN, e_and, e_or, e_not, e_andT, e_orT, e_notT, e_if, e_un, e_m1, e_noPart, e_part, e_sl, e_only0, e_chain, chR_bool, e_str, e_jnil, e_jcons, strR_str, e_comp, e_in, e_rng1, e_enum, enR_list, e_next, e_brk, e_cont, e_ifS, e_for, e_par, e_ocons, e_asgT, e_app, e_setL, e_rais, e_cnil, e_cval, e_cown, e_callV, e_callO, callR_some, fresR_ok, fresR_exc, seqR_next, seqR_ret, seqR_exc, seqR_brk, seqR_cont, fin_ret, fin_next, fin_exc, List.getElem?_cons_zero, List.getElem?_cons_succ, List.set_cons_zero, List.set_cons_succ, List.map_cons, List.map_nil, List.nil_append, List.cons_append, List.all_cons, List.all_nil, List.contains_nil, Bool.or_self, Bool.and_self, Bool.or_false, Bool.false_or, Bool.or_true, Bool.true_or, Bool.and_true, Bool.true_and, Bool.and_false, Bool.false_and, Bool.not_true, Bool.not_false, or_true, true_or, and_true, true_and, if_true, if_false, ite_true, ite_false, Bool.false_eq_true, reduceCtorEq, isV, isS, get_nil, get_val, owns_n, owns_v, owns_o, Option.map_some, decide_true, decide_false, tru_bool, tru_list, tru_tup, ix_l, ix_t, int_i, abs_i, add_ii, len_l, len_t, lst_neg, tup_t, tup_l, List.length_cons, List.length_nil, Nat.zero_add, Nat.reduceAdd, eq_self, setAll_c, setAll_n, setEnts_c, setEnts_n, asgTR_tup, Nat.zero_le, Nat.le_refl, all_of, any_of, wipe_nil, wipe_cons, back_nil, back_cons, backO_some, keep0_none, keep0_val, mul_ii, e_compX, compEnd_ok, compEnd_exc, e_zip, zipK_l, zipK_t, e_rng2, isi_bool, isi_str, isi_tup, isi_int, PyData.isStr, PyData.isTuple, PyData.isInt, PyData.isBool, PyData.plain, eq_ii, ne_ii, lt_ii, le_ii, gt_ii, ge_ii, eq_ss, ne_ss, le_ss, gf_8_3, gf_8_6, gg_2, gx_0, this]
        cases rdDot w <;> rfl
    rw [ev]
    cases q : (Txt.split t ",").mapM rdDot with
    | none => rfl
    | some v =>
      obtain ⟨i1, i2⟩ := mapM_isD q
      dsimp only
      rw [fin v (by omega) i1]
      rfl
end K55
end

section
set_option Elab.async false
set_option linter.all false
set_option maxRecDepth 100000
set_option maxHeartbeats 4000000
namespace K55
open PySem PySem.Spec PyProof.Rows L2 Mb TL
def up (v : List (Int × Int)) (k : Nat) : Bool := decide ((v.getD (k + 1) (0, 0)).1 ≤ (v.getD k (0, 0)).1)
theorem asc_cons (a b : Int × Int) (v : List (Int × Int)) : asc (a :: b :: v) = (decide (a.1 < b.1) && asc (b :: v)) := rfl
theorem up_asc : ∀ v : List (Int × Int), ((List.range (v.length - 1)).filter (up v)).isEmpty = asc v
  | [] => rfl
  | [a] => rfl
  | a :: b :: v => by
    have ih := up_asc (b :: v)
    rw [asc_cons, ← ih]
    have e : (a :: b :: v).length - 1 = ((b :: v).length - 1) + 1 := by simp
    rw [e, List.range_succ_eq_map, List.filter_cons, List.filter_map]
    have f : (up (a :: b :: v)) ∘ Nat.succ = up (b :: v) := by
      funext k
      simp [up]
    rw [f]
    have u0 : up (a :: b :: v) 0 = !decide (a.1 < b.1) := by
      unfold up
      simp only [List.getD_cons_succ, List.getD_cons_zero]
      by_cases h : a.1 < b.1
      · rw [decide_eq_true h, decide_eq_false (by omega)]; rfl
      · rw [decide_eq_false h, decide_eq_true (by omega)]; rfl
    rw [u0]
    cases decide (a.1 < b.1) with
    | true => simp
    | false => simp
theorem at_pd (v : List (Int × Int)) (k : Nat) (h : k < v.length) : atI (v.map pdI) (k : Int) = some (pdI (v.getD k (0, 0))) := by
  rw [at_nat, List.getElem?_map, List.getElem?_eq_getElem h]
  simp [List.getD, List.getElem?_eq_getElem h]
theorem any_none (ws : List Str) : ((ws.map fun w => dotV (rdDot w)).any fun y => PyData.eqv y .none) = ws.any fun w => (rdDot w).isNone := by
  rw [List.any_map]
  congr 1
  funext w
  show PyData.eqv (dotV (rdDot w)) .none = _
  cases rdDot w <;> rfl
theorem mapM_any : ∀ ws : List Str, match ws.mapM rdDot with | some v => (ws.any fun w => (rdDot w).isNone) = false ∧ (ws.map fun w => dotV (rdDot w)) = v.map pdI | none => (ws.any fun w => (rdDot w).isNone) = true
  | [] => ⟨rfl, rfl⟩
  | w :: ws => by
    have ih := mapM_any ws
    rw [List.mapM_cons]
    cases q : rdDot w with
    | none =>
      show ((w :: ws).any fun w => (rdDot w).isNone) = true
      rw [List.any_cons, q]; rfl
    | some p =>
      cases q2 : ws.mapM rdDot with
      | none =>
        rw [q2] at ih
        show ((w :: ws).any fun w => (rdDot w).isNone) = true
        rw [List.any_cons, ih, Bool.or_true]
      | some u =>
        rw [q2] at ih
        show ((w :: ws).any fun w => (rdDot w).isNone) = false ∧ ((w :: ws).map fun w => dotV (rdDot w)) = (p :: u).map pdI
        rw [List.any_cons, ih.1, q, List.map_cons, ih.2, q]
        exact ⟨rfl, rfl⟩
theorem dotV_plain (w : Str) : (dotV (rdDot w)).plain = true := by
  cases rdDot w with
  | none => rfl
  | some p => exact pdI_plain p
theorem dotV_depth (w : Str) : (dotV (rdDot w)).depth ≤ 1 := by
  cases rdDot w with
  | none => simp [dotV, PyData.depth]
  | some p => exact Nat.le_of_eq (pdI_depth p)
theorem e_rng2i {f g : Ev → Res (Ent × Ev)} {o : Option Ent} {ε ε1 ε2 : Ev} (i j : Int) (n m : Nat) (h : frzR f (o :: ε) = .ok ((n, .int i), ε1)) (h2 : frzR g ε1 = .ok ((m, .int j), ε2)) (hb : -B62 ≤ i ∧ i < B62 ∧ -B62 ≤ j ∧ j < B62) : fRng2 f g (o :: ε) = .ok ((List.range (j - i).toNat).map fun (k : Nat) => .int (i + (k : Int)), ε2) := by
  rw [e_rng2, h]
  show (frzR g ε1).bind _ = _
  rw [h2]
  exact rng2K_i (ε := ε2) i j hb
theorem vecin_end (t : Str) (v : List (Int × Int)) (hv : v.length ≤ 1000) (ha : v.all isD = true) :
    finF 1 [] (dSs (G fl19) [] (.cons (.ret (.ite (.and (.cmp .nin .non (.var 1)) (.cmp .eq (.comp [("k", 3)] (.nm 3) (.rng2 (.int 1) (.bi .len (.var 1))) (.so (.cmp .ge (.idx (.idx (.var 1) (.bin .sub (.var 3) (.int 1))) (.int 0)) (.idx (.idx (.var 1) (.var 3)) (.int 0)))) (.var 3)) (.lst .nil))) (.var 1) .non)) .nil) [some (0, .str t), some (0, .tuple (v.map pdI)), none, none]) =
      .ok (0, vecV (if asc v = true then some v else none)) [none] := by
  have lim : 1000 ≤ LIM := by decide
  have b62 : (1000 : Int) < B62 := by rw [B62_eq]; decide
  have ln : lstD [] = some (1, .list []) := rfl
  have ni : ∀ n m, inF true [(n, .none), (m, .tuple (v.map pdI))] = some (0, .bool true) := by
    intro n m
    rw [in_t, if_pos]
    · have : ((v.map pdI).any fun y => PyData.eqv y .none) = false := by
        rw [List.any_map]
        exact List.any_eq_false.mpr fun x _ => by simp [pdI, PyData.eqv]
      rw [this]
      rfl
    · rw [plain_map pdI_plain v]
      simp [PyData.plain, PyData.depth]
  simp only [dSs, dS, den, denV, denR, denC, denO, denG, denJ, denOw, Den.val, BOp.F, COp.F, Bi.F, Me.F, TgA.tgt, bind_ok, bind_exc, bind_bad, opR_some, getR_some, varR_some, e_ixV, ixVR_some, truR_some, boolR_bool, andR_some, orR_some, itR_some, itemsOf, partR_int, e_var, e_varB, e_lit, e_op, e_op2, e_cons, e_nil, e_frz, e_tru, e_bool, e_seq, e_asg, e_expr, e_ret, e_retN, e_and, e_or, e_not, e_andT, e_orT, e_notT, e_if, e_un, e_m1, e_noPart, e_part, e_sl, e_only0, e_chain, chR_bool, e_str, e_jnil, e_jcons, strR_str, e_comp, e_in, e_rng1, e_enum, enR_list, e_next, e_brk, e_cont, e_ifS, e_for, e_par, e_ocons, e_asgT, e_app, e_setL, e_rais, e_cnil, e_cval, e_cown, e_callV, e_callO, callR_some, fresR_ok, fresR_exc, seqR_next, seqR_ret, seqR_exc, seqR_brk, seqR_cont, fin_ret, fin_next, fin_exc, List.getElem?_cons_zero, List.getElem?_cons_succ, List.set_cons_zero, List.set_cons_succ, List.map_cons, List.map_nil, List.nil_append, List.cons_append, List.all_cons, List.all_nil, List.contains_nil, Bool.or_self, Bool.and_self, Bool.or_false, Bool.false_or, Bool.or_true, Bool.true_or, Bool.and_true, Bool.true_and, Bool.and_false, Bool.false_and, Bool.not_true, Bool.not_false, or_true, true_or, and_true, true_and, if_true, if_false, ite_true, ite_false, Bool.false_eq_true, reduceCtorEq, isV, isS, get_nil, get_val, owns_n, owns_v, owns_o, Option.map_some, decide_true, decide_false, tru_bool, tru_list, tru_tup, ix_l, ix_t, int_i, abs_i, add_ii, len_l, len_t, lst_neg, tup_t, tup_l, List.length_cons, List.length_nil, Nat.zero_add, Nat.reduceAdd, eq_self, setAll_c, setAll_n, setEnts_c, setEnts_n, asgTR_tup, Nat.zero_le, Nat.le_refl, all_of, any_of, wipe_nil, wipe_cons, back_nil, back_cons, backO_some, keep0_none, keep0_val, mul_ii, e_compX, compEnd_ok, compEnd_exc, e_zip, zipK_l, zipK_t, isi_bool, isi_str, isi_tup, isi_int, PyData.isStr, PyData.isTuple, PyData.isInt, PyData.isBool, PyData.plain, eq_ii, ne_ii, lt_ii, le_ii, gt_ii, ge_ii, eq_ss, ne_ss, le_ss, ni, len_t]
  have h62 : -B62 ≤ (1 : Int) ∧ (1 : Int) < B62 ∧ -B62 ≤ (v.length : Int) ∧ (v.length : Int) < B62 := ⟨by omega, by omega, by omega, by omega⟩
  rw [e_rng2i (ε1 := [some (0, .str t), some (0, .tuple (v.map pdI)), none, none]) (ε2 := [some (0, .str t), some (0, .tuple (v.map pdI)), none, none]) 1 (v.length : Nat) 0 0 ?_ ?_ h62]
  rotate_left
  · simp only [dSs, dS, den, denV, denR, denC, denO, denG, denJ, denOw, Den.val, BOp.F, COp.F, Bi.F, Me.F, TgA.tgt, bind_ok, bind_exc, bind_bad, opR_some, getR_some, varR_some, e_ixV, ixVR_some, truR_some, boolR_bool, andR_some, orR_some, itR_some, itemsOf, partR_int, e_var, e_varB, e_lit, e_op, e_op2, e_cons, e_nil, e_frz, e_tru, e_bool, e_seq, e_asg, e_expr, e_ret, e_retN, e_and, e_or, e_not, e_andT, e_orT, e_notT, e_if, e_un, e_m1, e_noPart, e_part, e_sl, e_only0, e_chain, chR_bool, e_str, e_jnil, e_jcons, strR_str, e_comp, e_in, e_rng1, e_enum, enR_list, e_next, e_brk, e_cont, e_ifS, e_for, e_par, e_ocons, e_asgT, e_app, e_setL, e_rais, e_cnil, e_cval, e_cown, e_callV, e_callO, callR_some, fresR_ok, fresR_exc, seqR_next, seqR_ret, seqR_exc, seqR_brk, seqR_cont, fin_ret, fin_next, fin_exc, List.getElem?_cons_zero, List.getElem?_cons_succ, List.set_cons_zero, List.set_cons_succ, List.map_cons, List.map_nil, List.nil_append, List.cons_append, List.all_cons, List.all_nil, List.contains_nil, Bool.or_self, Bool.and_self, Bool.or_false, Bool.false_or, Bool.or_true, Bool.true_or, Bool.and_true, Bool.true_and, Bool.and_false, Bool.false_and, Bool.not_true, Bool.not_false, or_true, true_or, and_true, true_and, if_true, if_false, ite_true, ite_false, Bool.false_eq_true, reduceCtorEq, isV, isS, get_nil, get_val, owns_n, owns_v, owns_o, Option.map_some, decide_true, decide_false, tru_bool, tru_list, tru_tup, ix_l, ix_t, int_i, abs_i, add_ii, len_l, len_t, lst_neg, tup_t, tup_l, List.length_cons, List.length_nil, Nat.zero_add, Nat.reduceAdd, eq_self, setAll_c, setAll_n, setEnts_c, setEnts_n, asgTR_tup, Nat.zero_le, Nat.le_refl, all_of, any_of, wipe_nil, wipe_cons, back_nil, back_cons, backO_some, keep0_none, keep0_val, mul_ii, e_compX, compEnd_ok, compEnd_exc, e_zip, zipK_l, zipK_t, isi_bool, isi_str, isi_tup, isi_int, PyData.isStr, PyData.isTuple, PyData.isInt, PyData.isBool, PyData.plain, eq_ii, ne_ii, lt_ii, le_ii, gt_ii, ge_ii, eq_ss, ne_ss, le_ss]
  · simp only [dSs, dS, den, denV, denR, denC, denO, denG, denJ, denOw, Den.val, BOp.F, COp.F, Bi.F, Me.F, TgA.tgt, bind_ok, bind_exc, bind_bad, opR_some, getR_some, varR_some, e_ixV, ixVR_some, truR_some, boolR_bool, andR_some, orR_some, itR_some, itemsOf, partR_int, e_var, e_varB, e_lit, e_op, e_op2, e_cons, e_nil, e_frz, e_tru, e_bool, e_seq, e_asg, e_expr, e_ret, e_retN, e_and, e_or, e_not, e_andT, e_orT, e_notT, e_if, e_un, e_m1, e_noPart, e_part, e_sl, e_only0, e_chain, chR_bool, e_str, e_jnil, e_jcons, strR_str, e_comp, e_in, e_rng1, e_enum, enR_list, e_next, e_brk, e_cont, e_ifS, e_for, e_par, e_ocons, e_asgT, e_app, e_setL, e_rais, e_cnil, e_cval, e_cown, e_callV, e_callO, callR_some, fresR_ok, fresR_exc, seqR_next, seqR_ret, seqR_exc, seqR_brk, seqR_cont, fin_ret, fin_next, fin_exc, List.getElem?_cons_zero, List.getElem?_cons_succ, List.set_cons_zero, List.set_cons_succ, List.map_cons, List.map_nil, List.nil_append, List.cons_append, List.all_cons, List.all_nil, List.contains_nil, Bool.or_self, Bool.and_self, Bool.or_false, Bool.false_or, Bool.or_true, Bool.true_or, Bool.and_true, Bool.true_and, Bool.and_false, Bool.false_and, Bool.not_true, Bool.not_false, or_true, true_or, and_true, true_and, if_true, if_false, ite_true, ite_false, Bool.false_eq_true, reduceCtorEq, isV, isS, get_nil, get_val, owns_n, owns_v, owns_o, Option.map_some, decide_true, decide_false, tru_bool, tru_list, tru_tup, ix_l, ix_t, int_i, abs_i, add_ii, len_l, len_t, lst_neg, tup_t, tup_l, List.length_cons, List.length_nil, Nat.zero_add, Nat.reduceAdd, eq_self, setAll_c, setAll_n, setEnts_c, setEnts_n, asgTR_tup, Nat.zero_le, Nat.le_refl, all_of, any_of, wipe_nil, wipe_cons, back_nil, back_cons, backO_some, keep0_none, keep0_val, mul_ii, e_compX, compEnd_ok, compEnd_exc, e_zip, zipK_l, zipK_t, isi_bool, isi_str, isi_tup, isi_int, PyData.isStr, PyData.isTuple, PyData.isInt, PyData.isBool, PyData.plain, eq_ii, ne_ii, lt_ii, le_ii, gt_ii, ge_ii, eq_ss, ne_ss, le_ss, len_t, List.length_map]
  rw [show ((v.length : Int) - 1).toNat = v.length - 1 by omega]
  simp only [dSs, dS, den, denV, denR, denC, denO, denG, denJ, denOw, Den.val, BOp.F, COp.F, Bi.F, Me.F, TgA.tgt, bind_ok, bind_exc, bind_bad, opR_some, getR_some, varR_some, e_ixV, ixVR_some, truR_some, boolR_bool, andR_some, orR_some, itR_some, itemsOf, partR_int, e_var, e_varB, e_lit, e_op, e_op2, e_cons, e_nil, e_frz, e_tru, e_bool, e_seq, e_asg, e_expr, e_ret, e_retN, e_and, e_or, e_not, e_andT, e_orT, e_notT, e_if, e_un, e_m1, e_noPart, e_part, e_sl, e_only0, e_chain, chR_bool, e_str, e_jnil, e_jcons, strR_str, e_comp, e_in, e_rng1, e_enum, enR_list, e_next, e_brk, e_cont, e_ifS, e_for, e_par, e_ocons, e_asgT, e_app, e_setL, e_rais, e_cnil, e_cval, e_cown, e_callV, e_callO, callR_some, fresR_ok, fresR_exc, seqR_next, seqR_ret, seqR_exc, seqR_brk, seqR_cont, fin_ret, fin_next, fin_exc, List.getElem?_cons_zero, List.getElem?_cons_succ, List.set_cons_zero, List.set_cons_succ, List.map_cons, List.map_nil, List.nil_append, List.cons_append, List.all_cons, List.all_nil, List.contains_nil, Bool.or_self, Bool.and_self, Bool.or_false, Bool.false_or, Bool.or_true, Bool.true_or, Bool.and_true, Bool.true_and, Bool.and_false, Bool.false_and, Bool.not_true, Bool.not_false, or_true, true_or, and_true, true_and, if_true, if_false, ite_true, ite_false, Bool.false_eq_true, reduceCtorEq, isV, isS, get_nil, get_val, owns_n, owns_v, owns_o, Option.map_some, decide_true, decide_false, tru_bool, tru_list, tru_tup, ix_l, ix_t, int_i, abs_i, add_ii, len_l, len_t, lst_neg, tup_t, tup_l, List.length_cons, List.length_nil, Nat.zero_add, Nat.reduceAdd, eq_self, setAll_c, setAll_n, setEnts_c, setEnts_n, asgTR_tup, Nat.zero_le, Nat.le_refl, all_of, any_of, wipe_nil, wipe_cons, back_nil, back_cons, backO_some, keep0_none, keep0_val, mul_ii, e_compX, compEnd_ok, compEnd_exc, e_zip, zipK_l, zipK_t, isi_bool, isi_str, isi_tup, isi_int, PyData.isStr, PyData.isTuple, PyData.isInt, PyData.isBool, PyData.plain, eq_ii, ne_ii, lt_ii, le_ii, gt_ii, ge_ii, eq_ss, ne_ss, le_ss]
  rw [comp_q (fun (k : Nat) => .int (1 + (k : Int))) (up v) (fun (k : Nat) => .int (1 + (k : Int))) (List.range (v.length - 1)) (by rw [List.length_range, List.length_nil]; omega)]
  · have pl := plain_map (k := fun k : Nat => PyData.int (1 + (k : Int))) (fun _ => by simp [PyData.plain]) ((List.range (v.length - 1)).filter (up v))
    have nl := fun n m => eq_lnil n m _ pl
    have emp : (((List.range (v.length - 1)).filter (up v)).map fun k : Nat => PyData.int (1 + (k : Int))).isEmpty = asc v := by
      rw [← up_asc v]
      cases ((List.range (v.length - 1)).filter (up v)) <;> rfl
    simp only [dSs, dS, den, denV, denR, denC, denO, denG, denJ, denOw, Den.val, BOp.F, COp.F, Bi.F, Me.F, TgA.tgt, bind_ok, bind_exc, bind_bad, opR_some, getR_some, varR_some, e_ixV, ixVR_some, truR_some, boolR_bool, andR_some, orR_some, itR_some, itemsOf, partR_int, e_var, e_varB, e_lit, e_op, e_op2, e_cons, e_nil, e_frz, e_tru, e_bool, e_seq, e_asg, e_expr, e_ret, e_retN, e_and, e_or, e_not, e_andT, e_orT, e_notT, e_if, e_un, e_m1, e_noPart, e_part, e_sl, e_only0, e_chain, chR_bool, e_str, e_jnil, e_jcons, strR_str, e_comp, e_in, e_rng1, e_enum, enR_list, e_next, e_brk, e_cont, e_ifS, e_for, e_par, e_ocons, e_asgT, e_app, e_setL, e_rais, e_cnil, e_cval, e_cown, e_callV, e_callO, callR_some, fresR_ok, fresR_exc, seqR_next, seqR_ret, seqR_exc, seqR_brk, seqR_cont, fin_ret, fin_next, fin_exc, List.getElem?_cons_zero, List.getElem?_cons_succ, List.set_cons_zero, List.set_cons_succ, List.map_cons, List.map_nil, List.nil_append, List.cons_append, List.all_cons, List.all_nil, List.contains_nil, Bool.or_self, Bool.and_self, Bool.or_false, Bool.false_or, Bool.or_true, Bool.true_or, Bool.and_true, Bool.true_and, Bool.and_false, Bool.false_and, Bool.not_true, Bool.not_false, or_true, true_or, and_true, true_and, if_true, if_false, ite_true, ite_false, Bool.false_eq_true, reduceCtorEq, isV, isS, get_nil, get_val, owns_n, owns_v, owns_o, Option.map_some, decide_true, decide_false, tru_bool, tru_list, tru_tup, ix_l, ix_t, int_i, abs_i, add_ii, len_l, len_t, lst_neg, tup_t, tup_l, List.length_cons, List.length_nil, Nat.zero_add, Nat.reduceAdd, eq_self, setAll_c, setAll_n, setEnts_c, setEnts_n, asgTR_tup, Nat.zero_le, Nat.le_refl, all_of, any_of, wipe_nil, wipe_cons, back_nil, back_cons, backO_some, keep0_none, keep0_val, mul_ii, e_compX, compEnd_ok, compEnd_exc, e_zip, zipK_l, zipK_t, isi_bool, isi_str, isi_tup, isi_int, PyData.isStr, PyData.isTuple, PyData.isInt, PyData.isBool, PyData.plain, eq_ii, ne_ii, lt_ii, le_ii, gt_ii, ge_ii, eq_ss, ne_ss, le_ss, ln, nl, emp]
    cases asc v with
    | true =>
      simp only [dSs, dS, den, denV, denR, denC, denO, denG, denJ, denOw, Den.val, BOp.F, COp.F, Bi.F, Me.F, TgA.tgt, bind_ok, bind_exc, bind_bad, opR_some, getR_some, varR_some, e_ixV, ixVR_some, truR_some, boolR_bool, andR_some, orR_some, itR_some, itemsOf, partR_int, e_var, e_varB, e_lit, e_op, e_op2, e_cons, e_nil, e_frz, e_tru, e_bool, e_seq, e_asg, e_expr, e_ret, e_retN, e_and, e_or, e_not, e_andT, e_orT, e_notT, e_if, e_un, e_m1, e_noPart, e_part, e_sl, e_only0, e_chain, chR_bool, e_str, e_jnil, e_jcons, strR_str, e_comp, e_in, e_rng1, e_enum, enR_list, e_next, e_brk, e_cont, e_ifS, e_for, e_par, e_ocons, e_asgT, e_app, e_setL, e_rais, e_cnil, e_cval, e_cown, e_callV, e_callO, callR_some, fresR_ok, fresR_exc, seqR_next, seqR_ret, seqR_exc, seqR_brk, seqR_cont, fin_ret, fin_next, fin_exc, List.getElem?_cons_zero, List.getElem?_cons_succ, List.set_cons_zero, List.set_cons_succ, List.map_cons, List.map_nil, List.nil_append, List.cons_append, List.all_cons, List.all_nil, List.contains_nil, Bool.or_self, Bool.and_self, Bool.or_false, Bool.false_or, Bool.or_true, Bool.true_or, Bool.and_true, Bool.true_and, Bool.and_false, Bool.false_and, Bool.not_true, Bool.not_false, or_true, true_or, and_true, true_and, if_true, if_false, ite_true, ite_false, Bool.false_eq_true, reduceCtorEq, isV, isS, get_nil, get_val, owns_n, owns_v, owns_o, Option.map_some, decide_true, decide_false, tru_bool, tru_list, tru_tup, ix_l, ix_t, int_i, abs_i, add_ii, len_l, len_t, lst_neg, tup_t, tup_l, List.length_cons, List.length_nil, Nat.zero_add, Nat.reduceAdd, eq_self, setAll_c, setAll_n, setEnts_c, setEnts_n, asgTR_tup, Nat.zero_le, Nat.le_refl, all_of, any_of, wipe_nil, wipe_cons, back_nil, back_cons, backO_some, keep0_none, keep0_val, mul_ii, e_compX, compEnd_ok, compEnd_exc, e_zip, zipK_l, zipK_t, isi_bool, isi_str, isi_tup, isi_int, PyData.isStr, PyData.isTuple, PyData.isInt, PyData.isBool, PyData.plain, eq_ii, ne_ii, lt_ii, le_ii, gt_ii, ge_ii, eq_ss, ne_ss, le_ss]
      rfl
    | false =>
      simp only [dSs, dS, den, denV, denR, denC, denO, denG, denJ, denOw, Den.val, BOp.F, COp.F, Bi.F, Me.F, TgA.tgt, bind_ok, bind_exc, bind_bad, opR_some, getR_some, varR_some, e_ixV, ixVR_some, truR_some, boolR_bool, andR_some, orR_some, itR_some, itemsOf, partR_int, e_var, e_varB, e_lit, e_op, e_op2, e_cons, e_nil, e_frz, e_tru, e_bool, e_seq, e_asg, e_expr, e_ret, e_retN, e_and, e_or, e_not, e_andT, e_orT, e_notT, e_if, e_un, e_m1, e_noPart, e_part, e_sl, e_only0, e_chain, chR_bool, e_str, e_jnil, e_jcons, strR_str, e_comp, e_in, e_rng1, e_enum, enR_list, e_next, e_brk, e_cont, e_ifS, e_for, e_par, e_ocons, e_asgT, e_app, e_setL, e_rais, e_cnil, e_cval, e_cown, e_callV, e_callO, callR_some, fresR_ok, fresR_exc, seqR_next, seqR_ret, seqR_exc, seqR_brk, seqR_cont, fin_ret, fin_next, fin_exc, List.getElem?_cons_zero, List.getElem?_cons_succ, List.set_cons_zero, List.set_cons_succ, List.map_cons, List.map_nil, List.nil_append, List.cons_append, List.all_cons, List.all_nil, List.contains_nil, Bool.or_self, Bool.and_self, Bool.or_false, Bool.false_or, Bool.or_true, Bool.true_or, Bool.and_true, Bool.true_and, Bool.and_false, Bool.false_and, Bool.not_true, Bool.not_false, or_true, true_or, and_true, true_and, if_true, if_false, ite_true, ite_false, Bool.false_eq_true, reduceCtorEq, isV, isS, get_nil, get_val, owns_n, owns_v, owns_o, Option.map_some, decide_true, decide_false, tru_bool, tru_list, tru_tup, ix_l, ix_t, int_i, abs_i, add_ii, len_l, len_t, lst_neg, tup_t, tup_l, List.length_cons, List.length_nil, Nat.zero_add, Nat.reduceAdd, eq_self, setAll_c, setAll_n, setEnts_c, setEnts_n, asgTR_tup, Nat.zero_le, Nat.le_refl, all_of, any_of, wipe_nil, wipe_cons, back_nil, back_cons, backO_some, keep0_none, keep0_val, mul_ii, e_compX, compEnd_ok, compEnd_exc, e_zip, zipK_l, zipK_t, isi_bool, isi_str, isi_tup, isi_int, PyData.isStr, PyData.isTuple, PyData.isInt, PyData.isBool, PyData.plain, eq_ii, ne_ii, lt_ii, le_ii, gt_ii, ge_ii, eq_ss, ne_ss, le_ss]
      rfl
  · intro k hk
    have hk := List.mem_range.mp hk
    have a1 := at_pd v k (by omega)
    have a2 := at_pd v (k + 1) (by omega)
    have e1 : ((k + 1 : Nat) : Int) - 1 = (k : Int) := by omega
    have e2 : (1 : Int) + (k : Int) = ((k + 1 : Nat) : Int) := by omega
    refine ⟨_, rfl, ?_, fun _ => ⟨0, ?_⟩, rfl⟩
    · simp only [dSs, dS, den, denV, denR, denC, denO, denG, denJ, denOw, Den.val, BOp.F, COp.F, Bi.F, Me.F, TgA.tgt, bind_ok, bind_exc, bind_bad, opR_some, getR_some, varR_some, e_ixV, ixVR_some, truR_some, boolR_bool, andR_some, orR_some, itR_some, itemsOf, partR_int, e_var, e_varB, e_lit, e_op, e_op2, e_cons, e_nil, e_frz, e_tru, e_bool, e_seq, e_asg, e_expr, e_ret, e_retN, e_and, e_or, e_not, e_andT, e_orT, e_notT, e_if, e_un, e_m1, e_noPart, e_part, e_sl, e_only0, e_chain, chR_bool, e_str, e_jnil, e_jcons, strR_str, e_comp, e_in, e_rng1, e_enum, enR_list, e_next, e_brk, e_cont, e_ifS, e_for, e_par, e_ocons, e_asgT, e_app, e_setL, e_rais, e_cnil, e_cval, e_cown, e_callV, e_callO, callR_some, fresR_ok, fresR_exc, seqR_next, seqR_ret, seqR_exc, seqR_brk, seqR_cont, fin_ret, fin_next, fin_exc, List.getElem?_cons_zero, List.getElem?_cons_succ, List.set_cons_zero, List.set_cons_succ, List.map_cons, List.map_nil, List.nil_append, List.cons_append, List.all_cons, List.all_nil, List.contains_nil, Bool.or_self, Bool.and_self, Bool.or_false, Bool.false_or, Bool.or_true, Bool.true_or, Bool.and_true, Bool.true_and, Bool.and_false, Bool.false_and, Bool.not_true, Bool.not_false, or_true, true_or, and_true, true_and, if_true, if_false, ite_true, ite_false, Bool.false_eq_true, reduceCtorEq, isV, isS, get_nil, get_val, owns_n, owns_v, owns_o, Option.map_some, decide_true, decide_false, tru_bool, tru_list, tru_tup, ix_l, ix_t, int_i, abs_i, add_ii, len_l, len_t, lst_neg, tup_t, tup_l, List.length_cons, List.length_nil, Nat.zero_add, Nat.reduceAdd, eq_self, setAll_c, setAll_n, setEnts_c, setEnts_n, asgTR_tup, Nat.zero_le, Nat.le_refl, all_of, any_of, wipe_nil, wipe_cons, back_nil, back_cons, backO_some, keep0_none, keep0_val, mul_ii, e_compX, compEnd_ok, compEnd_exc, e_zip, zipK_l, zipK_t, isi_bool, isi_str, isi_tup, isi_int, PyData.isStr, PyData.isTuple, PyData.isInt, PyData.isBool, PyData.plain, eq_ii, ne_ii, lt_ii, le_ii, gt_ii, ge_ii, eq_ss, ne_ss, le_ss, sub_ii, ix_t, e1, a1, e2, a2, pdI_0]
      rfl
    · simp only [dSs, dS, den, denV, denR, denC, denO, denG, denJ, denOw, Den.val, BOp.F, COp.F, Bi.F, Me.F, TgA.tgt, bind_ok, bind_exc, bind_bad, opR_some, getR_some, varR_some, e_ixV, ixVR_some, truR_some, boolR_bool, andR_some, orR_some, itR_some, itemsOf, partR_int, e_var, e_varB, e_lit, e_op, e_op2, e_cons, e_nil, e_frz, e_tru, e_bool, e_seq, e_asg, e_expr, e_ret, e_retN, e_and, e_or, e_not, e_andT, e_orT, e_notT, e_if, e_un, e_m1, e_noPart, e_part, e_sl, e_only0, e_chain, chR_bool, e_str, e_jnil, e_jcons, strR_str, e_comp, e_in, e_rng1, e_enum, enR_list, e_next, e_brk, e_cont, e_ifS, e_for, e_par, e_ocons, e_asgT, e_app, e_setL, e_rais, e_cnil, e_cval, e_cown, e_callV, e_callO, callR_some, fresR_ok, fresR_exc, seqR_next, seqR_ret, seqR_exc, seqR_brk, seqR_cont, fin_ret, fin_next, fin_exc, List.getElem?_cons_zero, List.getElem?_cons_succ, List.set_cons_zero, List.set_cons_succ, List.map_cons, List.map_nil, List.nil_append, List.cons_append, List.all_cons, List.all_nil, List.contains_nil, Bool.or_self, Bool.and_self, Bool.or_false, Bool.false_or, Bool.or_true, Bool.true_or, Bool.and_true, Bool.true_and, Bool.and_false, Bool.false_and, Bool.not_true, Bool.not_false, or_true, true_or, and_true, true_and, if_true, if_false, ite_true, ite_false, Bool.false_eq_true, reduceCtorEq, isV, isS, get_nil, get_val, owns_n, owns_v, owns_o, Option.map_some, decide_true, decide_false, tru_bool, tru_list, tru_tup, ix_l, ix_t, int_i, abs_i, add_ii, len_l, len_t, lst_neg, tup_t, tup_l, List.length_cons, List.length_nil, Nat.zero_add, Nat.reduceAdd, eq_self, setAll_c, setAll_n, setEnts_c, setEnts_n, asgTR_tup, Nat.zero_le, Nat.le_refl, all_of, any_of, wipe_nil, wipe_cons, back_nil, back_cons, backO_some, keep0_none, keep0_val, mul_ii, e_compX, compEnd_ok, compEnd_exc, e_zip, zipK_l, zipK_t, isi_bool, isi_str, isi_tup, isi_int, PyData.isStr, PyData.isTuple, PyData.isInt, PyData.isBool, PyData.plain, eq_ii, ne_ii, lt_ii, le_ii, gt_ii, ge_ii, eq_ss, ne_ss, le_ss]
theorem vecin_F (t : Str) (hl : t.length ≤ 500) : F__law_vector_in [(0, .str t)] = .ok (0, vecV (rdVec t)) [none] := by
  have lim : 1000 ≤ LIM := by decide
  have tl2 : t.length + 2 ≤ LIM := by omega
  have sp := fun n m => split_of ecom n (m := m) tl2
  obtain ⟨l1, l2, l3⟩ := pieces_len ecom kcom t
  unfold F__law_vector_in b__law_vector_in
  simp only [e_run, List.length_cons, List.length_nil, if_true, List.map_cons, List.map_nil, List.cons_append, List.nil_append, List.replicate_succ, List.replicate_zero, Nat.reduceSub, Nat.reduceAdd]
  rw [dSs, e_seq]
  unfold rdVec
  by_cases a1 : t = "-"
  · have d : decide (t = ("-" : Str)) = true := decide_eq_true a1
    have t0 : tupD [] = some (0, .tuple []) := rfl
    rw [show dS (G fl19) [] (.asg 1 (.ite (.cmp .eq (.var 0) (.str "-")) (.tup .nil) (.bi .tuple (.comp [("word", 2)] (.nm 2) (.inn (.me .split (.var 0) (.str ","))) .no (.call 18 (.val (.var 2) .nil)))))) [some (0, .str t), none, none, none] = .ok (.next, [some (0, .str t), some (0, .tuple (([] : List (Int × Int)).map pdI)), none, none]) from by
      simp only [dSs, dS, den, denV, denR, denC, denO, denG, denJ, denOw, Den.val, BOp.F, COp.F, Bi.F, Me.F, TgA.tgt, bind_ok, bind_exc, bind_bad, opR_some, getR_some, varR_some, e_ixV, ixVR_some, truR_some, boolR_bool, andR_some, orR_some, itR_some, itemsOf, partR_int, e_var, e_varB, e_lit, e_op, e_op2, e_cons, e_nil, e_frz, e_tru, e_bool, e_seq, e_asg, e_expr, e_ret, e_retN, e_and, e_or, e_not, e_andT, e_orT, e_notT, e_if, e_un, e_m1, e_noPart, e_part, e_sl, e_only0, e_chain, chR_bool, e_str, e_jnil, e_jcons, strR_str, e_comp, e_in, e_rng1, e_enum, enR_list, e_next, e_brk, e_cont, e_ifS, e_for, e_par, e_ocons, e_asgT, e_app, e_setL, e_rais, e_cnil, e_cval, e_cown, e_callV, e_callO, callR_some, fresR_ok, fresR_exc, seqR_next, seqR_ret, seqR_exc, seqR_brk, seqR_cont, fin_ret, fin_next, fin_exc, List.getElem?_cons_zero, List.getElem?_cons_succ, List.set_cons_zero, List.set_cons_succ, List.map_cons, List.map_nil, List.nil_append, List.cons_append, List.all_cons, List.all_nil, List.contains_nil, Bool.or_self, Bool.and_self, Bool.or_false, Bool.false_or, Bool.or_true, Bool.true_or, Bool.and_true, Bool.true_and, Bool.and_false, Bool.false_and, Bool.not_true, Bool.not_false, or_true, true_or, and_true, true_and, if_true, if_false, ite_true, ite_false, Bool.false_eq_true, reduceCtorEq, isV, isS, get_nil, get_val, owns_n, owns_v, owns_o, Option.map_some, decide_true, decide_false, tru_bool, tru_list, tru_tup, ix_l, ix_t, int_i, abs_i, add_ii, len_l, len_t, lst_neg, tup_t, tup_l, List.length_cons, List.length_nil, Nat.zero_add, Nat.reduceAdd, eq_self, setAll_c, setAll_n, setEnts_c, setEnts_n, asgTR_tup, Nat.zero_le, Nat.le_refl, all_of, any_of, wipe_nil, wipe_cons, back_nil, back_cons, backO_some, keep0_none, keep0_val, mul_ii, e_compX, compEnd_ok, compEnd_exc, e_zip, zipK_l, zipK_t, isi_bool, isi_str, isi_tup, isi_int, PyData.isStr, PyData.isTuple, PyData.isInt, PyData.isBool, PyData.plain, eq_ii, ne_ii, lt_ii, le_ii, gt_ii, ge_ii, eq_ss, ne_ss, le_ss, d, t0]]
    rw [seqR_next, vecin_end t [] (by decide) rfl, if_pos a1]
    rfl
  · have d : decide (t = ("-" : Str)) = false := decide_eq_false a1
    rw [if_neg a1]
    have ev : dS (G fl19) [] (.asg 1 (.ite (.cmp .eq (.var 0) (.str "-")) (.tup .nil) (.bi .tuple (.comp [("word", 2)] (.nm 2) (.inn (.me .split (.var 0) (.str ","))) .no (.call 18 (.val (.var 2) .nil)))))) [some (0, .str t), none, none, none] = .ok (.next, [some (0, .str t), some (0, .tuple ((Txt.split t ",").map fun w => dotV (rdDot w))), none, none]) := by
      simp only [dSs, dS, den, denV, denR, denC, denO, denG, denJ, denOw, Den.val, BOp.F, COp.F, Bi.F, Me.F, TgA.tgt, bind_ok, bind_exc, bind_bad, opR_some, getR_some, varR_some, e_ixV, ixVR_some, truR_some, boolR_bool, andR_some, orR_some, itR_some, itemsOf, partR_int, e_var, e_varB, e_lit, e_op, e_op2, e_cons, e_nil, e_frz, e_tru, e_bool, e_seq, e_asg, e_expr, e_ret, e_retN, e_and, e_or, e_not, e_andT, e_orT, e_notT, e_if, e_un, e_m1, e_noPart, e_part, e_sl, e_only0, e_chain, chR_bool, e_str, e_jnil, e_jcons, strR_str, e_comp, e_in, e_rng1, e_enum, enR_list, e_next, e_brk, e_cont, e_ifS, e_for, e_par, e_ocons, e_asgT, e_app, e_setL, e_rais, e_cnil, e_cval, e_cown, e_callV, e_callO, callR_some, fresR_ok, fresR_exc, seqR_next, seqR_ret, seqR_exc, seqR_brk, seqR_cont, fin_ret, fin_next, fin_exc, List.getElem?_cons_zero, List.getElem?_cons_succ, List.set_cons_zero, List.set_cons_succ, List.map_cons, List.map_nil, List.nil_append, List.cons_append, List.all_cons, List.all_nil, List.contains_nil, Bool.or_self, Bool.and_self, Bool.or_false, Bool.false_or, Bool.or_true, Bool.true_or, Bool.and_true, Bool.true_and, Bool.and_false, Bool.false_and, Bool.not_true, Bool.not_false, or_true, true_or, and_true, true_and, if_true, if_false, ite_true, ite_false, Bool.false_eq_true, reduceCtorEq, isV, isS, get_nil, get_val, owns_n, owns_v, owns_o, Option.map_some, decide_true, decide_false, tru_bool, tru_list, tru_tup, ix_l, ix_t, int_i, abs_i, add_ii, len_l, len_t, lst_neg, tup_t, tup_l, List.length_cons, List.length_nil, Nat.zero_add, Nat.reduceAdd, eq_self, setAll_c, setAll_n, setEnts_c, setEnts_n, asgTR_tup, Nat.zero_le, Nat.le_refl, all_of, any_of, wipe_nil, wipe_cons, back_nil, back_cons, backO_some, keep0_none, keep0_val, mul_ii, e_compX, compEnd_ok, compEnd_exc, e_zip, zipK_l, zipK_t, isi_bool, isi_str, isi_tup, isi_int, PyData.isStr, PyData.isTuple, PyData.isInt, PyData.isBool, PyData.plain, eq_ii, ne_ii, lt_ii, le_ii, gt_ii, ge_ii, eq_ss, ne_ss, le_ss, gf_19_18, d, sp]
      rw [comp_all PyData.str (fun w => dotV (rdDot w)) (Txt.split t ",") (by omega)]
      · simp only [dSs, dS, den, denV, denR, denC, denO, denG, denJ, denOw, Den.val, BOp.F, COp.F, Bi.F, Me.F, TgA.tgt, bind_ok, bind_exc, bind_bad, opR_some, getR_some, varR_some, e_ixV, ixVR_some, truR_some, boolR_bool, andR_some, orR_some, itR_some, itemsOf, partR_int, e_var, e_varB, e_lit, e_op, e_op2, e_cons, e_nil, e_frz, e_tru, e_bool, e_seq, e_asg, e_expr, e_ret, e_retN, e_and, e_or, e_not, e_andT, e_orT, e_notT, e_if, e_un, e_m1, e_noPart, e_part, e_sl, e_only0, e_chain, chR_bool, e_str, e_jnil, e_jcons, strR_str, e_comp, e_in, e_rng1, e_enum, enR_list, e_next, e_brk, e_cont, e_ifS, e_for, e_par, e_ocons, e_asgT, e_app, e_setL, e_rais, e_cnil, e_cval, e_cown, e_callV, e_callO, callR_some, fresR_ok, fresR_exc, seqR_next, seqR_ret, seqR_exc, seqR_brk, seqR_cont, fin_ret, fin_next, fin_exc, List.getElem?_cons_zero, List.getElem?_cons_succ, List.set_cons_zero, List.set_cons_succ, List.map_cons, List.map_nil, List.nil_append, List.cons_append, List.all_cons, List.all_nil, List.contains_nil, Bool.or_self, Bool.and_self, Bool.or_false, Bool.false_or, Bool.or_true, Bool.true_or, Bool.and_true, Bool.true_and, Bool.and_false, Bool.false_and, Bool.not_true, Bool.not_false, or_true, true_or, and_true, true_and, if_true, if_false, ite_true, ite_false, Bool.false_eq_true, reduceCtorEq, isV, isS, get_nil, get_val, owns_n, owns_v, owns_o, Option.map_some, decide_true, decide_false, tru_bool, tru_list, tru_tup, ix_l, ix_t, int_i, abs_i, add_ii, len_l, len_t, lst_neg, tup_t, tup_l, List.length_cons, List.length_nil, Nat.zero_add, Nat.reduceAdd, eq_self, setAll_c, setAll_n, setEnts_c, setEnts_n, asgTR_tup, Nat.zero_le, Nat.le_refl, all_of, any_of, wipe_nil, wipe_cons, back_nil, back_cons, backO_some, keep0_none, keep0_val, mul_ii, e_compX, compEnd_ok, compEnd_exc, e_zip, zipK_l, zipK_t, isi_bool, isi_str, isi_tup, isi_int, PyData.isStr, PyData.isTuple, PyData.isInt, PyData.isBool, PyData.plain, eq_ii, ne_ii, lt_ii, le_ii, gt_ii, ge_ii, eq_ss, ne_ss, le_ss]
      · intro w hw
        have := dotin_F w (by have := l2 w hw; omega)
        refine ⟨_, rfl, ⟨0, ?_⟩, rfl⟩
        simp only [dSs, dS, den, denV, denR, denC, denO, denG, denJ, denOw, Den.val, BOp.F, COp.F, Bi.F, Me.F, TgA.tgt, bind_ok, bind_exc, bind_bad, opR_some, getR_some, varR_some, e_ixV, ixVR_some, truR_some, boolR_bool, andR_some, orR_some, itR_some, itemsOf, partR_int, e_var, e_varB, e_lit, e_op, e_op2, e_cons, e_nil, e_frz, e_tru, e_bool, e_seq, e_asg, e_expr, e_ret, e_retN, e_and, e_or, e_not, e_andT, e_orT, e_notT, e_if, e_un, e_m1, e_noPart, e_part, e_sl, e_only0, e_chain, chR_bool, e_str, e_jnil, e_jcons, strR_str, e_comp, e_in, e_rng1, e_enum, enR_list, e_next, e_brk, e_cont, e_ifS, e_for, e_par, e_ocons, e_asgT, e_app, e_setL, e_rais, e_cnil, e_cval, e_cown, e_callV, e_callO, callR_some, fresR_ok, fresR_exc, seqR_next, seqR_ret, seqR_exc, seqR_brk, seqR_cont, fin_ret, fin_next, fin_exc, List.getElem?_cons_zero, List.getElem?_cons_succ, List.set_cons_zero, List.set_cons_succ, List.map_cons, List.map_nil, List.nil_append, List.cons_append, List.all_cons, List.all_nil, List.contains_nil, Bool.or_self, Bool.and_self, Bool.or_false, Bool.false_or, Bool.or_true, Bool.true_or, Bool.and_true, Bool.true_and, Bool.and_false, Bool.false_and, Bool.not_true, Bool.not_false, or_true, true_or, and_true, true_and, if_true, if_false, ite_true, ite_false, Bool.false_eq_true, reduceCtorEq, isV, isS, get_nil, get_val, owns_n, owns_v, owns_o, Option.map_some, decide_true, decide_false, tru_bool, tru_list, tru_tup, ix_l, ix_t, int_i, abs_i, add_ii, len_l, len_t, lst_neg, tup_t, tup_l, List.length_cons, List.length_nil, Nat.zero_add, Nat.reduceAdd, eq_self, setAll_c, setAll_n, setEnts_c, setEnts_n, asgTR_tup, Nat.zero_le, Nat.le_refl, all_of, any_of, wipe_nil, wipe_cons, back_nil, back_cons, backO_some, keep0_none, keep0_val, mul_ii, e_compX, compEnd_ok, compEnd_exc, e_zip, zipK_l, zipK_t, isi_bool, isi_str, isi_tup, isi_int, PyData.isStr, PyData.isTuple, PyData.isInt, PyData.isBool, PyData.plain, eq_ii, ne_ii, lt_ii, le_ii, gt_ii, ge_ii, eq_ss, ne_ss, le_ss, gf_19_18, this]
    rw [ev, seqR_next]
    have mm := mapM_any (Txt.split t ",")
    cases q : (Txt.split t ",").mapM rdDot with
    | none =>
      rw [q] at mm
      have ni : ∀ n m, inF true [(n, .none), (m, .tuple ((Txt.split t ",").map fun w => dotV (rdDot w)))] = some (0, .bool false) := by
        intro n m
        rw [in_t, if_pos]
        · rw [any_none, mm]; rfl
        · rw [plain_map dotV_plain (Txt.split t ",")]
          simp [PyData.plain, PyData.depth]
      simp only [dSs, dS, den, denV, denR, denC, denO, denG, denJ, denOw, Den.val, BOp.F, COp.F, Bi.F, Me.F, TgA.tgt, bind_ok, bind_exc, bind_bad, opR_some, getR_some, varR_some, e_ixV, ixVR_some, truR_some, boolR_bool, andR_some, orR_some, itR_some, itemsOf, partR_int, e_var, e_varB, e_lit, e_op, e_op2, e_cons, e_nil, e_frz, e_tru, e_bool, e_seq, e_asg, e_expr, e_ret, e_retN, e_and, e_or, e_not, e_andT, e_orT, e_notT, e_if, e_un, e_m1, e_noPart, e_part, e_sl, e_only0, e_chain, chR_bool, e_str, e_jnil, e_jcons, strR_str, e_comp, e_in, e_rng1, e_enum, enR_list, e_next, e_brk, e_cont, e_ifS, e_for, e_par, e_ocons, e_asgT, e_app, e_setL, e_rais, e_cnil, e_cval, e_cown, e_callV, e_callO, callR_some, fresR_ok, fresR_exc, seqR_next, seqR_ret, seqR_exc, seqR_brk, seqR_cont, fin_ret, fin_next, fin_exc, List.getElem?_cons_zero, List.getElem?_cons_succ, List.set_cons_zero, List.set_cons_succ, List.map_cons, List.map_nil, List.nil_append, List.cons_append, List.all_cons, List.all_nil, List.contains_nil, Bool.or_self, Bool.and_self, Bool.or_false, Bool.false_or, Bool.or_true, Bool.true_or, Bool.and_true, Bool.true_and, Bool.and_false, Bool.false_and, Bool.not_true, Bool.not_false, or_true, true_or, and_true, true_and, if_true, if_false, ite_true, ite_false, Bool.false_eq_true, reduceCtorEq, isV, isS, get_nil, get_val, owns_n, owns_v, owns_o, Option.map_some, decide_true, decide_false, tru_bool, tru_list, tru_tup, ix_l, ix_t, int_i, abs_i, add_ii, len_l, len_t, lst_neg, tup_t, tup_l, List.length_cons, List.length_nil, Nat.zero_add, Nat.reduceAdd, eq_self, setAll_c, setAll_n, setEnts_c, setEnts_n, asgTR_tup, Nat.zero_le, Nat.le_refl, all_of, any_of, wipe_nil, wipe_cons, back_nil, back_cons, backO_some, keep0_none, keep0_val, mul_ii, e_compX, compEnd_ok, compEnd_exc, e_zip, zipK_l, zipK_t, isi_bool, isi_str, isi_tup, isi_int, PyData.isStr, PyData.isTuple, PyData.isInt, PyData.isBool, PyData.plain, eq_ii, ne_ii, lt_ii, le_ii, gt_ii, ge_ii, eq_ss, ne_ss, le_ss, ni]
      rfl
    | some v =>
      rw [q] at mm
      obtain ⟨i1, i2⟩ := mapM_isD q
      rw [mm.2, vecin_end t v (by omega) i1]
      rfl
end K55
end

section
set_option Elab.async false
set_option linter.all false
set_option maxRecDepth 100000
set_option maxHeartbeats 4000000
namespace K55
open PySem PySem.Spec PyProof.Rows L2 Mb TL
theorem join_len (y : Str) (xs : List Str) : (Txt.join y xs).length ≤ (xs.map (·.length)).sum + xs.length * y.length := by
  rw [join_eq]
  exact StrLaws.join_length_le y xs
theorem jn_ok (y : Str) (xs : List Str) (n m : Nat) (hn : n ≤ 1) (h : (xs.map (·.length)).sum + xs.length * y.length ≤ LIM) : joinF [(m, .str y), (n, .list (xs.map PyData.str))] = some (0, .str (Txt.join y xs)) := by
  rw [join_s, seq_l, if_pos hn, Option.bind_some, show strsOf (xs.map PyData.str) = some xs from strsOf_map xs, Option.bind_some, if_pos h]
theorem pd_sum : ∀ v : List (Int × Int), (∀ p ∈ v, Sm2 p) → ((v.map pdT).map (·.length)).sum ≤ 13 * v.length
  | [], _ => by simp
  | p :: v, h => by
    have i := pd_sum v fun q hq => h q (List.mem_cons_of_mem _ hq)
    have a := pdT_len (h p List.mem_cons_self)
    simp only [List.map_cons, List.sum_cons, List.length_cons] at i ⊢
    omega
def vecT : List (Int × Int) → Str
  | [] => "-"
  | p :: v => Txt.join "," ((p :: v).map pdT)
theorem vec_sum {v : List (Int × Int)} (h : ∀ p ∈ v, Sm2 p) (hl : v.length ≤ 20) : (Txt.join "," (v.map pdT)).length ≤ 300 := by
  have a := join_len "," (v.map pdT)
  have b := pd_sum v h
  have c : ("," : Str).length = 1 := rfl
  rw [c, List.length_map] at a
  omega
theorem pdT_ne {p : Int × Int} : 1 ≤ (pdT p).length := by
  unfold pdT
  rw [slen, slen]
  have : ("." : Str).length = 1 := rfl
  omega
theorem vec_pos (p : Int × Int) (v : List (Int × Int)) : 1 ≤ (Txt.join "," ((p :: v).map pdT)).length := by
  rw [len_tl, join_eq, tl_join]
  have a := pdT_ne (p := p)
  rw [len_tl] at a
  cases v with
  | nil => exact a
  | cons q r =>
    show 1 ≤ (tl (pdT p) ++ _).length
    rw [List.length_append]
    omega
theorem vecT_len {v : List (Int × Int)} (h : ∀ p ∈ v, Sm2 p) (hl : v.length ≤ 20) : (vecT v).length ≤ 300 := by
  cases v with
  | nil => exact (by decide : 1 ≤ 300)
  | cons p v => exact vec_sum h hl
theorem jn_pd {v : List (Int × Int)} (h : ∀ p ∈ v, Sm2 p) (hl : v.length ≤ 20) (n m : Nat) (hn : n ≤ 1) : joinF [(m, .str ","), (n, .list (v.map fun p => .str (pdT p)))] = some (0, .str (Txt.join "," (v.map pdT))) := by
  have e : (v.map fun p => PyData.str (pdT p)) = (v.map pdT).map PyData.str := by rw [List.map_map]; rfl
  rw [e]
  have b := pd_sum v h
  have c : ("," : Str).length = 1 := rfl
  have lim : 1000 ≤ LIM := by decide
  exact jn_ok _ _ _ _ hn (by rw [c, List.length_map]; omega)
theorem vtext_F {v : List (Int × Int)} (h : ∀ p ∈ v, Sm2 p) (hl : v.length ≤ 20) : F_vector_text [(0, .tuple (v.map pdI))] = .ok (0, .str (vecT v)) [none] := by
  have lim : 1000 ≤ LIM := by decide
  have jn := jn_pd h hl
  have vs := vec_sum h hl
  have tr : tru (.str (Txt.join "," (v.map pdT))) = some (((Txt.join "," (v.map pdT)).length : Int) != 0) := by rw [tru_str, if_pos (by omega)]
  unfold F_vector_text b_vector_text
  simp only [e_run, List.length_cons, List.length_nil, if_true, List.map_cons, List.map_nil, List.cons_append, List.nil_append, List.replicate_succ, List.replicate_zero, Nat.reduceSub, Nat.reduceAdd]
  simp only [dSs, dS, den, denV, denR, denC, denO, denG, denJ, denOw, Den.val, BOp.F, COp.F, Bi.F, Me.F, TgA.tgt, bind_ok, bind_exc, bind_bad, opR_some, getR_some, varR_some, e_ixV, ixVR_some, truR_some, boolR_bool, andR_some, orR_some, itR_some, itemsOf, partR_int, e_var, e_varB, e_lit, e_op, e_op2, e_cons, e_nil, e_frz, e_tru, e_bool, e_seq, e_asg, e_expr, e_ret, e_retN, e_and, e_or, e_not, e_andT, e_orT, e_notT, e_if, e_un, e_m1, e_noPart, e_part, e_sl, e_only0, e_chain, chR_bool, e_str, e_jnil, e_jcons, strR_str, e_comp, e_in, e_rng1, e_enum, enR_list, e_next, e_brk, e_cont, e_ifS, e_for, e_par, e_ocons, e_asgT, e_app, e_setL, e_rais, e_cnil, e_cval, e_cown, e_callV, e_callO, callR_some, fresR_ok, fresR_exc, seqR_next, seqR_ret, seqR_exc, seqR_brk, seqR_cont, fin_ret, fin_next, fin_exc, List.getElem?_cons_zero, List.getElem?_cons_succ, List.set_cons_zero, List.set_cons_succ, List.map_cons, List.map_nil, List.nil_append, List.cons_append, List.all_cons, List.all_nil, List.contains_nil, Bool.or_self, Bool.and_self, Bool.or_false, Bool.false_or, Bool.or_true, Bool.true_or, Bool.and_true, Bool.true_and, Bool.and_false, Bool.false_and, Bool.not_true, Bool.not_false, or_true, true_or, and_true, true_and, if_true, if_false, ite_true, ite_false, Bool.false_eq_true, reduceCtorEq, isV, isS, get_nil, get_val, owns_n, owns_v, owns_o, Option.map_some, decide_true, decide_false, tru_bool, tru_list, tru_tup, ix_l, ix_t, int_i, abs_i, add_ii, len_l, len_t, lst_neg, tup_t, tup_l, List.length_cons, List.length_nil, Nat.zero_add, Nat.reduceAdd, eq_self, setAll_c, setAll_n, setEnts_c, setEnts_n, asgTR_tup, Nat.zero_le, Nat.le_refl, all_of, any_of, wipe_nil, wipe_cons, back_nil, back_cons, backO_some, keep0_none, keep0_val, mul_ii, e_compX, compEnd_ok, compEnd_exc, e_zip, zipK_l, zipK_t, isi_bool, isi_str, isi_tup, isi_int, PyData.isStr, PyData.isTuple, PyData.isInt, PyData.isBool, PyData.plain, eq_ii, ne_ii, lt_ii, le_ii, gt_ii, ge_ii, eq_ss, ne_ss, le_ss, gf_7_5, gg_2]
  rw [comp_all pdI (fun p => .str (pdT p)) v (by omega)]
  · simp only [dSs, dS, den, denV, denR, denC, denO, denG, denJ, denOw, Den.val, BOp.F, COp.F, Bi.F, Me.F, TgA.tgt, bind_ok, bind_exc, bind_bad, opR_some, getR_some, varR_some, e_ixV, ixVR_some, truR_some, boolR_bool, andR_some, orR_some, itR_some, itemsOf, partR_int, e_var, e_varB, e_lit, e_op, e_op2, e_cons, e_nil, e_frz, e_tru, e_bool, e_seq, e_asg, e_expr, e_ret, e_retN, e_and, e_or, e_not, e_andT, e_orT, e_notT, e_if, e_un, e_m1, e_noPart, e_part, e_sl, e_only0, e_chain, chR_bool, e_str, e_jnil, e_jcons, strR_str, e_comp, e_in, e_rng1, e_enum, enR_list, e_next, e_brk, e_cont, e_ifS, e_for, e_par, e_ocons, e_asgT, e_app, e_setL, e_rais, e_cnil, e_cval, e_cown, e_callV, e_callO, callR_some, fresR_ok, fresR_exc, seqR_next, seqR_ret, seqR_exc, seqR_brk, seqR_cont, fin_ret, fin_next, fin_exc, List.getElem?_cons_zero, List.getElem?_cons_succ, List.set_cons_zero, List.set_cons_succ, List.map_cons, List.map_nil, List.nil_append, List.cons_append, List.all_cons, List.all_nil, List.contains_nil, Bool.or_self, Bool.and_self, Bool.or_false, Bool.false_or, Bool.or_true, Bool.true_or, Bool.and_true, Bool.true_and, Bool.and_false, Bool.false_and, Bool.not_true, Bool.not_false, or_true, true_or, and_true, true_and, if_true, if_false, ite_true, ite_false, Bool.false_eq_true, reduceCtorEq, isV, isS, get_nil, get_val, owns_n, owns_v, owns_o, Option.map_some, decide_true, decide_false, tru_bool, tru_list, tru_tup, ix_l, ix_t, int_i, abs_i, add_ii, len_l, len_t, lst_neg, tup_t, tup_l, List.length_cons, List.length_nil, Nat.zero_add, Nat.reduceAdd, eq_self, setAll_c, setAll_n, setEnts_c, setEnts_n, asgTR_tup, Nat.zero_le, Nat.le_refl, all_of, any_of, wipe_nil, wipe_cons, back_nil, back_cons, backO_some, keep0_none, keep0_val, mul_ii, e_compX, compEnd_ok, compEnd_exc, e_zip, zipK_l, zipK_t, isi_bool, isi_str, isi_tup, isi_int, PyData.isStr, PyData.isTuple, PyData.isInt, PyData.isBool, PyData.plain, eq_ii, ne_ii, lt_ii, le_ii, gt_ii, ge_ii, eq_ss, ne_ss, le_ss, jn, tr]
    cases v with
    | nil => 
      have z : (((Txt.join "," (([] : List (Int × Int)).map pdT)).length : Int) != 0) = false := by decide +kernel
      have z : (((Txt.join "," ([] : List Str)).length : Int) != 0) = false := z
      simp only [dSs, dS, den, denV, denR, denC, denO, denG, denJ, denOw, Den.val, BOp.F, COp.F, Bi.F, Me.F, TgA.tgt, bind_ok, bind_exc, bind_bad, opR_some, getR_some, varR_some, e_ixV, ixVR_some, truR_some, boolR_bool, andR_some, orR_some, itR_some, itemsOf, partR_int, e_var, e_varB, e_lit, e_op, e_op2, e_cons, e_nil, e_frz, e_tru, e_bool, e_seq, e_asg, e_expr, e_ret, e_retN, e_and, e_or, e_not, e_andT, e_orT, e_notT, e_if, e_un, e_m1, e_noPart, e_part, e_sl, e_only0, e_chain, chR_bool, e_str, e_jnil, e_jcons, strR_str, e_comp, e_in, e_rng1, e_enum, enR_list, e_next, e_brk, e_cont, e_ifS, e_for, e_par, e_ocons, e_asgT, e_app, e_setL, e_rais, e_cnil, e_cval, e_cown, e_callV, e_callO, callR_some, fresR_ok, fresR_exc, seqR_next, seqR_ret, seqR_exc, seqR_brk, seqR_cont, fin_ret, fin_next, fin_exc, List.getElem?_cons_zero, List.getElem?_cons_succ, List.set_cons_zero, List.set_cons_succ, List.map_cons, List.map_nil, List.nil_append, List.cons_append, List.all_cons, List.all_nil, List.contains_nil, Bool.or_self, Bool.and_self, Bool.or_false, Bool.false_or, Bool.or_true, Bool.true_or, Bool.and_true, Bool.true_and, Bool.and_false, Bool.false_and, Bool.not_true, Bool.not_false, or_true, true_or, and_true, true_and, if_true, if_false, ite_true, ite_false, Bool.false_eq_true, reduceCtorEq, isV, isS, get_nil, get_val, owns_n, owns_v, owns_o, Option.map_some, decide_true, decide_false, tru_bool, tru_list, tru_tup, ix_l, ix_t, int_i, abs_i, add_ii, len_l, len_t, lst_neg, tup_t, tup_l, List.length_cons, List.length_nil, Nat.zero_add, Nat.reduceAdd, eq_self, setAll_c, setAll_n, setEnts_c, setEnts_n, asgTR_tup, Nat.zero_le, Nat.le_refl, all_of, any_of, wipe_nil, wipe_cons, back_nil, back_cons, backO_some, keep0_none, keep0_val, mul_ii, e_compX, compEnd_ok, compEnd_exc, e_zip, zipK_l, zipK_t, isi_bool, isi_str, isi_tup, isi_int, PyData.isStr, PyData.isTuple, PyData.isInt, PyData.isBool, PyData.plain, eq_ii, ne_ii, lt_ii, le_ii, gt_ii, ge_ii, eq_ss, ne_ss, le_ss, z, gf_7_5, gg_2]
      rfl
    | cons p v =>
      have a := vec_pos p v
      have z : (((Txt.join "," ((p :: v).map pdT)).length : Int) != 0) = true := by rw [bne_iff_ne]; omega
      rw [List.map_cons] at z
      simp only [dSs, dS, den, denV, denR, denC, denO, denG, denJ, denOw, Den.val, BOp.F, COp.F, Bi.F, Me.F, TgA.tgt, bind_ok, bind_exc, bind_bad, opR_some, getR_some, varR_some, e_ixV, ixVR_some, truR_some, boolR_bool, andR_some, orR_some, itR_some, itemsOf, partR_int, e_var, e_varB, e_lit, e_op, e_op2, e_cons, e_nil, e_frz, e_tru, e_bool, e_seq, e_asg, e_expr, e_ret, e_retN, e_and, e_or, e_not, e_andT, e_orT, e_notT, e_if, e_un, e_m1, e_noPart, e_part, e_sl, e_only0, e_chain, chR_bool, e_str, e_jnil, e_jcons, strR_str, e_comp, e_in, e_rng1, e_enum, enR_list, e_next, e_brk, e_cont, e_ifS, e_for, e_par, e_ocons, e_asgT, e_app, e_setL, e_rais, e_cnil, e_cval, e_cown, e_callV, e_callO, callR_some, fresR_ok, fresR_exc, seqR_next, seqR_ret, seqR_exc, seqR_brk, seqR_cont, fin_ret, fin_next, fin_exc, List.getElem?_cons_zero, List.getElem?_cons_succ, List.set_cons_zero, List.set_cons_succ, List.map_cons, List.map_nil, List.nil_append, List.cons_append, List.all_cons, List.all_nil, List.contains_nil, Bool.or_self, Bool.and_self, Bool.or_false, Bool.false_or, Bool.or_true, Bool.true_or, Bool.and_true, Bool.true_and, Bool.and_false, Bool.false_and, Bool.not_true, Bool.not_false, or_true, true_or, and_true, true_and, if_true, if_false, ite_true, ite_false, Bool.false_eq_true, reduceCtorEq, isV, isS, get_nil, get_val, owns_n, owns_v, owns_o, Option.map_some, decide_true, decide_false, tru_bool, tru_list, tru_tup, ix_l, ix_t, int_i, abs_i, add_ii, len_l, len_t, lst_neg, tup_t, tup_l, List.length_cons, List.length_nil, Nat.zero_add, Nat.reduceAdd, eq_self, setAll_c, setAll_n, setEnts_c, setEnts_n, asgTR_tup, Nat.zero_le, Nat.le_refl, all_of, any_of, wipe_nil, wipe_cons, back_nil, back_cons, backO_some, keep0_none, keep0_val, mul_ii, e_compX, compEnd_ok, compEnd_exc, e_zip, zipK_l, zipK_t, isi_bool, isi_str, isi_tup, isi_int, PyData.isStr, PyData.isTuple, PyData.isInt, PyData.isBool, PyData.plain, eq_ii, ne_ii, lt_ii, le_ii, gt_ii, ge_ii, eq_ss, ne_ss, le_ss, z, gf_7_5, gg_2]
      rfl
  · intro p hp
    have := dtext_F (h p hp)
    refine ⟨_, rfl, ⟨0, ?_⟩, rfl⟩
    simp only [dSs, dS, den, denV, denR, denC, denO, denG, denJ, denOw, Den.val, BOp.F, COp.F, Bi.F, Me.F, TgA.tgt, bind_ok, bind_exc, bind_bad, opR_some, getR_some, varR_some, e_ixV, ixVR_some, truR_some, boolR_bool, andR_some, orR_some, itR_some, itemsOf, partR_int, e_var, e_varB, e_lit, e_op, e_op2, e_cons, e_nil, e_frz, e_tru, e_bool, e_seq, e_asg, e_expr, e_ret, e_retN, e_and, e_or, e_not, e_andT, e_orT, e_notT, e_if, e_un, e_m1, e_noPart, e_part, e_sl, e_only0, e_chain, chR_bool, e_str, e_jnil, e_jcons, strR_str, e_comp, e_in, e_rng1, e_enum, enR_list, e_next, e_brk, e_cont, e_ifS, e_for, e_par, e_ocons, e_asgT, e_app, e_setL, e_rais, e_cnil, e_cval, e_cown, e_callV, e_callO, callR_some, fresR_ok, fresR_exc, seqR_next, seqR_ret, seqR_exc, seqR_brk, seqR_cont, fin_ret, fin_next, fin_exc, List.getElem?_cons_zero, List.getElem?_cons_succ, List.set_cons_zero, List.set_cons_succ, List.map_cons, List.map_nil, List.nil_append, List.cons_append, List.all_cons, List.all_nil, List.contains_nil, Bool.or_self, Bool.and_self, Bool.or_false, Bool.false_or, Bool.or_true, Bool.true_or, Bool.and_true, Bool.true_and, Bool.and_false, Bool.false_and, Bool.not_true, Bool.not_false, or_true, true_or, and_true, true_and, if_true, if_false, ite_true, ite_false, Bool.false_eq_true, reduceCtorEq, isV, isS, get_nil, get_val, owns_n, owns_v, owns_o, Option.map_some, decide_true, decide_false, tru_bool, tru_list, tru_tup, ix_l, ix_t, int_i, abs_i, add_ii, len_l, len_t, lst_neg, tup_t, tup_l, List.length_cons, List.length_nil, Nat.zero_add, Nat.reduceAdd, eq_self, setAll_c, setAll_n, setEnts_c, setEnts_n, asgTR_tup, Nat.zero_le, Nat.le_refl, all_of, any_of, wipe_nil, wipe_cons, back_nil, back_cons, backO_some, keep0_none, keep0_val, mul_ii, e_compX, compEnd_ok, compEnd_exc, e_zip, zipK_l, zipK_t, isi_bool, isi_str, isi_tup, isi_int, PyData.isStr, PyData.isTuple, PyData.isInt, PyData.isBool, PyData.plain, eq_ii, ne_ii, lt_ii, le_ii, gt_ii, ge_ii, eq_ss, ne_ss, le_ss, gf_7_5, gg_2, this]
theorem ne_t0 (n m : Nat) (v : List (Int × Int)) : cmpF okEq (fun a b => !PyData.eqv a b) [(n, .tuple (v.map pdI)), (m, .tuple [])] = some (0, .bool (!v.isEmpty)) := by
  have h := plain_map pdI_plain v
  cases v <;> simp [cmpF, okEq, PyData.plain, PyData.plainAll, h, PyData.eqv, PyData.eqvAll, eqvAll_nil, PyData.depth, PyData.depthAll] at h ⊢
  · exact h
theorem lvtext_F {v : List (Int × Int)} (h : ∀ p ∈ v, Sm2 p) (hl : v.length ≤ 20) : F__law_vector [(0, .tuple (v.map pdI))] = .ok (0, .str (vecT v)) [none] := by
  have lim : 1000 ≤ LIM := by decide
  have jn := jn_pd h hl
  have t0 : tupD [] = some (0, .tuple []) := rfl
  have ne := fun n m => ne_t0 n m v
  unfold F__law_vector b__law_vector
  simp only [e_run, List.length_cons, List.length_nil, if_true, List.map_cons, List.map_nil, List.cons_append, List.nil_append, List.replicate_succ, List.replicate_zero, Nat.reduceSub, Nat.reduceAdd]
  simp only [dSs, dS, den, denV, denR, denC, denO, denG, denJ, denOw, Den.val, BOp.F, COp.F, Bi.F, Me.F, TgA.tgt, bind_ok, bind_exc, bind_bad, opR_some, getR_some, varR_some, e_ixV, ixVR_some, truR_some, boolR_bool, andR_some, orR_some, itR_some, itemsOf, partR_int, e_var, e_varB, e_lit, e_op, e_op2, e_cons, e_nil, e_frz, e_tru, e_bool, e_seq, e_asg, e_expr, e_ret, e_retN, e_and, e_or, e_not, e_andT, e_orT, e_notT, e_if, e_un, e_m1, e_noPart, e_part, e_sl, e_only0, e_chain, chR_bool, e_str, e_jnil, e_jcons, strR_str, e_comp, e_in, e_rng1, e_enum, enR_list, e_next, e_brk, e_cont, e_ifS, e_for, e_par, e_ocons, e_asgT, e_app, e_setL, e_rais, e_cnil, e_cval, e_cown, e_callV, e_callO, callR_some, fresR_ok, fresR_exc, seqR_next, seqR_ret, seqR_exc, seqR_brk, seqR_cont, fin_ret, fin_next, fin_exc, List.getElem?_cons_zero, List.getElem?_cons_succ, List.set_cons_zero, List.set_cons_succ, List.map_cons, List.map_nil, List.nil_append, List.cons_append, List.all_cons, List.all_nil, List.contains_nil, Bool.or_self, Bool.and_self, Bool.or_false, Bool.false_or, Bool.or_true, Bool.true_or, Bool.and_true, Bool.true_and, Bool.and_false, Bool.false_and, Bool.not_true, Bool.not_false, or_true, true_or, and_true, true_and, if_true, if_false, ite_true, ite_false, Bool.false_eq_true, reduceCtorEq, isV, isS, get_nil, get_val, owns_n, owns_v, owns_o, Option.map_some, decide_true, decide_false, tru_bool, tru_list, tru_tup, ix_l, ix_t, int_i, abs_i, add_ii, len_l, len_t, lst_neg, tup_t, tup_l, List.length_cons, List.length_nil, Nat.zero_add, Nat.reduceAdd, eq_self, setAll_c, setAll_n, setEnts_c, setEnts_n, asgTR_tup, Nat.zero_le, Nat.le_refl, all_of, any_of, wipe_nil, wipe_cons, back_nil, back_cons, backO_some, keep0_none, keep0_val, mul_ii, e_compX, compEnd_ok, compEnd_exc, e_zip, zipK_l, zipK_t, isi_bool, isi_str, isi_tup, isi_int, PyData.isStr, PyData.isTuple, PyData.isInt, PyData.isBool, PyData.plain, eq_ii, ne_ii, lt_ii, le_ii, gt_ii, ge_ii, eq_ss, ne_ss, le_ss, gf_15_14, t0, ne]
  cases v with
  | nil => rfl
  | cons p v =>
    simp only [List.isEmpty_cons, Bool.not_false, dSs, dS, den, denV, denR, denC, denO, denG, denJ, denOw, Den.val, BOp.F, COp.F, Bi.F, Me.F, TgA.tgt, bind_ok, bind_exc, bind_bad, opR_some, getR_some, varR_some, e_ixV, ixVR_some, truR_some, boolR_bool, andR_some, orR_some, itR_some, itemsOf, partR_int, e_var, e_varB, e_lit, e_op, e_op2, e_cons, e_nil, e_frz, e_tru, e_bool, e_seq, e_asg, e_expr, e_ret, e_retN, e_and, e_or, e_not, e_andT, e_orT, e_notT, e_if, e_un, e_m1, e_noPart, e_part, e_sl, e_only0, e_chain, chR_bool, e_str, e_jnil, e_jcons, strR_str, e_comp, e_in, e_rng1, e_enum, enR_list, e_next, e_brk, e_cont, e_ifS, e_for, e_par, e_ocons, e_asgT, e_app, e_setL, e_rais, e_cnil, e_cval, e_cown, e_callV, e_callO, callR_some, fresR_ok, fresR_exc, seqR_next, seqR_ret, seqR_exc, seqR_brk, seqR_cont, fin_ret, fin_next, fin_exc, List.getElem?_cons_zero, List.getElem?_cons_succ, List.set_cons_zero, List.set_cons_succ, List.map_cons, List.map_nil, List.nil_append, List.cons_append, List.all_cons, List.all_nil, List.contains_nil, Bool.or_self, Bool.and_self, Bool.or_false, Bool.false_or, Bool.or_true, Bool.true_or, Bool.and_true, Bool.true_and, Bool.and_false, Bool.false_and, Bool.not_true, Bool.not_false, or_true, true_or, and_true, true_and, if_true, if_false, ite_true, ite_false, Bool.false_eq_true, reduceCtorEq, isV, isS, get_nil, get_val, owns_n, owns_v, owns_o, Option.map_some, decide_true, decide_false, tru_bool, tru_list, tru_tup, ix_l, ix_t, int_i, abs_i, add_ii, len_l, len_t, lst_neg, tup_t, tup_l, List.length_cons, List.length_nil, Nat.zero_add, Nat.reduceAdd, eq_self, setAll_c, setAll_n, setEnts_c, setEnts_n, asgTR_tup, Nat.zero_le, Nat.le_refl, all_of, any_of, wipe_nil, wipe_cons, back_nil, back_cons, backO_some, keep0_none, keep0_val, mul_ii, e_compX, compEnd_ok, compEnd_exc, e_zip, zipK_l, zipK_t, isi_bool, isi_str, isi_tup, isi_int, PyData.isStr, PyData.isTuple, PyData.isInt, PyData.isBool, PyData.plain, eq_ii, ne_ii, lt_ii, le_ii, gt_ii, ge_ii, eq_ss, ne_ss, le_ss]
    have cs := fun (vs : List Nat) (tg : Tgt) (f : Ev → Res (Ent × Ev)) (ε : Ev) hh => comp_all (vs := vs) (tg := tg) (f := f) (ε := ε) pdI (fun p => .str (pdT p)) (p :: v) (by omega) hh
    rw [List.map_cons] at cs
    rw [cs]
    · rw [List.map_cons] at jn
      simp only [dSs, dS, den, denV, denR, denC, denO, denG, denJ, denOw, Den.val, BOp.F, COp.F, Bi.F, Me.F, TgA.tgt, bind_ok, bind_exc, bind_bad, opR_some, getR_some, varR_some, e_ixV, ixVR_some, truR_some, boolR_bool, andR_some, orR_some, itR_some, itemsOf, partR_int, e_var, e_varB, e_lit, e_op, e_op2, e_cons, e_nil, e_frz, e_tru, e_bool, e_seq, e_asg, e_expr, e_ret, e_retN, e_and, e_or, e_not, e_andT, e_orT, e_notT, e_if, e_un, e_m1, e_noPart, e_part, e_sl, e_only0, e_chain, chR_bool, e_str, e_jnil, e_jcons, strR_str, e_comp, e_in, e_rng1, e_enum, enR_list, e_next, e_brk, e_cont, e_ifS, e_for, e_par, e_ocons, e_asgT, e_app, e_setL, e_rais, e_cnil, e_cval, e_cown, e_callV, e_callO, callR_some, fresR_ok, fresR_exc, seqR_next, seqR_ret, seqR_exc, seqR_brk, seqR_cont, fin_ret, fin_next, fin_exc, List.getElem?_cons_zero, List.getElem?_cons_succ, List.set_cons_zero, List.set_cons_succ, List.map_cons, List.map_nil, List.nil_append, List.cons_append, List.all_cons, List.all_nil, List.contains_nil, Bool.or_self, Bool.and_self, Bool.or_false, Bool.false_or, Bool.or_true, Bool.true_or, Bool.and_true, Bool.true_and, Bool.and_false, Bool.false_and, Bool.not_true, Bool.not_false, or_true, true_or, and_true, true_and, if_true, if_false, ite_true, ite_false, Bool.false_eq_true, reduceCtorEq, isV, isS, get_nil, get_val, owns_n, owns_v, owns_o, Option.map_some, decide_true, decide_false, tru_bool, tru_list, tru_tup, ix_l, ix_t, int_i, abs_i, add_ii, len_l, len_t, lst_neg, tup_t, tup_l, List.length_cons, List.length_nil, Nat.zero_add, Nat.reduceAdd, eq_self, setAll_c, setAll_n, setEnts_c, setEnts_n, asgTR_tup, Nat.zero_le, Nat.le_refl, all_of, any_of, wipe_nil, wipe_cons, back_nil, back_cons, backO_some, keep0_none, keep0_val, mul_ii, e_compX, compEnd_ok, compEnd_exc, e_zip, zipK_l, zipK_t, isi_bool, isi_str, isi_tup, isi_int, PyData.isStr, PyData.isTuple, PyData.isInt, PyData.isBool, PyData.plain, eq_ii, ne_ii, lt_ii, le_ii, gt_ii, ge_ii, eq_ss, ne_ss, le_ss]
      rw [List.map_cons] at *
      simp only [dSs, dS, den, denV, denR, denC, denO, denG, denJ, denOw, Den.val, BOp.F, COp.F, Bi.F, Me.F, TgA.tgt, bind_ok, bind_exc, bind_bad, opR_some, getR_some, varR_some, e_ixV, ixVR_some, truR_some, boolR_bool, andR_some, orR_some, itR_some, itemsOf, partR_int, e_var, e_varB, e_lit, e_op, e_op2, e_cons, e_nil, e_frz, e_tru, e_bool, e_seq, e_asg, e_expr, e_ret, e_retN, e_and, e_or, e_not, e_andT, e_orT, e_notT, e_if, e_un, e_m1, e_noPart, e_part, e_sl, e_only0, e_chain, chR_bool, e_str, e_jnil, e_jcons, strR_str, e_comp, e_in, e_rng1, e_enum, enR_list, e_next, e_brk, e_cont, e_ifS, e_for, e_par, e_ocons, e_asgT, e_app, e_setL, e_rais, e_cnil, e_cval, e_cown, e_callV, e_callO, callR_some, fresR_ok, fresR_exc, seqR_next, seqR_ret, seqR_exc, seqR_brk, seqR_cont, fin_ret, fin_next, fin_exc, List.getElem?_cons_zero, List.getElem?_cons_succ, List.set_cons_zero, List.set_cons_succ, List.map_cons, List.map_nil, List.nil_append, List.cons_append, List.all_cons, List.all_nil, List.contains_nil, Bool.or_self, Bool.and_self, Bool.or_false, Bool.false_or, Bool.or_true, Bool.true_or, Bool.and_true, Bool.true_and, Bool.and_false, Bool.false_and, Bool.not_true, Bool.not_false, or_true, true_or, and_true, true_and, if_true, if_false, ite_true, ite_false, Bool.false_eq_true, reduceCtorEq, isV, isS, get_nil, get_val, owns_n, owns_v, owns_o, Option.map_some, decide_true, decide_false, tru_bool, tru_list, tru_tup, ix_l, ix_t, int_i, abs_i, add_ii, len_l, len_t, lst_neg, tup_t, tup_l, List.length_cons, List.length_nil, Nat.zero_add, Nat.reduceAdd, eq_self, setAll_c, setAll_n, setEnts_c, setEnts_n, asgTR_tup, Nat.zero_le, Nat.le_refl, all_of, any_of, wipe_nil, wipe_cons, back_nil, back_cons, backO_some, keep0_none, keep0_val, mul_ii, e_compX, compEnd_ok, compEnd_exc, e_zip, zipK_l, zipK_t, isi_bool, isi_str, isi_tup, isi_int, PyData.isStr, PyData.isTuple, PyData.isInt, PyData.isBool, PyData.plain, eq_ii, ne_ii, lt_ii, le_ii, gt_ii, ge_ii, eq_ss, ne_ss, le_ss, jn]
      rfl
    · intro p hp
      have := ldot_F (h p hp)
      refine ⟨_, rfl, ⟨0, ?_⟩, rfl⟩
      simp only [dSs, dS, den, denV, denR, denC, denO, denG, denJ, denOw, Den.val, BOp.F, COp.F, Bi.F, Me.F, TgA.tgt, bind_ok, bind_exc, bind_bad, opR_some, getR_some, varR_some, e_ixV, ixVR_some, truR_some, boolR_bool, andR_some, orR_some, itR_some, itemsOf, partR_int, e_var, e_varB, e_lit, e_op, e_op2, e_cons, e_nil, e_frz, e_tru, e_bool, e_seq, e_asg, e_expr, e_ret, e_retN, e_and, e_or, e_not, e_andT, e_orT, e_notT, e_if, e_un, e_m1, e_noPart, e_part, e_sl, e_only0, e_chain, chR_bool, e_str, e_jnil, e_jcons, strR_str, e_comp, e_in, e_rng1, e_enum, enR_list, e_next, e_brk, e_cont, e_ifS, e_for, e_par, e_ocons, e_asgT, e_app, e_setL, e_rais, e_cnil, e_cval, e_cown, e_callV, e_callO, callR_some, fresR_ok, fresR_exc, seqR_next, seqR_ret, seqR_exc, seqR_brk, seqR_cont, fin_ret, fin_next, fin_exc, List.getElem?_cons_zero, List.getElem?_cons_succ, List.set_cons_zero, List.set_cons_succ, List.map_cons, List.map_nil, List.nil_append, List.cons_append, List.all_cons, List.all_nil, List.contains_nil, Bool.or_self, Bool.and_self, Bool.or_false, Bool.false_or, Bool.or_true, Bool.true_or, Bool.and_true, Bool.true_and, Bool.and_false, Bool.false_and, Bool.not_true, Bool.not_false, or_true, true_or, and_true, true_and, if_true, if_false, ite_true, ite_false, Bool.false_eq_true, reduceCtorEq, isV, isS, get_nil, get_val, owns_n, owns_v, owns_o, Option.map_some, decide_true, decide_false, tru_bool, tru_list, tru_tup, ix_l, ix_t, int_i, abs_i, add_ii, len_l, len_t, lst_neg, tup_t, tup_l, List.length_cons, List.length_nil, Nat.zero_add, Nat.reduceAdd, eq_self, setAll_c, setAll_n, setEnts_c, setEnts_n, asgTR_tup, Nat.zero_le, Nat.le_refl, all_of, any_of, wipe_nil, wipe_cons, back_nil, back_cons, backO_some, keep0_none, keep0_val, mul_ii, e_compX, compEnd_ok, compEnd_exc, e_zip, zipK_l, zipK_t, isi_bool, isi_str, isi_tup, isi_int, PyData.isStr, PyData.isTuple, PyData.isInt, PyData.isBool, PyData.plain, eq_ii, ne_ii, lt_ii, le_ii, gt_ii, ge_ii, eq_ss, ne_ss, le_ss, gf_15_14, this]
/-- a value: an int or a text -/
def valD : Sum Int Str → PyData
  | .inl n => .int n
  | .inr s => .str s
def valT : Sum Int Str → Str
  | .inl n => tsz n
  | .inr s => "\"" ++ s ++ "\""
def valOk : Sum Int Str → Prop
  | .inl n => -20 ≤ n ∧ n < 20
  | .inr s => s.length ≤ 50
theorem small_i : ∀ k : Fin 40, ((k.1 : Int) - 20).natAbs.log2 < 1920 ∧ (tsz ((k.1 : Int) - 20)).length ≤ 3 := by decide +kernel
theorem small_n {n : Int} (h : -20 ≤ n ∧ n < 20) : n.natAbs.log2 < 1920 ∧ (tsz n).length ≤ 3 := by
  have := small_i ⟨(n + 20).toNat, by omega⟩
  have e : (((n + 20).toNat : Nat) : Int) - 20 = n := by omega
  dsimp only at this
  rw [e] at this
  exact this
theorem valT_len {x : Sum Int Str} (h : valOk x) : (valT x).length ≤ 52 := by
  cases x with
  | inl n => have : (tsz n).length ≤ 3 := (small_n h).2; exact Nat.le_trans this (by decide)
  | inr s =>
    have hs : s.length ≤ 50 := h
    have c : ("\"" : Str).length = 1 := rfl
    show ("\"" ++ s ++ "\"" : Str).length ≤ 52
    rw [slen, slen]
    omega
theorem valtext_F {x : Sum Int Str} (h : valOk x) : F_value_text [(0, valD x)] = .ok (0, .str (valT x)) [none] := by
  have lim : 1000 ≤ LIM := by decide
  have c : ("\"" : Str).length = 1 := rfl
  cases x with
  | inl n =>
    obtain ⟨h1, h2⟩ := small_n h
    have e1 : (Str.ofString (toString n)).length ≤ LIM := Nat.le_trans h2 (by omega)
    unfold valD
    unfold F_value_text b_value_text
    simp only [e_run, List.length_cons, List.length_nil, if_true, List.map_cons, List.map_nil, List.cons_append, List.nil_append, List.replicate_succ, List.replicate_zero, Nat.reduceSub, Nat.reduceAdd]
    simp only [dSs, dS, den, denV, denR, denC, denO, denG, denJ, denOw, Den.val, BOp.F, COp.F, Bi.F, Me.F, TgA.tgt, bind_ok, bind_exc, bind_bad, opR_some, getR_some, varR_some, e_ixV, ixVR_some, truR_some, boolR_bool, andR_some, orR_some, itR_some, itemsOf, partR_int, e_var, e_varB, e_lit, e_op, e_op2, e_cons, e_nil, e_frz, e_tru, e_bool, e_seq, e_asg, e_expr, e_ret, e_retN, e_and, e_or, e_not, e_andT, e_orT, e_notT, e_if, e_un, e_m1, e_noPart, e_part, e_sl, e_only0, e_chain, chR_bool, e_str, e_jnil, e_jcons, strR_str, e_comp, e_in, e_rng1, e_enum, enR_list, e_next, e_brk, e_cont, e_ifS, e_for, e_par, e_ocons, e_asgT, e_app, e_setL, e_rais, e_cnil, e_cval, e_cown, e_callV, e_callO, callR_some, fresR_ok, fresR_exc, seqR_next, seqR_ret, seqR_exc, seqR_brk, seqR_cont, fin_ret, fin_next, fin_exc, List.getElem?_cons_zero, List.getElem?_cons_succ, List.set_cons_zero, List.set_cons_succ, List.map_cons, List.map_nil, List.nil_append, List.cons_append, List.all_cons, List.all_nil, List.contains_nil, Bool.or_self, Bool.and_self, Bool.or_false, Bool.false_or, Bool.or_true, Bool.true_or, Bool.and_true, Bool.true_and, Bool.and_false, Bool.false_and, Bool.not_true, Bool.not_false, or_true, true_or, and_true, true_and, if_true, if_false, ite_true, ite_false, Bool.false_eq_true, reduceCtorEq, isV, isS, get_nil, get_val, owns_n, owns_v, owns_o, Option.map_some, decide_true, decide_false, tru_bool, tru_list, tru_tup, ix_l, ix_t, int_i, abs_i, add_ii, len_l, len_t, lst_neg, tup_t, tup_l, List.length_cons, List.length_nil, Nat.zero_add, Nat.reduceAdd, eq_self, setAll_c, setAll_n, setEnts_c, setEnts_n, asgTR_tup, Nat.zero_le, Nat.le_refl, all_of, any_of, wipe_nil, wipe_cons, back_nil, back_cons, backO_some, keep0_none, keep0_val, mul_ii, e_compX, compEnd_ok, compEnd_exc, e_zip, zipK_l, zipK_t, isi_bool, isi_str, isi_tup, isi_int, PyData.isStr, PyData.isTuple, PyData.isInt, PyData.isBool, PyData.plain, eq_ii, ne_ii, lt_ii, le_ii, gt_ii, ge_ii, eq_ss, ne_ss, le_ss, fmt_i, h1, emp_app, e1]
    rfl
  | inr s =>
    have hs : s.length ≤ 50 := h
    have e0 : s.length ≤ LIM := by omega
    have e1 : ("\"" : Str).length ≤ LIM := by omega
    have e2 : ("\"" ++ s : Str).length ≤ LIM := by rw [slen]; omega
    have e3 : ("\"" ++ s ++ "\"" : Str).length ≤ LIM := by rw [slen, slen]; omega
    unfold valD
    unfold F_value_text b_value_text
    simp only [e_run, List.length_cons, List.length_nil, if_true, List.map_cons, List.map_nil, List.cons_append, List.nil_append, List.replicate_succ, List.replicate_zero, Nat.reduceSub, Nat.reduceAdd]
    simp only [dSs, dS, den, denV, denR, denC, denO, denG, denJ, denOw, Den.val, BOp.F, COp.F, Bi.F, Me.F, TgA.tgt, bind_ok, bind_exc, bind_bad, opR_some, getR_some, varR_some, e_ixV, ixVR_some, truR_some, boolR_bool, andR_some, orR_some, itR_some, itemsOf, partR_int, e_var, e_varB, e_lit, e_op, e_op2, e_cons, e_nil, e_frz, e_tru, e_bool, e_seq, e_asg, e_expr, e_ret, e_retN, e_and, e_or, e_not, e_andT, e_orT, e_notT, e_if, e_un, e_m1, e_noPart, e_part, e_sl, e_only0, e_chain, chR_bool, e_str, e_jnil, e_jcons, strR_str, e_comp, e_in, e_rng1, e_enum, enR_list, e_next, e_brk, e_cont, e_ifS, e_for, e_par, e_ocons, e_asgT, e_app, e_setL, e_rais, e_cnil, e_cval, e_cown, e_callV, e_callO, callR_some, fresR_ok, fresR_exc, seqR_next, seqR_ret, seqR_exc, seqR_brk, seqR_cont, fin_ret, fin_next, fin_exc, List.getElem?_cons_zero, List.getElem?_cons_succ, List.set_cons_zero, List.set_cons_succ, List.map_cons, List.map_nil, List.nil_append, List.cons_append, List.all_cons, List.all_nil, List.contains_nil, Bool.or_self, Bool.and_self, Bool.or_false, Bool.false_or, Bool.or_true, Bool.true_or, Bool.and_true, Bool.true_and, Bool.and_false, Bool.false_and, Bool.not_true, Bool.not_false, or_true, true_or, and_true, true_and, if_true, if_false, ite_true, ite_false, Bool.false_eq_true, reduceCtorEq, isV, isS, get_nil, get_val, owns_n, owns_v, owns_o, Option.map_some, decide_true, decide_false, tru_bool, tru_list, tru_tup, ix_l, ix_t, int_i, abs_i, add_ii, len_l, len_t, lst_neg, tup_t, tup_l, List.length_cons, List.length_nil, Nat.zero_add, Nat.reduceAdd, eq_self, setAll_c, setAll_n, setEnts_c, setEnts_n, asgTR_tup, Nat.zero_le, Nat.le_refl, all_of, any_of, wipe_nil, wipe_cons, back_nil, back_cons, backO_some, keep0_none, keep0_val, mul_ii, e_compX, compEnd_ok, compEnd_exc, e_zip, zipK_l, zipK_t, isi_bool, isi_str, isi_tup, isi_int, PyData.isStr, PyData.isTuple, PyData.isInt, PyData.isBool, PyData.plain, eq_ii, ne_ii, lt_ii, le_ii, gt_ii, ge_ii, eq_ss, ne_ss, le_ss, fmt_s, emp_app, e0, e1, e2, e3]
    rfl
theorem lvaltext_F {x : Sum Int Str} (h : valOk x) : F__law_text [(0, valD x)] = .ok (0, .str (valT x)) [none] := by
  have lim : 1000 ≤ LIM := by decide
  have c : ("\"" : Str).length = 1 := rfl
  cases x with
  | inl n =>
    obtain ⟨h1, h2⟩ := small_n h
    unfold valD
    unfold F__law_text b__law_text
    simp only [e_run, List.length_cons, List.length_nil, if_true, List.map_cons, List.map_nil, List.cons_append, List.nil_append, List.replicate_succ, List.replicate_zero, Nat.reduceSub, Nat.reduceAdd]
    simp only [dSs, dS, den, denV, denR, denC, denO, denG, denJ, denOw, Den.val, BOp.F, COp.F, Bi.F, Me.F, TgA.tgt, bind_ok, bind_exc, bind_bad, opR_some, getR_some, varR_some, e_ixV, ixVR_some, truR_some, boolR_bool, andR_some, orR_some, itR_some, itemsOf, partR_int, e_var, e_varB, e_lit, e_op, e_op2, e_cons, e_nil, e_frz, e_tru, e_bool, e_seq, e_asg, e_expr, e_ret, e_retN, e_and, e_or, e_not, e_andT, e_orT, e_notT, e_if, e_un, e_m1, e_noPart, e_part, e_sl, e_only0, e_chain, chR_bool, e_str, e_jnil, e_jcons, strR_str, e_comp, e_in, e_rng1, e_enum, enR_list, e_next, e_brk, e_cont, e_ifS, e_for, e_par, e_ocons, e_asgT, e_app, e_setL, e_rais, e_cnil, e_cval, e_cown, e_callV, e_callO, callR_some, fresR_ok, fresR_exc, seqR_next, seqR_ret, seqR_exc, seqR_brk, seqR_cont, fin_ret, fin_next, fin_exc, List.getElem?_cons_zero, List.getElem?_cons_succ, List.set_cons_zero, List.set_cons_succ, List.map_cons, List.map_nil, List.nil_append, List.cons_append, List.all_cons, List.all_nil, List.contains_nil, Bool.or_self, Bool.and_self, Bool.or_false, Bool.false_or, Bool.or_true, Bool.true_or, Bool.and_true, Bool.true_and, Bool.and_false, Bool.false_and, Bool.not_true, Bool.not_false, or_true, true_or, and_true, true_and, if_true, if_false, ite_true, ite_false, Bool.false_eq_true, reduceCtorEq, isV, isS, get_nil, get_val, owns_n, owns_v, owns_o, Option.map_some, decide_true, decide_false, tru_bool, tru_list, tru_tup, ix_l, ix_t, int_i, abs_i, add_ii, len_l, len_t, lst_neg, tup_t, tup_l, List.length_cons, List.length_nil, Nat.zero_add, Nat.reduceAdd, eq_self, setAll_c, setAll_n, setEnts_c, setEnts_n, asgTR_tup, Nat.zero_le, Nat.le_refl, all_of, any_of, wipe_nil, wipe_cons, back_nil, back_cons, backO_some, keep0_none, keep0_val, mul_ii, e_compX, compEnd_ok, compEnd_exc, e_zip, zipK_l, zipK_t, isi_bool, isi_str, isi_tup, isi_int, PyData.isStr, PyData.isTuple, PyData.isInt, PyData.isBool, PyData.plain, eq_ii, ne_ii, lt_ii, le_ii, gt_ii, ge_ii, eq_ss, ne_ss, le_ss, gf_16_14, is_int, str_i, h1]
    rfl
  | inr s =>
    have hs : s.length ≤ 50 := h
    have e2 : ("\"" : Str).length + s.length ≤ LIM := by omega
    have e3 : ("\"" ++ s : Str).length + ("\"" : Str).length ≤ LIM := by rw [slen]; omega
    unfold valD
    unfold F__law_text b__law_text
    simp only [e_run, List.length_cons, List.length_nil, if_true, List.map_cons, List.map_nil, List.cons_append, List.nil_append, List.replicate_succ, List.replicate_zero, Nat.reduceSub, Nat.reduceAdd]
    simp only [dSs, dS, den, denV, denR, denC, denO, denG, denJ, denOw, Den.val, BOp.F, COp.F, Bi.F, Me.F, TgA.tgt, bind_ok, bind_exc, bind_bad, opR_some, getR_some, varR_some, e_ixV, ixVR_some, truR_some, boolR_bool, andR_some, orR_some, itR_some, itemsOf, partR_int, e_var, e_varB, e_lit, e_op, e_op2, e_cons, e_nil, e_frz, e_tru, e_bool, e_seq, e_asg, e_expr, e_ret, e_retN, e_and, e_or, e_not, e_andT, e_orT, e_notT, e_if, e_un, e_m1, e_noPart, e_part, e_sl, e_only0, e_chain, chR_bool, e_str, e_jnil, e_jcons, strR_str, e_comp, e_in, e_rng1, e_enum, enR_list, e_next, e_brk, e_cont, e_ifS, e_for, e_par, e_ocons, e_asgT, e_app, e_setL, e_rais, e_cnil, e_cval, e_cown, e_callV, e_callO, callR_some, fresR_ok, fresR_exc, seqR_next, seqR_ret, seqR_exc, seqR_brk, seqR_cont, fin_ret, fin_next, fin_exc, List.getElem?_cons_zero, List.getElem?_cons_succ, List.set_cons_zero, List.set_cons_succ, List.map_cons, List.map_nil, List.nil_append, List.cons_append, List.all_cons, List.all_nil, List.contains_nil, Bool.or_self, Bool.and_self, Bool.or_false, Bool.false_or, Bool.or_true, Bool.true_or, Bool.and_true, Bool.true_and, Bool.and_false, Bool.false_and, Bool.not_true, Bool.not_false, or_true, true_or, and_true, true_and, if_true, if_false, ite_true, ite_false, Bool.false_eq_true, reduceCtorEq, isV, isS, get_nil, get_val, owns_n, owns_v, owns_o, Option.map_some, decide_true, decide_false, tru_bool, tru_list, tru_tup, ix_l, ix_t, int_i, abs_i, add_ii, len_l, len_t, lst_neg, tup_t, tup_l, List.length_cons, List.length_nil, Nat.zero_add, Nat.reduceAdd, eq_self, setAll_c, setAll_n, setEnts_c, setEnts_n, asgTR_tup, Nat.zero_le, Nat.le_refl, all_of, any_of, wipe_nil, wipe_cons, back_nil, back_cons, backO_some, keep0_none, keep0_val, mul_ii, e_compX, compEnd_ok, compEnd_exc, e_zip, zipK_l, zipK_t, isi_bool, isi_str, isi_tup, isi_int, PyData.isStr, PyData.isTuple, PyData.isInt, PyData.isBool, PyData.plain, eq_ii, ne_ii, lt_ii, le_ii, gt_ii, ge_ii, eq_ss, ne_ss, le_ss, gf_16_14, is_str, add_ss, e2, e3]
    rfl
end K55
end

section
set_option Elab.async false
set_option linter.all false
set_option maxRecDepth 100000
set_option maxHeartbeats 4000000
namespace K55
open PySem PySem.Spec PyProof.Rows L2 Mb TL
def endsQ (t : Str) : Bool := decide (1 < t.length) && decide ((tl t).getLast? = some 34)
def rdVal (t : Str) : Option (Sum Int Str) := if cutS t none (some 1) = "\"" then (if endsQ t = true then some (.inr (cutS t (some 1) (some (-1)))) else none) else (intOf t).map .inl
def valR : Option (Sum Int Str) → FRes
  | some x => .ok (0, valD x) [none]
  | none => .exc BF
def anyV : Option (Sum Int Str) → PyData
  | some x => valD x
  | none => .str "bad"
theorem last_of {t : Str} (h : 1 < t.length) (hl : t.length ≤ LIM) : ∃ c, (tl t).getLast? = some c ∧ ∀ n m, ixF [(n, .str t), (m, .int (-1))] = some (0, .str ⟨#[c]⟩) := by
  have e := len_tl t
  have ne : tl t ≠ [] := fun z => by rw [z] at e; simp at e; omega
  refine ⟨(tl t).getLast ne, List.getLast?_eq_some_getLast ne, fun n m => ?_⟩
  rw [ix_s, if_pos hl, at_last]
  show Option.map _ (tl t).getLast? = _
  rw [List.getLast?_eq_some_getLast ne]
  rfl
theorem q_one (c : Nat) : decide ((⟨#[c]⟩ : Str) = "\"") = decide (c = 34) := by
  by_cases h : c = 34
  · subst h; rfl
  · rw [decide_eq_false h, decide_eq_false]
    intro z
    have := congrArg tl z
    have e : tl ("\"" : Str) = [34] := rfl
    rw [e] at this
    have e2 : tl (⟨#[c]⟩ : Str) = [c] := rfl
    rw [e2] at this
    exact h (List.cons.inj this).1
theorem e34 (c : Nat) : decide (some c = some 34) = decide (c = 34) := by by_cases h : c = 34 <;> simp [h]
theorem rvalue_F (t : Str) (hl : t.length ≤ 500) : F_read_value [(0, .str t)] = valR (rdVal t) := by
  have lim : 500 ≤ LIM := by decide
  have tl1 : t.length ≤ LIM := by omega
  unfold rdVal
  by_cases a1 : cutS t none (some 1) = "\""
  · rw [if_pos a1]
    have d : decide (cutS t none (some 1) = ("\"" : Str)) = true := decide_eq_true a1
    by_cases a2 : 1 < t.length
    · have d2 : decide ((t.length : Int) < 2) = false := decide_eq_false (by omega)
      have d3 : decide (1 < t.length) = true := decide_eq_true a2
      obtain ⟨c, h1, h2⟩ := last_of a2 tl1
      unfold endsQ
      rw [h1, d3]
      unfold F_read_value b_read_value
      simp only [e_run, List.length_cons, List.length_nil, if_true, List.map_cons, List.map_nil, List.cons_append, List.nil_append, List.replicate_succ, List.replicate_zero, Nat.reduceSub, Nat.reduceAdd]
      simp only [dSs, dS, den, denV, denR, denC, denO, denG, denJ, denOw, Den.val, BOp.F, COp.F, Bi.F, Me.F, TgA.tgt, bind_ok, bind_exc, bind_bad, opR_some, getR_some, varR_some, e_ixV, ixVR_some, truR_some, boolR_bool, andR_some, orR_some, itR_some, itemsOf, partR_int, e_var, e_varB, e_lit, e_op, e_op2, e_cons, e_nil, e_frz, e_tru, e_bool, e_seq, e_asg, e_expr, e_ret, e_retN, e_and, e_or, e_not, e_andT, e_orT, e_notT, e_if, e_un, e_m1, e_noPart, e_part, e_sl, e_only0, e_chain, chR_bool, e_str, e_jnil, e_jcons, strR_str, e_comp, e_in, e_rng1, e_enum, enR_list, e_next, e_brk, e_cont, e_ifS, e_for, e_par, e_ocons, e_asgT, e_app, e_setL, e_rais, e_cnil, e_cval, e_cown, e_callV, e_callO, callR_some, fresR_ok, fresR_exc, seqR_next, seqR_ret, seqR_exc, seqR_brk, seqR_cont, fin_ret, fin_next, fin_exc, List.getElem?_cons_zero, List.getElem?_cons_succ, List.set_cons_zero, List.set_cons_succ, List.map_cons, List.map_nil, List.nil_append, List.cons_append, List.all_cons, List.all_nil, List.contains_nil, Bool.or_self, Bool.and_self, Bool.or_false, Bool.false_or, Bool.or_true, Bool.true_or, Bool.and_true, Bool.true_and, Bool.and_false, Bool.false_and, Bool.not_true, Bool.not_false, or_true, true_or, and_true, true_and, if_true, if_false, ite_true, ite_false, Bool.false_eq_true, reduceCtorEq, isV, isS, get_nil, get_val, owns_n, owns_v, owns_o, Option.map_some, decide_true, decide_false, tru_bool, tru_list, tru_tup, ix_l, ix_t, int_i, abs_i, add_ii, len_l, len_t, lst_neg, tup_t, tup_l, List.length_cons, List.length_nil, Nat.zero_add, Nat.reduceAdd, eq_self, setAll_c, setAll_n, setEnts_c, setEnts_n, asgTR_tup, Nat.zero_le, Nat.le_refl, all_of, any_of, wipe_nil, wipe_cons, back_nil, back_cons, backO_some, keep0_none, keep0_val, mul_ii, e_compX, compEnd_ok, compEnd_exc, e_zip, zipK_l, zipK_t, isi_bool, isi_str, isi_tup, isi_int, PyData.isStr, PyData.isTuple, PyData.isInt, PyData.isBool, PyData.plain, eq_ii, ne_ii, lt_ii, le_ii, gt_ii, ge_ii, eq_ss, ne_ss, le_ss, gf_10_4, gx_0, sl_s, tl1, d, len_s, d2, h2, q_one]
      rw [e34]
      cases decide (c = 34) with
      | true =>
        simp only [dSs, dS, den, denV, denR, denC, denO, denG, denJ, denOw, Den.val, BOp.F, COp.F, Bi.F, Me.F, TgA.tgt, bind_ok, bind_exc, bind_bad, opR_some, getR_some, varR_some, e_ixV, ixVR_some, truR_some, boolR_bool, andR_some, orR_some, itR_some, itemsOf, partR_int, e_var, e_varB, e_lit, e_op, e_op2, e_cons, e_nil, e_frz, e_tru, e_bool, e_seq, e_asg, e_expr, e_ret, e_retN, e_and, e_or, e_not, e_andT, e_orT, e_notT, e_if, e_un, e_m1, e_noPart, e_part, e_sl, e_only0, e_chain, chR_bool, e_str, e_jnil, e_jcons, strR_str, e_comp, e_in, e_rng1, e_enum, enR_list, e_next, e_brk, e_cont, e_ifS, e_for, e_par, e_ocons, e_asgT, e_app, e_setL, e_rais, e_cnil, e_cval, e_cown, e_callV, e_callO, callR_some, fresR_ok, fresR_exc, seqR_next, seqR_ret, seqR_exc, seqR_brk, seqR_cont, fin_ret, fin_next, fin_exc, List.getElem?_cons_zero, List.getElem?_cons_succ, List.set_cons_zero, List.set_cons_succ, List.map_cons, List.map_nil, List.nil_append, List.cons_append, List.all_cons, List.all_nil, List.contains_nil, Bool.or_self, Bool.and_self, Bool.or_false, Bool.false_or, Bool.or_true, Bool.true_or, Bool.and_true, Bool.true_and, Bool.and_false, Bool.false_and, Bool.not_true, Bool.not_false, or_true, true_or, and_true, true_and, if_true, if_false, ite_true, ite_false, Bool.false_eq_true, reduceCtorEq, isV, isS, get_nil, get_val, owns_n, owns_v, owns_o, Option.map_some, decide_true, decide_false, tru_bool, tru_list, tru_tup, ix_l, ix_t, int_i, abs_i, add_ii, len_l, len_t, lst_neg, tup_t, tup_l, List.length_cons, List.length_nil, Nat.zero_add, Nat.reduceAdd, eq_self, setAll_c, setAll_n, setEnts_c, setEnts_n, asgTR_tup, Nat.zero_le, Nat.le_refl, all_of, any_of, wipe_nil, wipe_cons, back_nil, back_cons, backO_some, keep0_none, keep0_val, mul_ii, e_compX, compEnd_ok, compEnd_exc, e_zip, zipK_l, zipK_t, isi_bool, isi_str, isi_tup, isi_int, PyData.isStr, PyData.isTuple, PyData.isInt, PyData.isBool, PyData.plain, eq_ii, ne_ii, lt_ii, le_ii, gt_ii, ge_ii, eq_ss, ne_ss, le_ss, sl_s, tl1]
        rfl
      | false =>
        simp only [dSs, dS, den, denV, denR, denC, denO, denG, denJ, denOw, Den.val, BOp.F, COp.F, Bi.F, Me.F, TgA.tgt, bind_ok, bind_exc, bind_bad, opR_some, getR_some, varR_some, e_ixV, ixVR_some, truR_some, boolR_bool, andR_some, orR_some, itR_some, itemsOf, partR_int, e_var, e_varB, e_lit, e_op, e_op2, e_cons, e_nil, e_frz, e_tru, e_bool, e_seq, e_asg, e_expr, e_ret, e_retN, e_and, e_or, e_not, e_andT, e_orT, e_notT, e_if, e_un, e_m1, e_noPart, e_part, e_sl, e_only0, e_chain, chR_bool, e_str, e_jnil, e_jcons, strR_str, e_comp, e_in, e_rng1, e_enum, enR_list, e_next, e_brk, e_cont, e_ifS, e_for, e_par, e_ocons, e_asgT, e_app, e_setL, e_rais, e_cnil, e_cval, e_cown, e_callV, e_callO, callR_some, fresR_ok, fresR_exc, seqR_next, seqR_ret, seqR_exc, seqR_brk, seqR_cont, fin_ret, fin_next, fin_exc, List.getElem?_cons_zero, List.getElem?_cons_succ, List.set_cons_zero, List.set_cons_succ, List.map_cons, List.map_nil, List.nil_append, List.cons_append, List.all_cons, List.all_nil, List.contains_nil, Bool.or_self, Bool.and_self, Bool.or_false, Bool.false_or, Bool.or_true, Bool.true_or, Bool.and_true, Bool.true_and, Bool.and_false, Bool.false_and, Bool.not_true, Bool.not_false, or_true, true_or, and_true, true_and, if_true, if_false, ite_true, ite_false, Bool.false_eq_true, reduceCtorEq, isV, isS, get_nil, get_val, owns_n, owns_v, owns_o, Option.map_some, decide_true, decide_false, tru_bool, tru_list, tru_tup, ix_l, ix_t, int_i, abs_i, add_ii, len_l, len_t, lst_neg, tup_t, tup_l, List.length_cons, List.length_nil, Nat.zero_add, Nat.reduceAdd, eq_self, setAll_c, setAll_n, setEnts_c, setEnts_n, asgTR_tup, Nat.zero_le, Nat.le_refl, all_of, any_of, wipe_nil, wipe_cons, back_nil, back_cons, backO_some, keep0_none, keep0_val, mul_ii, e_compX, compEnd_ok, compEnd_exc, e_zip, zipK_l, zipK_t, isi_bool, isi_str, isi_tup, isi_int, PyData.isStr, PyData.isTuple, PyData.isInt, PyData.isBool, PyData.plain, eq_ii, ne_ii, lt_ii, le_ii, gt_ii, ge_ii, eq_ss, ne_ss, le_ss, gf_10_4, gx_0]
        rw [raisR_some _ _ _ _ (mk0 0)]
        rfl
    · have d2 : decide ((t.length : Int) < 2) = true := decide_eq_true (by omega)
      have d3 : decide (1 < t.length) = false := decide_eq_false a2
      unfold endsQ
      rw [d3, Bool.false_and]
      unfold F_read_value b_read_value
      simp only [e_run, List.length_cons, List.length_nil, if_true, List.map_cons, List.map_nil, List.cons_append, List.nil_append, List.replicate_succ, List.replicate_zero, Nat.reduceSub, Nat.reduceAdd]
      simp only [dSs, dS, den, denV, denR, denC, denO, denG, denJ, denOw, Den.val, BOp.F, COp.F, Bi.F, Me.F, TgA.tgt, bind_ok, bind_exc, bind_bad, opR_some, getR_some, varR_some, e_ixV, ixVR_some, truR_some, boolR_bool, andR_some, orR_some, itR_some, itemsOf, partR_int, e_var, e_varB, e_lit, e_op, e_op2, e_cons, e_nil, e_frz, e_tru, e_bool, e_seq, e_asg, e_expr, e_ret, e_retN, e_and, e_or, e_not, e_andT, e_orT, e_notT, e_if, e_un, e_m1, e_noPart, e_part, e_sl, e_only0, e_chain, chR_bool, e_str, e_jnil, e_jcons, strR_str, e_comp, e_in, e_rng1, e_enum, enR_list, e_next, e_brk, e_cont, e_ifS, e_for, e_par, e_ocons, e_asgT, e_app, e_setL, e_rais, e_cnil, e_cval, e_cown, e_callV, e_callO, callR_some, fresR_ok, fresR_exc, seqR_next, seqR_ret, seqR_exc, seqR_brk, seqR_cont, fin_ret, fin_next, fin_exc, List.getElem?_cons_zero, List.getElem?_cons_succ, List.set_cons_zero, List.set_cons_succ, List.map_cons, List.map_nil, List.nil_append, List.cons_append, List.all_cons, List.all_nil, List.contains_nil, Bool.or_self, Bool.and_self, Bool.or_false, Bool.false_or, Bool.or_true, Bool.true_or, Bool.and_true, Bool.true_and, Bool.and_false, Bool.false_and, Bool.not_true, Bool.not_false, or_true, true_or, and_true, true_and, if_true, if_false, ite_true, ite_false, Bool.false_eq_true, reduceCtorEq, isV, isS, get_nil, get_val, owns_n, owns_v, owns_o, Option.map_some, decide_true, decide_false, tru_bool, tru_list, tru_tup, ix_l, ix_t, int_i, abs_i, add_ii, len_l, len_t, lst_neg, tup_t, tup_l, List.length_cons, List.length_nil, Nat.zero_add, Nat.reduceAdd, eq_self, setAll_c, setAll_n, setEnts_c, setEnts_n, asgTR_tup, Nat.zero_le, Nat.le_refl, all_of, any_of, wipe_nil, wipe_cons, back_nil, back_cons, backO_some, keep0_none, keep0_val, mul_ii, e_compX, compEnd_ok, compEnd_exc, e_zip, zipK_l, zipK_t, isi_bool, isi_str, isi_tup, isi_int, PyData.isStr, PyData.isTuple, PyData.isInt, PyData.isBool, PyData.plain, eq_ii, ne_ii, lt_ii, le_ii, gt_ii, ge_ii, eq_ss, ne_ss, le_ss, gf_10_4, gx_0, sl_s, tl1, d, len_s, d2]
      rw [raisR_some _ _ _ _ (mk0 0)]
      rfl
  · rw [if_neg a1]
    have d : decide (cutS t none (some 1) = ("\"" : Str)) = false := decide_eq_false a1
    have fi := int_F t hl
    unfold F_read_value b_read_value
    simp only [e_run, List.length_cons, List.length_nil, if_true, List.map_cons, List.map_nil, List.cons_append, List.nil_append, List.replicate_succ, List.replicate_zero, Nat.reduceSub, Nat.reduceAdd]
    simp only [dSs, dS, den, denV, denR, denC, denO, denG, denJ, denOw, Den.val, BOp.F, COp.F, Bi.F, Me.F, TgA.tgt, bind_ok, bind_exc, bind_bad, opR_some, getR_some, varR_some, e_ixV, ixVR_some, truR_some, boolR_bool, andR_some, orR_some, itR_some, itemsOf, partR_int, e_var, e_varB, e_lit, e_op, e_op2, e_cons, e_nil, e_frz, e_tru, e_bool, e_seq, e_asg, e_expr, e_ret, e_retN, e_and, e_or, e_not, e_andT, e_orT, e_notT, e_if, e_un, e_m1, e_noPart, e_part, e_sl, e_only0, e_chain, chR_bool, e_str, e_jnil, e_jcons, strR_str, e_comp, e_in, e_rng1, e_enum, enR_list, e_next, e_brk, e_cont, e_ifS, e_for, e_par, e_ocons, e_asgT, e_app, e_setL, e_rais, e_cnil, e_cval, e_cown, e_callV, e_callO, callR_some, fresR_ok, fresR_exc, seqR_next, seqR_ret, seqR_exc, seqR_brk, seqR_cont, fin_ret, fin_next, fin_exc, List.getElem?_cons_zero, List.getElem?_cons_succ, List.set_cons_zero, List.set_cons_succ, List.map_cons, List.map_nil, List.nil_append, List.cons_append, List.all_cons, List.all_nil, List.contains_nil, Bool.or_self, Bool.and_self, Bool.or_false, Bool.false_or, Bool.or_true, Bool.true_or, Bool.and_true, Bool.true_and, Bool.and_false, Bool.false_and, Bool.not_true, Bool.not_false, or_true, true_or, and_true, true_and, if_true, if_false, ite_true, ite_false, Bool.false_eq_true, reduceCtorEq, isV, isS, get_nil, get_val, owns_n, owns_v, owns_o, Option.map_some, decide_true, decide_false, tru_bool, tru_list, tru_tup, ix_l, ix_t, int_i, abs_i, add_ii, len_l, len_t, lst_neg, tup_t, tup_l, List.length_cons, List.length_nil, Nat.zero_add, Nat.reduceAdd, eq_self, setAll_c, setAll_n, setEnts_c, setEnts_n, asgTR_tup, Nat.zero_le, Nat.le_refl, all_of, any_of, wipe_nil, wipe_cons, back_nil, back_cons, backO_some, keep0_none, keep0_val, mul_ii, e_compX, compEnd_ok, compEnd_exc, e_zip, zipK_l, zipK_t, isi_bool, isi_str, isi_tup, isi_int, PyData.isStr, PyData.isTuple, PyData.isInt, PyData.isBool, PyData.plain, eq_ii, ne_ii, lt_ii, le_ii, gt_ii, ge_ii, eq_ss, ne_ss, le_ss, gf_10_4, gx_0, sl_s, tl1, d, fi]
    cases intOf t <;> rfl
theorem lany_F (t : Str) (hl : t.length ≤ 500) : F__law_any [(0, .str t)] = .ok (0, anyV (rdVal t)) [none] := by
  have lim : 500 ≤ LIM := by decide
  have tl1 : t.length ≤ LIM := by omega
  unfold rdVal
  by_cases a1 : cutS t none (some 1) = "\""
  · rw [if_pos a1]
    have d : decide (cutS t none (some 1) = ("\"" : Str)) = true := decide_eq_true a1
    by_cases a2 : 1 < t.length
    · have d2 : decide (1 < (t.length : Int)) = true := decide_eq_true (by omega)
      have d3 : decide (1 < t.length) = true := decide_eq_true a2
      obtain ⟨c, h1, h2⟩ := last_of a2 tl1
      unfold endsQ
      rw [h1, d3]
      unfold F__law_any b__law_any
      simp only [e_run, List.length_cons, List.length_nil, if_true, List.map_cons, List.map_nil, List.cons_append, List.nil_append, List.replicate_succ, List.replicate_zero, Nat.reduceSub, Nat.reduceAdd]
      simp only [dSs, dS, den, denV, denR, denC, denO, denG, denJ, denOw, Den.val, BOp.F, COp.F, Bi.F, Me.F, TgA.tgt, bind_ok, bind_exc, bind_bad, opR_some, getR_some, varR_some, e_ixV, ixVR_some, truR_some, boolR_bool, andR_some, orR_some, itR_some, itemsOf, partR_int, e_var, e_varB, e_lit, e_op, e_op2, e_cons, e_nil, e_frz, e_tru, e_bool, e_seq, e_asg, e_expr, e_ret, e_retN, e_and, e_or, e_not, e_andT, e_orT, e_notT, e_if, e_un, e_m1, e_noPart, e_part, e_sl, e_only0, e_chain, chR_bool, e_str, e_jnil, e_jcons, strR_str, e_comp, e_in, e_rng1, e_enum, enR_list, e_next, e_brk, e_cont, e_ifS, e_for, e_par, e_ocons, e_asgT, e_app, e_setL, e_rais, e_cnil, e_cval, e_cown, e_callV, e_callO, callR_some, fresR_ok, fresR_exc, seqR_next, seqR_ret, seqR_exc, seqR_brk, seqR_cont, fin_ret, fin_next, fin_exc, List.getElem?_cons_zero, List.getElem?_cons_succ, List.set_cons_zero, List.set_cons_succ, List.map_cons, List.map_nil, List.nil_append, List.cons_append, List.all_cons, List.all_nil, List.contains_nil, Bool.or_self, Bool.and_self, Bool.or_false, Bool.false_or, Bool.or_true, Bool.true_or, Bool.and_true, Bool.true_and, Bool.and_false, Bool.false_and, Bool.not_true, Bool.not_false, or_true, true_or, and_true, true_and, if_true, if_false, ite_true, ite_false, Bool.false_eq_true, reduceCtorEq, isV, isS, get_nil, get_val, owns_n, owns_v, owns_o, Option.map_some, decide_true, decide_false, tru_bool, tru_list, tru_tup, ix_l, ix_t, int_i, abs_i, add_ii, len_l, len_t, lst_neg, tup_t, tup_l, List.length_cons, List.length_nil, Nat.zero_add, Nat.reduceAdd, eq_self, setAll_c, setAll_n, setEnts_c, setEnts_n, asgTR_tup, Nat.zero_le, Nat.le_refl, all_of, any_of, wipe_nil, wipe_cons, back_nil, back_cons, backO_some, keep0_none, keep0_val, mul_ii, e_compX, compEnd_ok, compEnd_exc, e_zip, zipK_l, zipK_t, isi_bool, isi_str, isi_tup, isi_int, PyData.isStr, PyData.isTuple, PyData.isInt, PyData.isBool, PyData.plain, eq_ii, ne_ii, lt_ii, le_ii, gt_ii, ge_ii, eq_ss, ne_ss, le_ss, gf_22_17, sl_s, tl1, d, len_s, d2, h2, q_one]
      rw [e34]
      cases decide (c = 34) with
      | true =>
        simp only [dSs, dS, den, denV, denR, denC, denO, denG, denJ, denOw, Den.val, BOp.F, COp.F, Bi.F, Me.F, TgA.tgt, bind_ok, bind_exc, bind_bad, opR_some, getR_some, varR_some, e_ixV, ixVR_some, truR_some, boolR_bool, andR_some, orR_some, itR_some, itemsOf, partR_int, e_var, e_varB, e_lit, e_op, e_op2, e_cons, e_nil, e_frz, e_tru, e_bool, e_seq, e_asg, e_expr, e_ret, e_retN, e_and, e_or, e_not, e_andT, e_orT, e_notT, e_if, e_un, e_m1, e_noPart, e_part, e_sl, e_only0, e_chain, chR_bool, e_str, e_jnil, e_jcons, strR_str, e_comp, e_in, e_rng1, e_enum, enR_list, e_next, e_brk, e_cont, e_ifS, e_for, e_par, e_ocons, e_asgT, e_app, e_setL, e_rais, e_cnil, e_cval, e_cown, e_callV, e_callO, callR_some, fresR_ok, fresR_exc, seqR_next, seqR_ret, seqR_exc, seqR_brk, seqR_cont, fin_ret, fin_next, fin_exc, List.getElem?_cons_zero, List.getElem?_cons_succ, List.set_cons_zero, List.set_cons_succ, List.map_cons, List.map_nil, List.nil_append, List.cons_append, List.all_cons, List.all_nil, List.contains_nil, Bool.or_self, Bool.and_self, Bool.or_false, Bool.false_or, Bool.or_true, Bool.true_or, Bool.and_true, Bool.true_and, Bool.and_false, Bool.false_and, Bool.not_true, Bool.not_false, or_true, true_or, and_true, true_and, if_true, if_false, ite_true, ite_false, Bool.false_eq_true, reduceCtorEq, isV, isS, get_nil, get_val, owns_n, owns_v, owns_o, Option.map_some, decide_true, decide_false, tru_bool, tru_list, tru_tup, ix_l, ix_t, int_i, abs_i, add_ii, len_l, len_t, lst_neg, tup_t, tup_l, List.length_cons, List.length_nil, Nat.zero_add, Nat.reduceAdd, eq_self, setAll_c, setAll_n, setEnts_c, setEnts_n, asgTR_tup, Nat.zero_le, Nat.le_refl, all_of, any_of, wipe_nil, wipe_cons, back_nil, back_cons, backO_some, keep0_none, keep0_val, mul_ii, e_compX, compEnd_ok, compEnd_exc, e_zip, zipK_l, zipK_t, isi_bool, isi_str, isi_tup, isi_int, PyData.isStr, PyData.isTuple, PyData.isInt, PyData.isBool, PyData.plain, eq_ii, ne_ii, lt_ii, le_ii, gt_ii, ge_ii, eq_ss, ne_ss, le_ss, sl_s, tl1]
        rfl
      | false =>
        simp only [dSs, dS, den, denV, denR, denC, denO, denG, denJ, denOw, Den.val, BOp.F, COp.F, Bi.F, Me.F, TgA.tgt, bind_ok, bind_exc, bind_bad, opR_some, getR_some, varR_some, e_ixV, ixVR_some, truR_some, boolR_bool, andR_some, orR_some, itR_some, itemsOf, partR_int, e_var, e_varB, e_lit, e_op, e_op2, e_cons, e_nil, e_frz, e_tru, e_bool, e_seq, e_asg, e_expr, e_ret, e_retN, e_and, e_or, e_not, e_andT, e_orT, e_notT, e_if, e_un, e_m1, e_noPart, e_part, e_sl, e_only0, e_chain, chR_bool, e_str, e_jnil, e_jcons, strR_str, e_comp, e_in, e_rng1, e_enum, enR_list, e_next, e_brk, e_cont, e_ifS, e_for, e_par, e_ocons, e_asgT, e_app, e_setL, e_rais, e_cnil, e_cval, e_cown, e_callV, e_callO, callR_some, fresR_ok, fresR_exc, seqR_next, seqR_ret, seqR_exc, seqR_brk, seqR_cont, fin_ret, fin_next, fin_exc, List.getElem?_cons_zero, List.getElem?_cons_succ, List.set_cons_zero, List.set_cons_succ, List.map_cons, List.map_nil, List.nil_append, List.cons_append, List.all_cons, List.all_nil, List.contains_nil, Bool.or_self, Bool.and_self, Bool.or_false, Bool.false_or, Bool.or_true, Bool.true_or, Bool.and_true, Bool.true_and, Bool.and_false, Bool.false_and, Bool.not_true, Bool.not_false, or_true, true_or, and_true, true_and, if_true, if_false, ite_true, ite_false, Bool.false_eq_true, reduceCtorEq, isV, isS, get_nil, get_val, owns_n, owns_v, owns_o, Option.map_some, decide_true, decide_false, tru_bool, tru_list, tru_tup, ix_l, ix_t, int_i, abs_i, add_ii, len_l, len_t, lst_neg, tup_t, tup_l, List.length_cons, List.length_nil, Nat.zero_add, Nat.reduceAdd, eq_self, setAll_c, setAll_n, setEnts_c, setEnts_n, asgTR_tup, Nat.zero_le, Nat.le_refl, all_of, any_of, wipe_nil, wipe_cons, back_nil, back_cons, backO_some, keep0_none, keep0_val, mul_ii, e_compX, compEnd_ok, compEnd_exc, e_zip, zipK_l, zipK_t, isi_bool, isi_str, isi_tup, isi_int, PyData.isStr, PyData.isTuple, PyData.isInt, PyData.isBool, PyData.plain, eq_ii, ne_ii, lt_ii, le_ii, gt_ii, ge_ii, eq_ss, ne_ss, le_ss, gf_22_17]
        rfl
    · have d2 : decide (1 < (t.length : Int)) = false := decide_eq_false (by omega)
      have d3 : decide (1 < t.length) = false := decide_eq_false a2
      unfold endsQ
      rw [d3, Bool.false_and]
      unfold F__law_any b__law_any
      simp only [e_run, List.length_cons, List.length_nil, if_true, List.map_cons, List.map_nil, List.cons_append, List.nil_append, List.replicate_succ, List.replicate_zero, Nat.reduceSub, Nat.reduceAdd]
      simp only [dSs, dS, den, denV, denR, denC, denO, denG, denJ, denOw, Den.val, BOp.F, COp.F, Bi.F, Me.F, TgA.tgt, bind_ok, bind_exc, bind_bad, opR_some, getR_some, varR_some, e_ixV, ixVR_some, truR_some, boolR_bool, andR_some, orR_some, itR_some, itemsOf, partR_int, e_var, e_varB, e_lit, e_op, e_op2, e_cons, e_nil, e_frz, e_tru, e_bool, e_seq, e_asg, e_expr, e_ret, e_retN, e_and, e_or, e_not, e_andT, e_orT, e_notT, e_if, e_un, e_m1, e_noPart, e_part, e_sl, e_only0, e_chain, chR_bool, e_str, e_jnil, e_jcons, strR_str, e_comp, e_in, e_rng1, e_enum, enR_list, e_next, e_brk, e_cont, e_ifS, e_for, e_par, e_ocons, e_asgT, e_app, e_setL, e_rais, e_cnil, e_cval, e_cown, e_callV, e_callO, callR_some, fresR_ok, fresR_exc, seqR_next, seqR_ret, seqR_exc, seqR_brk, seqR_cont, fin_ret, fin_next, fin_exc, List.getElem?_cons_zero, List.getElem?_cons_succ, List.set_cons_zero, List.set_cons_succ, List.map_cons, List.map_nil, List.nil_append, List.cons_append, List.all_cons, List.all_nil, List.contains_nil, Bool.or_self, Bool.and_self, Bool.or_false, Bool.false_or, Bool.or_true, Bool.true_or, Bool.and_true, Bool.true_and, Bool.and_false, Bool.false_and, Bool.not_true, Bool.not_false, or_true, true_or, and_true, true_and, if_true, if_false, ite_true, ite_false, Bool.false_eq_true, reduceCtorEq, isV, isS, get_nil, get_val, owns_n, owns_v, owns_o, Option.map_some, decide_true, decide_false, tru_bool, tru_list, tru_tup, ix_l, ix_t, int_i, abs_i, add_ii, len_l, len_t, lst_neg, tup_t, tup_l, List.length_cons, List.length_nil, Nat.zero_add, Nat.reduceAdd, eq_self, setAll_c, setAll_n, setEnts_c, setEnts_n, asgTR_tup, Nat.zero_le, Nat.le_refl, all_of, any_of, wipe_nil, wipe_cons, back_nil, back_cons, backO_some, keep0_none, keep0_val, mul_ii, e_compX, compEnd_ok, compEnd_exc, e_zip, zipK_l, zipK_t, isi_bool, isi_str, isi_tup, isi_int, PyData.isStr, PyData.isTuple, PyData.isInt, PyData.isBool, PyData.plain, eq_ii, ne_ii, lt_ii, le_ii, gt_ii, ge_ii, eq_ss, ne_ss, le_ss, gf_22_17, sl_s, tl1, d, len_s, d2]
      rfl
  · rw [if_neg a1]
    have d : decide (cutS t none (some 1) = ("\"" : Str)) = false := decide_eq_false a1
    have fi := lint_F t hl
    unfold F__law_any b__law_any
    simp only [e_run, List.length_cons, List.length_nil, if_true, List.map_cons, List.map_nil, List.cons_append, List.nil_append, List.replicate_succ, List.replicate_zero, Nat.reduceSub, Nat.reduceAdd]
    simp only [dSs, dS, den, denV, denR, denC, denO, denG, denJ, denOw, Den.val, BOp.F, COp.F, Bi.F, Me.F, TgA.tgt, bind_ok, bind_exc, bind_bad, opR_some, getR_some, varR_some, e_ixV, ixVR_some, truR_some, boolR_bool, andR_some, orR_some, itR_some, itemsOf, partR_int, e_var, e_varB, e_lit, e_op, e_op2, e_cons, e_nil, e_frz, e_tru, e_bool, e_seq, e_asg, e_expr, e_ret, e_retN, e_and, e_or, e_not, e_andT, e_orT, e_notT, e_if, e_un, e_m1, e_noPart, e_part, e_sl, e_only0, e_chain, chR_bool, e_str, e_jnil, e_jcons, strR_str, e_comp, e_in, e_rng1, e_enum, enR_list, e_next, e_brk, e_cont, e_ifS, e_for, e_par, e_ocons, e_asgT, e_app, e_setL, e_rais, e_cnil, e_cval, e_cown, e_callV, e_callO, callR_some, fresR_ok, fresR_exc, seqR_next, seqR_ret, seqR_exc, seqR_brk, seqR_cont, fin_ret, fin_next, fin_exc, List.getElem?_cons_zero, List.getElem?_cons_succ, List.set_cons_zero, List.set_cons_succ, List.map_cons, List.map_nil, List.nil_append, List.cons_append, List.all_cons, List.all_nil, List.contains_nil, Bool.or_self, Bool.and_self, Bool.or_false, Bool.false_or, Bool.or_true, Bool.true_or, Bool.and_true, Bool.true_and, Bool.and_false, Bool.false_and, Bool.not_true, Bool.not_false, or_true, true_or, and_true, true_and, if_true, if_false, ite_true, ite_false, Bool.false_eq_true, reduceCtorEq, isV, isS, get_nil, get_val, owns_n, owns_v, owns_o, Option.map_some, decide_true, decide_false, tru_bool, tru_list, tru_tup, ix_l, ix_t, int_i, abs_i, add_ii, len_l, len_t, lst_neg, tup_t, tup_l, List.length_cons, List.length_nil, Nat.zero_add, Nat.reduceAdd, eq_self, setAll_c, setAll_n, setEnts_c, setEnts_n, asgTR_tup, Nat.zero_le, Nat.le_refl, all_of, any_of, wipe_nil, wipe_cons, back_nil, back_cons, backO_some, keep0_none, keep0_val, mul_ii, e_compX, compEnd_ok, compEnd_exc, e_zip, zipK_l, zipK_t, isi_bool, isi_str, isi_tup, isi_int, PyData.isStr, PyData.isTuple, PyData.isInt, PyData.isBool, PyData.plain, eq_ii, ne_ii, lt_ii, le_ii, gt_ii, ge_ii, eq_ss, ne_ss, le_ss, gf_22_17, sl_s, tl1, d, fi]
    cases q : intOf t with
    | none =>
      simp only [dSs, dS, den, denV, denR, denC, denO, denG, denJ, denOw, Den.val, BOp.F, COp.F, Bi.F, Me.F, TgA.tgt, bind_ok, bind_exc, bind_bad, opR_some, getR_some, varR_some, e_ixV, ixVR_some, truR_some, boolR_bool, andR_some, orR_some, itR_some, itemsOf, partR_int, e_var, e_varB, e_lit, e_op, e_op2, e_cons, e_nil, e_frz, e_tru, e_bool, e_seq, e_asg, e_expr, e_ret, e_retN, e_and, e_or, e_not, e_andT, e_orT, e_notT, e_if, e_un, e_m1, e_noPart, e_part, e_sl, e_only0, e_chain, chR_bool, e_str, e_jnil, e_jcons, strR_str, e_comp, e_in, e_rng1, e_enum, enR_list, e_next, e_brk, e_cont, e_ifS, e_for, e_par, e_ocons, e_asgT, e_app, e_setL, e_rais, e_cnil, e_cval, e_cown, e_callV, e_callO, callR_some, fresR_ok, fresR_exc, seqR_next, seqR_ret, seqR_exc, seqR_brk, seqR_cont, fin_ret, fin_next, fin_exc, List.getElem?_cons_zero, List.getElem?_cons_succ, List.set_cons_zero, List.set_cons_succ, List.map_cons, List.map_nil, List.nil_append, List.cons_append, List.all_cons, List.all_nil, List.contains_nil, Bool.or_self, Bool.and_self, Bool.or_false, Bool.false_or, Bool.or_true, Bool.true_or, Bool.and_true, Bool.true_and, Bool.and_false, Bool.false_and, Bool.not_true, Bool.not_false, or_true, true_or, and_true, true_and, if_true, if_false, ite_true, ite_false, Bool.false_eq_true, reduceCtorEq, isV, isS, get_nil, get_val, owns_n, owns_v, owns_o, Option.map_some, decide_true, decide_false, tru_bool, tru_list, tru_tup, ix_l, ix_t, int_i, abs_i, add_ii, len_l, len_t, lst_neg, tup_t, tup_l, List.length_cons, List.length_nil, Nat.zero_add, Nat.reduceAdd, eq_self, setAll_c, setAll_n, setEnts_c, setEnts_n, asgTR_tup, Nat.zero_le, Nat.le_refl, all_of, any_of, wipe_nil, wipe_cons, back_nil, back_cons, backO_some, keep0_none, keep0_val, mul_ii, e_compX, compEnd_ok, compEnd_exc, e_zip, zipK_l, zipK_t, isi_bool, isi_str, isi_tup, isi_int, PyData.isStr, PyData.isTuple, PyData.isInt, PyData.isBool, PyData.plain, eq_ii, ne_ii, lt_ii, le_ii, gt_ii, ge_ii, eq_ss, ne_ss, le_ss, optI_none, is_non]
      rfl
    | some n =>
      rw [q] at fi
      simp only [dSs, dS, den, denV, denR, denC, denO, denG, denJ, denOw, Den.val, BOp.F, COp.F, Bi.F, Me.F, TgA.tgt, bind_ok, bind_exc, bind_bad, opR_some, getR_some, varR_some, e_ixV, ixVR_some, truR_some, boolR_bool, andR_some, orR_some, itR_some, itemsOf, partR_int, e_var, e_varB, e_lit, e_op, e_op2, e_cons, e_nil, e_frz, e_tru, e_bool, e_seq, e_asg, e_expr, e_ret, e_retN, e_and, e_or, e_not, e_andT, e_orT, e_notT, e_if, e_un, e_m1, e_noPart, e_part, e_sl, e_only0, e_chain, chR_bool, e_str, e_jnil, e_jcons, strR_str, e_comp, e_in, e_rng1, e_enum, enR_list, e_next, e_brk, e_cont, e_ifS, e_for, e_par, e_ocons, e_asgT, e_app, e_setL, e_rais, e_cnil, e_cval, e_cown, e_callV, e_callO, callR_some, fresR_ok, fresR_exc, seqR_next, seqR_ret, seqR_exc, seqR_brk, seqR_cont, fin_ret, fin_next, fin_exc, List.getElem?_cons_zero, List.getElem?_cons_succ, List.set_cons_zero, List.set_cons_succ, List.map_cons, List.map_nil, List.nil_append, List.cons_append, List.all_cons, List.all_nil, List.contains_nil, Bool.or_self, Bool.and_self, Bool.or_false, Bool.false_or, Bool.or_true, Bool.true_or, Bool.and_true, Bool.true_and, Bool.and_false, Bool.false_and, Bool.not_true, Bool.not_false, or_true, true_or, and_true, true_and, if_true, if_false, ite_true, ite_false, Bool.false_eq_true, reduceCtorEq, isV, isS, get_nil, get_val, owns_n, owns_v, owns_o, Option.map_some, decide_true, decide_false, tru_bool, tru_list, tru_tup, ix_l, ix_t, int_i, abs_i, add_ii, len_l, len_t, lst_neg, tup_t, tup_l, List.length_cons, List.length_nil, Nat.zero_add, Nat.reduceAdd, eq_self, setAll_c, setAll_n, setEnts_c, setEnts_n, asgTR_tup, Nat.zero_le, Nat.le_refl, all_of, any_of, wipe_nil, wipe_cons, back_nil, back_cons, backO_some, keep0_none, keep0_val, mul_ii, e_compX, compEnd_ok, compEnd_exc, e_zip, zipK_l, zipK_t, isi_bool, isi_str, isi_tup, isi_int, PyData.isStr, PyData.isTuple, PyData.isInt, PyData.isBool, PyData.plain, eq_ii, ne_ii, lt_ii, le_ii, gt_ii, ge_ii, eq_ss, ne_ss, le_ss, optI_some, is_int, fi]
      rfl
def tryR (c : Str) (hd : Exn → Ev → Res (Ent × Ev)) (si : Option Nat) : Res (Fl × Ev) → Res (Fl × Ev)
  | .exc x ε' => if x.cls = c ∧ okSlot si ε' = true then match hd x (forgetE si ε') with
    | .ok q => .ok (.ret q.1, q.2)
    | _ => .bad
    else .bad
  | r => r
theorem e_try (c : Str) (b : Ev → Res (Fl × Ev)) (hd : Exn → Ev → Res (Ent × Ev)) (si : Option Nat) (o : Option Ent) (ε : Ev) : fTry c b hd si (o :: ε) = tryR c hd si (b (o :: ε)) := by
  unfold fTry tryR
  cases b (o :: ε) <;> rfl
/-- what a text says to each of the three readings -/
def rdAny : Nat → Str → Option PyData
  | 0, t => (rdDot t).map pdI
  | 1, t => (rdVec t).map fun v => .tuple (v.map pdI)
  | _, t => (rdVal t).map valD
def orBad : Option PyData → PyData
  | some d => d
  | none => .str "bad"
theorem any_orBad (x : Option (Sum Int Str)) : anyV x = orBad (x.map valD) := by cases x <;> rfl
def fldTry (r : Option PyData) : FRes := match r with
  | some d => .ok (0, d) [none]
  | none => .exc BF
theorem fld_dot (x : Option (Int × Int)) : dotR x = fldTry (x.map pdI) := by cases x <;> rfl
theorem fld_vec (x : Option (List (Int × Int))) : vecR x = fldTry (x.map fun v => .tuple (v.map pdI)) := by cases x <;> rfl
theorem fld_val (x : Option (Sum Int Str)) : valR x = fldTry (x.map valD) := by cases x <;> rfl
theorem told_F (c : Nat) (hc : c < 3) (t : Str) (hl : t.length ≤ 500) : ∃ ps, F__law_told [(0, .int (c : Int)), (0, .str t)] = .ok (0, orBad (rdAny c t)) ps := by
  have f1 := rdot_F t hl
  have f2 := rvec_F t hl
  have f3 := rvalue_F t hl
  rw [fld_dot] at f1
  rw [fld_vec] at f2
  rw [fld_val] at f3
  refine ⟨[none, none], ?_⟩
  unfold F__law_told b__law_told
  simp only [e_run, List.length_cons, List.length_nil, if_true, List.map_cons, List.map_nil, List.cons_append, List.nil_append, List.replicate_succ, List.replicate_zero, Nat.reduceSub, Nat.reduceAdd]
  obtain rfl | rfl | rfl : c = 0 ∨ c = 1 ∨ c = 2 := by omega
  · have d0 : decide (((0 : Nat) : Int) = 0) = true := rfl
    simp only [dSs, dS, den, denV, denR, denC, denO, denG, denJ, denOw, Den.val, BOp.F, COp.F, Bi.F, Me.F, TgA.tgt, bind_ok, bind_exc, bind_bad, opR_some, getR_some, varR_some, e_ixV, ixVR_some, truR_some, boolR_bool, andR_some, orR_some, itR_some, itemsOf, partR_int, e_var, e_varB, e_lit, e_op, e_op2, e_cons, e_nil, e_frz, e_tru, e_bool, e_seq, e_asg, e_expr, e_ret, e_retN, e_and, e_or, e_not, e_andT, e_orT, e_notT, e_if, e_un, e_m1, e_noPart, e_part, e_sl, e_only0, e_chain, chR_bool, e_str, e_jnil, e_jcons, strR_str, e_comp, e_in, e_rng1, e_enum, enR_list, e_next, e_brk, e_cont, e_ifS, e_for, e_par, e_ocons, e_asgT, e_app, e_setL, e_rais, e_cnil, e_cval, e_cown, e_callV, e_callO, callR_some, fresR_ok, fresR_exc, seqR_next, seqR_ret, seqR_exc, seqR_brk, seqR_cont, fin_ret, fin_next, fin_exc, List.getElem?_cons_zero, List.getElem?_cons_succ, List.set_cons_zero, List.set_cons_succ, List.map_cons, List.map_nil, List.nil_append, List.cons_append, List.all_cons, List.all_nil, List.contains_nil, Bool.or_self, Bool.and_self, Bool.or_false, Bool.false_or, Bool.or_true, Bool.true_or, Bool.and_true, Bool.true_and, Bool.and_false, Bool.false_and, Bool.not_true, Bool.not_false, or_true, true_or, and_true, true_and, if_true, if_false, ite_true, ite_false, Bool.false_eq_true, reduceCtorEq, isV, isS, get_nil, get_val, owns_n, owns_v, owns_o, Option.map_some, decide_true, decide_false, tru_bool, tru_list, tru_tup, ix_l, ix_t, int_i, abs_i, add_ii, len_l, len_t, lst_neg, tup_t, tup_l, List.length_cons, List.length_nil, Nat.zero_add, Nat.reduceAdd, eq_self, setAll_c, setAll_n, setEnts_c, setEnts_n, asgTR_tup, Nat.zero_le, Nat.le_refl, all_of, any_of, wipe_nil, wipe_cons, back_nil, back_cons, backO_some, keep0_none, keep0_val, mul_ii, e_compX, compEnd_ok, compEnd_exc, e_zip, zipK_l, zipK_t, isi_bool, isi_str, isi_tup, isi_int, PyData.isStr, PyData.isTuple, PyData.isInt, PyData.isBool, PyData.plain, eq_ii, ne_ii, lt_ii, le_ii, gt_ii, ge_ii, eq_ss, ne_ss, le_ss, gf_20_6, gf_20_8, gf_20_10, gx_0, f1, d0, Hd.slot, Option.all_some, e_try]
    show _ = FRes.ok (0, orBad ((rdDot t).map pdI)) _
    cases (rdDot t).map pdI <;> rfl
  · have d0 : decide (((1 : Nat) : Int) = 0) = false := rfl
    have d1 : decide (((1 : Nat) : Int) = 1) = true := rfl
    simp only [dSs, dS, den, denV, denR, denC, denO, denG, denJ, denOw, Den.val, BOp.F, COp.F, Bi.F, Me.F, TgA.tgt, bind_ok, bind_exc, bind_bad, opR_some, getR_some, varR_some, e_ixV, ixVR_some, truR_some, boolR_bool, andR_some, orR_some, itR_some, itemsOf, partR_int, e_var, e_varB, e_lit, e_op, e_op2, e_cons, e_nil, e_frz, e_tru, e_bool, e_seq, e_asg, e_expr, e_ret, e_retN, e_and, e_or, e_not, e_andT, e_orT, e_notT, e_if, e_un, e_m1, e_noPart, e_part, e_sl, e_only0, e_chain, chR_bool, e_str, e_jnil, e_jcons, strR_str, e_comp, e_in, e_rng1, e_enum, enR_list, e_next, e_brk, e_cont, e_ifS, e_for, e_par, e_ocons, e_asgT, e_app, e_setL, e_rais, e_cnil, e_cval, e_cown, e_callV, e_callO, callR_some, fresR_ok, fresR_exc, seqR_next, seqR_ret, seqR_exc, seqR_brk, seqR_cont, fin_ret, fin_next, fin_exc, List.getElem?_cons_zero, List.getElem?_cons_succ, List.set_cons_zero, List.set_cons_succ, List.map_cons, List.map_nil, List.nil_append, List.cons_append, List.all_cons, List.all_nil, List.contains_nil, Bool.or_self, Bool.and_self, Bool.or_false, Bool.false_or, Bool.or_true, Bool.true_or, Bool.and_true, Bool.true_and, Bool.and_false, Bool.false_and, Bool.not_true, Bool.not_false, or_true, true_or, and_true, true_and, if_true, if_false, ite_true, ite_false, Bool.false_eq_true, reduceCtorEq, isV, isS, get_nil, get_val, owns_n, owns_v, owns_o, Option.map_some, decide_true, decide_false, tru_bool, tru_list, tru_tup, ix_l, ix_t, int_i, abs_i, add_ii, len_l, len_t, lst_neg, tup_t, tup_l, List.length_cons, List.length_nil, Nat.zero_add, Nat.reduceAdd, eq_self, setAll_c, setAll_n, setEnts_c, setEnts_n, asgTR_tup, Nat.zero_le, Nat.le_refl, all_of, any_of, wipe_nil, wipe_cons, back_nil, back_cons, backO_some, keep0_none, keep0_val, mul_ii, e_compX, compEnd_ok, compEnd_exc, e_zip, zipK_l, zipK_t, isi_bool, isi_str, isi_tup, isi_int, PyData.isStr, PyData.isTuple, PyData.isInt, PyData.isBool, PyData.plain, eq_ii, ne_ii, lt_ii, le_ii, gt_ii, ge_ii, eq_ss, ne_ss, le_ss, gf_20_6, gf_20_8, gf_20_10, gx_0, f2, d0, d1, Hd.slot, Option.all_some, e_try]
    show _ = FRes.ok (0, orBad ((rdVec t).map fun v => .tuple (v.map pdI))) _
    cases (rdVec t).map fun v => PyData.tuple (v.map pdI) <;> rfl
  · have d0 : decide (((2 : Nat) : Int) = 0) = false := rfl
    have d1 : decide (((2 : Nat) : Int) = 1) = false := rfl
    simp only [dSs, dS, den, denV, denR, denC, denO, denG, denJ, denOw, Den.val, BOp.F, COp.F, Bi.F, Me.F, TgA.tgt, bind_ok, bind_exc, bind_bad, opR_some, getR_some, varR_some, e_ixV, ixVR_some, truR_some, boolR_bool, andR_some, orR_some, itR_some, itemsOf, partR_int, e_var, e_varB, e_lit, e_op, e_op2, e_cons, e_nil, e_frz, e_tru, e_bool, e_seq, e_asg, e_expr, e_ret, e_retN, e_and, e_or, e_not, e_andT, e_orT, e_notT, e_if, e_un, e_m1, e_noPart, e_part, e_sl, e_only0, e_chain, chR_bool, e_str, e_jnil, e_jcons, strR_str, e_comp, e_in, e_rng1, e_enum, enR_list, e_next, e_brk, e_cont, e_ifS, e_for, e_par, e_ocons, e_asgT, e_app, e_setL, e_rais, e_cnil, e_cval, e_cown, e_callV, e_callO, callR_some, fresR_ok, fresR_exc, seqR_next, seqR_ret, seqR_exc, seqR_brk, seqR_cont, fin_ret, fin_next, fin_exc, List.getElem?_cons_zero, List.getElem?_cons_succ, List.set_cons_zero, List.set_cons_succ, List.map_cons, List.map_nil, List.nil_append, List.cons_append, List.all_cons, List.all_nil, List.contains_nil, Bool.or_self, Bool.and_self, Bool.or_false, Bool.false_or, Bool.or_true, Bool.true_or, Bool.and_true, Bool.true_and, Bool.and_false, Bool.false_and, Bool.not_true, Bool.not_false, or_true, true_or, and_true, true_and, if_true, if_false, ite_true, ite_false, Bool.false_eq_true, reduceCtorEq, isV, isS, get_nil, get_val, owns_n, owns_v, owns_o, Option.map_some, decide_true, decide_false, tru_bool, tru_list, tru_tup, ix_l, ix_t, int_i, abs_i, add_ii, len_l, len_t, lst_neg, tup_t, tup_l, List.length_cons, List.length_nil, Nat.zero_add, Nat.reduceAdd, eq_self, setAll_c, setAll_n, setEnts_c, setEnts_n, asgTR_tup, Nat.zero_le, Nat.le_refl, all_of, any_of, wipe_nil, wipe_cons, back_nil, back_cons, backO_some, keep0_none, keep0_val, mul_ii, e_compX, compEnd_ok, compEnd_exc, e_zip, zipK_l, zipK_t, isi_bool, isi_str, isi_tup, isi_int, PyData.isStr, PyData.isTuple, PyData.isInt, PyData.isBool, PyData.plain, eq_ii, ne_ii, lt_ii, le_ii, gt_ii, ge_ii, eq_ss, ne_ss, le_ss, gf_20_6, gf_20_8, gf_20_10, gx_0, f3, d0, d1, Hd.slot, Option.all_some, e_try]
    show _ = FRes.ok (0, orBad ((rdVal t).map valD)) _
    cases (rdVal t).map valD <;> rfl
end K55
end

section
set_option Elab.async false
set_option linter.all false
set_option maxRecDepth 100000
set_option maxHeartbeats 4000000
namespace K55
open PySem PySem.Spec PyProof.Rows L2 Mb TL
theorem log_ok {m : Nat} (h : m < 2 ^ 9000) : m.log2 < 9000 := by
  by_cases z : m = 0
  · subst z; decide
  · exact (Nat.log2_lt z).mpr h
theorem take0 {rest : Ev} {d : PyData} (m : Int) (hd : DrawOk d) (hm : 0 < m) (hl : m.natAbs.log2 < 9000) : ∃ (r : Int) (d' : PyData), DrawOk d' ∧ 0 ≤ r ∧ r < m ∧
    ∀ e : Ev → Res (Ent × Ev), (∃ n, frzR e (some (1, d) :: rest) = .ok ((n, .int m), some (1, d) :: rest)) → fCallO F__law_take (cOwn 0 (cVal e cNil)) (some (1, d) :: rest) = .ok ((0, .int r), some (1, d') :: rest) := by
  obtain ⟨r, d', e1, h1, h2, h3⟩ := take_F hd hm hl
  refine ⟨r, d', h1, h2, h3, fun e ⟨n, he⟩ => ?_⟩
  rw [e_callO, e_cown, List.getElem?_cons_zero, getR_some, bind_ok, e_cval, he, bind_ok]
  rw [e_cnil, bind_ok, bind_ok, bind_ok]
  exact ownR_one _ _ _ 0 0 [(1, d), (0, .int m)] (0, .int r) [some (1, d'), none] rfl e1
theorem take1 {o0 : Option Ent} {rest : Ev} {d : PyData} (m : Int) (hd : DrawOk d) (hm : 0 < m) (hl : m.natAbs.log2 < 9000) : ∃ (r : Int) (d' : PyData), DrawOk d' ∧ 0 ≤ r ∧ r < m ∧
    ∀ e : Ev → Res (Ent × Ev), (∃ n, frzR e (o0 :: some (1, d) :: rest) = .ok ((n, .int m), o0 :: some (1, d) :: rest)) → fCallO F__law_take (cOwn 1 (cVal e cNil)) (o0 :: some (1, d) :: rest) = .ok ((0, .int r), o0 :: some (1, d') :: rest) := by
  obtain ⟨r, d', e1, h1, h2, h3⟩ := take_F hd hm hl
  refine ⟨r, d', h1, h2, h3, fun e ⟨n, he⟩ => ?_⟩
  rw [e_callO, e_cown, List.getElem?_cons_succ, List.getElem?_cons_zero, getR_some, bind_ok, e_cval, he, bind_ok]
  rw [e_cnil, bind_ok, bind_ok, bind_ok]
  exact ownR_one _ _ _ 0 1 [(1, d), (0, .int m)] (0, .int r) [some (1, d'), none] rfl e1
/-- a text of plain signs, of a length -/
def Tx (n : Nat) (t : Str) : Prop := t.length ≤ n ∧ ∀ c ∈ tl t, c < 256
theorem cut_mem {T : Str} {lo hi : Option Int} {c : Nat} (h : c ∈ tl (cutS T lo hi)) : c ∈ tl T := List.mem_of_mem_drop (List.mem_of_mem_take h)
theorem tx_cut {n : Nat} {T : Str} (h : Tx n T) (lo hi : Option Int) : Tx n (cutS T lo hi) := ⟨Nat.le_trans (cutS_length T lo hi) h.1, fun c hc => h.2 c (cut_mem hc)⟩
theorem tx_app {n m : Nat} {a b : Str} (h : Tx n a) (g : Tx m b) : Tx (n + m) (a ++ b) := ⟨by rw [slen]; have := h.1; have := g.1; omega, fun c hc => by
  rw [tl_append, List.mem_append] at hc
  rcases hc with hc | hc
  · exact h.2 c hc
  · exact g.2 c hc⟩
theorem tx_le {n m : Nat} {a : Str} (h : Tx n a) (g : n ≤ m) : Tx m a := ⟨Nat.le_trans h.1 g, h.2⟩
theorem signs12 : ∀ n : Fin 12, (⟨#[(atI ("0123.,-a\"z 9" : Str).cps.toList (n.1 : Int)).getD 0]⟩ : Str).length ≤ 1 ∧ (tl (⟨#[(atI ("0123.,-a\"z 9" : Str).cps.toList (n.1 : Int)).getD 0]⟩ : Str)).all (fun c => decide (c < 256)) = true ∧ (atI ("0123.,-a\"z 9" : Str).cps.toList (n.1 : Int)).isSome = true := by decide +kernel
theorem sign12 (r : Int) (h0 : 0 ≤ r) (h1 : r < 12) : ∃ M : Str, Tx 1 M ∧ ∀ n m, ixF [(n, .str "0123.,-a\"z 9"), (m, .int r)] = some (0, .str M) := by
  obtain ⟨k, rfl⟩ := Int.eq_ofNat_of_zero_le h0
  obtain ⟨a1, a2, a3⟩ := signs12 ⟨k, by omega⟩
  obtain ⟨c, hc⟩ := Option.isSome_iff_exists.mp a3
  dsimp only at a1 a2 hc
  rw [hc] at a1 a2
  refine ⟨⟨#[c]⟩, ⟨a1, fun c hc => of_decide_eq_true (List.all_eq_true.mp a2 c hc)⟩, fun n m => ?_⟩
  have s : ("0123.,-a\"z 9" : Str).length ≤ LIM := by decide
  rw [ix_s, if_pos s, hc]
  rfl
theorem pick4 (a b c e : Str) (r : Int) (h0 : 0 ≤ r) (h1 : r < 4) : ∃ s, (s = a ∨ s = b ∨ s = c ∨ s = e) ∧ ∀ n m, ixF [(n, .list [.str a, .str b, .str c, .str e]), (m, .int r)] = some (n - 1, .str s) := by
  obtain ⟨k, rfl⟩ := Int.eq_ofNat_of_zero_le h0
  obtain rfl | rfl | rfl | rfl : k = 0 ∨ k = 1 ∨ k = 2 ∨ k = 3 := by omega
  · exact ⟨a, .inl rfl, fun n m => rfl⟩
  · exact ⟨b, .inr (.inl rfl), fun n m => rfl⟩
  · exact ⟨c, .inr (.inr (.inl rfl)), fun n m => rfl⟩
  · exact ⟨e, .inr (.inr (.inr rfl)), fun n m => rfl⟩
theorem lst4 (a b c e : PyData) : lstD [(0, a), (0, b), (0, c), (0, e)] = some (1, .list [a, b, c, e]) := rfl
theorem bent_F {d : PyData} {T : Str} (hd : DrawOk d) (hT : Tx 200 T) : ∃ (d' : PyData) (S : Str), DrawOk d' ∧ Tx 500 S ∧ F__law_bent [(1, d), (0, .str T)] = .ok (0, .str S) [some (1, d'), none] := by
  have lim : 1000 ≤ LIM := by decide
  have p9 : 4000 < 2 ^ 9000 := by decide +kernel
  have hl := hT.1
  have tl1 : T.length ≤ LIM := by omega
  obtain ⟨r1, d1, h1, a1, b1, k1⟩ := take0 (rest := [some (0, .str T), none, none]) ((T.length : Int) + 1) hd (by omega) (by rw [show ((T.length : Int) + 1).natAbs = T.length + 1 by omega]; exact log_ok (by omega))
  have t1 := k1 (den (G fl21) (.bin .add (.bi .len (.var 1)) (.int 1))).v ⟨0, by simp only [dSs, dS, den, denV, denR, denC, denO, denG, denJ, denOw, Den.val, BOp.F, COp.F, Bi.F, Me.F, TgA.tgt, bind_ok, bind_exc, bind_bad, opR_some, getR_some, varR_some, e_ixV, ixVR_some, truR_some, boolR_bool, andR_some, orR_some, itR_some, itemsOf, partR_int, e_var, e_varB, e_lit, e_op, e_op2, e_cons, e_nil, e_frz, e_tru, e_bool, e_seq, e_asg, e_expr, e_ret, e_retN, e_and, e_or, e_not, e_andT, e_orT, e_notT, e_if, e_un, e_m1, e_noPart, e_part, e_sl, e_only0, e_chain, chR_bool, e_str, e_jnil, e_jcons, strR_str, e_comp, e_in, e_rng1, e_enum, enR_list, e_next, e_brk, e_cont, e_ifS, e_for, e_par, e_ocons, e_asgT, e_app, e_setL, e_rais, e_cnil, e_cval, e_cown, e_callV, e_callO, callR_some, fresR_ok, fresR_exc, seqR_next, seqR_ret, seqR_exc, seqR_brk, seqR_cont, fin_ret, fin_next, fin_exc, List.getElem?_cons_zero, List.getElem?_cons_succ, List.set_cons_zero, List.set_cons_succ, List.map_cons, List.map_nil, List.nil_append, List.cons_append, List.all_cons, List.all_nil, List.contains_nil, Bool.or_self, Bool.and_self, Bool.or_false, Bool.false_or, Bool.or_true, Bool.true_or, Bool.and_true, Bool.true_and, Bool.and_false, Bool.false_and, Bool.not_true, Bool.not_false, or_true, true_or, and_true, true_and, if_true, if_false, ite_true, ite_false, Bool.false_eq_true, reduceCtorEq, isV, isS, get_nil, get_val, owns_n, owns_v, owns_o, Option.map_some, decide_true, decide_false, tru_bool, tru_list, tru_tup, ix_l, ix_t, int_i, abs_i, add_ii, len_l, len_t, lst_neg, tup_t, tup_l, List.length_cons, List.length_nil, Nat.zero_add, Nat.reduceAdd, eq_self, setAll_c, setAll_n, setEnts_c, setEnts_n, asgTR_tup, Nat.zero_le, Nat.le_refl, all_of, any_of, wipe_nil, wipe_cons, back_nil, back_cons, backO_some, keep0_none, keep0_val, mul_ii, e_compX, compEnd_ok, compEnd_exc, e_zip, zipK_l, zipK_t, isi_bool, isi_str, isi_tup, isi_int, PyData.isStr, PyData.isTuple, PyData.isInt, PyData.isBool, PyData.plain, eq_ii, ne_ii, lt_ii, le_ii, gt_ii, ge_ii, eq_ss, ne_ss, le_ss, len_s, tl1]⟩
  simp only [dSs, dS, den, denV, denR, denC, denO, denG, denJ, denOw, Den.val, BOp.F, COp.F, Bi.F, Me.F, TgA.tgt, bind_ok, bind_exc, bind_bad, opR_some, getR_some, varR_some, e_ixV, ixVR_some, truR_some, boolR_bool, andR_some, orR_some, itR_some, itemsOf, partR_int, e_var, e_varB, e_lit, e_op, e_op2, e_cons, e_nil, e_frz, e_tru, e_bool, e_seq, e_asg, e_expr, e_ret, e_retN, e_and, e_or, e_not, e_andT, e_orT, e_notT, e_if, e_un, e_m1, e_noPart, e_part, e_sl, e_only0, e_chain, chR_bool, e_str, e_jnil, e_jcons, strR_str, e_comp, e_in, e_rng1, e_enum, enR_list, e_next, e_brk, e_cont, e_ifS, e_for, e_par, e_ocons, e_asgT, e_app, e_setL, e_rais, e_callV, callR_some, fresR_ok, fresR_exc, seqR_next, seqR_ret, seqR_exc, seqR_brk, seqR_cont, fin_ret, fin_next, fin_exc, List.getElem?_cons_zero, List.getElem?_cons_succ, List.set_cons_zero, List.set_cons_succ, List.map_cons, List.map_nil, List.nil_append, List.cons_append, List.all_cons, List.all_nil, List.contains_nil, Bool.or_self, Bool.and_self, Bool.or_false, Bool.false_or, Bool.or_true, Bool.true_or, Bool.and_true, Bool.true_and, Bool.and_false, Bool.false_and, Bool.not_true, Bool.not_false, or_true, true_or, and_true, true_and, if_true, if_false, ite_true, ite_false, Bool.false_eq_true, reduceCtorEq, isV, isS, get_nil, get_val, owns_n, owns_v, owns_o, Option.map_some, decide_true, decide_false, tru_bool, tru_list, tru_tup, ix_l, ix_t, int_i, abs_i, add_ii, len_l, len_t, lst_neg, tup_t, tup_l, List.length_cons, List.length_nil, Nat.zero_add, Nat.reduceAdd, eq_self, setAll_c, setAll_n, setEnts_c, setEnts_n, asgTR_tup, Nat.zero_le, Nat.le_refl, all_of, any_of, wipe_nil, wipe_cons, back_nil, back_cons, backO_some, keep0_none, keep0_val, mul_ii, e_compX, compEnd_ok, compEnd_exc, e_zip, zipK_l, zipK_t, isi_bool, isi_str, isi_tup, isi_int, PyData.isStr, PyData.isTuple, PyData.isInt, PyData.isBool, PyData.plain, eq_ii, ne_ii, lt_ii, le_ii, gt_ii, ge_ii, eq_ss, ne_ss, le_ss] at t1
  obtain ⟨r2, d2, h2, a2, b2, k2⟩ := take0 (rest := [some (0, .str T), none, none]) 12 h1 (by decide) (by decide)
  have t2 := k2 (fLit (.int 12)) ⟨0, rfl⟩
  obtain ⟨M, hM, px⟩ := sign12 r2 a2 b2
  obtain ⟨r3, d3, h3, a3, b3, k3⟩ := take0 (rest := [some (0, .str T), some (0, .int r1), some (0, .str M)]) 4 h2 (by decide) (by decide)
  have t3 := k3 (fLit (.int 4)) ⟨0, rfl⟩
  have c1 := tx_cut hT none (some r1)
  have c2 := tx_cut hT (some r1) none
  have c3 := tx_cut hT (some (r1 + 1)) none
  have c4 := tx_app c1 hM
  have c5 := tx_app c4 c2
  have c6 := tx_app c4 c3
  have c7 := tx_app c1 c3
  have l1 : (cutS T none (some r1)).length + M.length ≤ LIM := by have := c1.1; have := hM.1; omega
  have l2 : (cutS T none (some r1) ++ M).length + (cutS T (some r1) none).length ≤ LIM := by have := c4.1; have := c2.1; omega
  have l3 : (cutS T none (some r1) ++ M).length + (cutS T (some (r1 + 1)) none).length ≤ LIM := by have := c4.1; have := c3.1; omega
  have l4 : (cutS T none (some r1)).length + (cutS T (some (r1 + 1)) none).length ≤ LIM := by have := c1.1; have := c3.1; omega
  obtain ⟨S, hS, py⟩ := pick4 (cutS T none (some r1) ++ M ++ cutS T (some r1) none) (cutS T none (some r1) ++ cutS T (some (r1 + 1)) none) (cutS T none (some r1) ++ M ++ cutS T (some (r1 + 1)) none) T r3 a3 b3
  refine ⟨d3, S, h3, ?_, ?_⟩
  · rcases hS with rfl | rfl | rfl | rfl
    · exact tx_le c5 (by decide)
    · exact tx_le c7 (by decide)
    · exact tx_le c6 (by decide)
    · exact tx_le hT (by decide)
  · unfold F__law_bent b__law_bent
    simp only [e_run, List.length_cons, List.length_nil, if_true, List.map_cons, List.map_nil, List.cons_append, List.nil_append, List.replicate_succ, List.replicate_zero, Nat.reduceSub, Nat.reduceAdd]
    have f2 : ([0] : List Nat).contains 2 = false := rfl
    have f3 : ([0] : List Nat).contains 3 = false := rfl
    simp only [dSs, dS, den, denV, denR, denC, denO, denG, denJ, denOw, Den.val, BOp.F, COp.F, Bi.F, Me.F, TgA.tgt, bind_ok, bind_exc, bind_bad, opR_some, getR_some, varR_some, e_ixV, ixVR_some, truR_some, boolR_bool, andR_some, orR_some, itR_some, itemsOf, partR_int, e_var, e_varB, e_lit, e_op, e_op2, e_cons, e_nil, e_frz, e_tru, e_bool, e_seq, e_asg, e_expr, e_ret, e_retN, e_and, e_or, e_not, e_andT, e_orT, e_notT, e_if, e_un, e_m1, e_noPart, e_part, e_sl, e_only0, e_chain, chR_bool, e_str, e_jnil, e_jcons, strR_str, e_comp, e_in, e_rng1, e_enum, enR_list, e_next, e_brk, e_cont, e_ifS, e_for, e_par, e_ocons, e_asgT, e_app, e_setL, e_rais, e_callV, callR_some, fresR_ok, fresR_exc, seqR_next, seqR_ret, seqR_exc, seqR_brk, seqR_cont, fin_ret, fin_next, fin_exc, List.getElem?_cons_zero, List.getElem?_cons_succ, List.set_cons_zero, List.set_cons_succ, List.map_cons, List.map_nil, List.nil_append, List.cons_append, List.all_cons, List.all_nil, List.contains_nil, Bool.or_self, Bool.and_self, Bool.or_false, Bool.false_or, Bool.or_true, Bool.true_or, Bool.and_true, Bool.true_and, Bool.and_false, Bool.false_and, Bool.not_true, Bool.not_false, or_true, true_or, and_true, true_and, if_true, if_false, ite_true, ite_false, Bool.false_eq_true, reduceCtorEq, isV, isS, get_nil, get_val, owns_n, owns_v, owns_o, Option.map_some, decide_true, decide_false, tru_bool, tru_list, tru_tup, ix_l, ix_t, int_i, abs_i, add_ii, len_l, len_t, lst_neg, tup_t, tup_l, List.length_cons, List.length_nil, Nat.zero_add, Nat.reduceAdd, eq_self, setAll_c, setAll_n, setEnts_c, setEnts_n, asgTR_tup, Nat.zero_le, Nat.le_refl, all_of, any_of, wipe_nil, wipe_cons, back_nil, back_cons, backO_some, keep0_none, keep0_val, mul_ii, e_compX, compEnd_ok, compEnd_exc, e_zip, zipK_l, zipK_t, isi_bool, isi_str, isi_tup, isi_int, PyData.isStr, PyData.isTuple, PyData.isInt, PyData.isBool, PyData.plain, eq_ii, ne_ii, lt_ii, le_ii, gt_ii, ge_ii, eq_ss, ne_ss, le_ss, gf_21_12, denOw, t1, t2, px, f2, f3]
    simp only [dSs, dS, den, denV, denR, denC, denO, denG, denJ, denOw, Den.val, BOp.F, COp.F, Bi.F, Me.F, TgA.tgt, bind_ok, bind_exc, bind_bad, opR_some, getR_some, varR_some, e_ixV, ixVR_some, truR_some, boolR_bool, andR_some, orR_some, itR_some, itemsOf, partR_int, e_var, e_varB, e_lit, e_op, e_op2, e_cons, e_nil, e_frz, e_tru, e_bool, e_seq, e_asg, e_expr, e_ret, e_retN, e_and, e_or, e_not, e_andT, e_orT, e_notT, e_if, e_un, e_m1, e_noPart, e_part, e_sl, e_only0, e_chain, chR_bool, e_str, e_jnil, e_jcons, strR_str, e_comp, e_in, e_rng1, e_enum, enR_list, e_next, e_brk, e_cont, e_ifS, e_for, e_par, e_ocons, e_asgT, e_app, e_setL, e_rais, e_callV, callR_some, fresR_ok, fresR_exc, seqR_next, seqR_ret, seqR_exc, seqR_brk, seqR_cont, fin_ret, fin_next, fin_exc, List.getElem?_cons_zero, List.getElem?_cons_succ, List.set_cons_zero, List.set_cons_succ, List.map_cons, List.map_nil, List.nil_append, List.cons_append, List.all_cons, List.all_nil, List.contains_nil, Bool.or_self, Bool.and_self, Bool.or_false, Bool.false_or, Bool.or_true, Bool.true_or, Bool.and_true, Bool.true_and, Bool.and_false, Bool.false_and, Bool.not_true, Bool.not_false, or_true, true_or, and_true, true_and, if_true, if_false, ite_true, ite_false, Bool.false_eq_true, reduceCtorEq, isV, isS, get_nil, get_val, owns_n, owns_v, owns_o, Option.map_some, decide_true, decide_false, tru_bool, tru_list, tru_tup, ix_l, ix_t, int_i, abs_i, add_ii, len_l, len_t, lst_neg, tup_t, tup_l, List.length_cons, List.length_nil, Nat.zero_add, Nat.reduceAdd, eq_self, setAll_c, setAll_n, setEnts_c, setEnts_n, asgTR_tup, Nat.zero_le, Nat.le_refl, all_of, any_of, wipe_nil, wipe_cons, back_nil, back_cons, backO_some, keep0_none, keep0_val, mul_ii, e_compX, compEnd_ok, compEnd_exc, e_zip, zipK_l, zipK_t, isi_bool, isi_str, isi_tup, isi_int, PyData.isStr, PyData.isTuple, PyData.isInt, PyData.isBool, PyData.plain, eq_ii, ne_ii, lt_ii, le_ii, gt_ii, ge_ii, eq_ss, ne_ss, le_ss, gf_21_12, sl_s, add_ss, tl1, l1, l2, l3, l4, lst4, t3, py]
    rfl
end K55
end

section
set_option Elab.async false
set_option linter.all false
set_option maxRecDepth 100000
set_option maxHeartbeats 4000000
namespace K55
open PySem PySem.Spec PyProof.Rows L2 Mb TL
def Ib (n : Int) : Prop := n.natAbs.log2 < 1920 ∧ (tsz n).length ≤ 500
theorem int_ib {t : Str} {n : Int} (h : intOf t = some n) (hl : t.length ≤ 500) : Ib n := by
  unfold intOf at h
  split at h
  · rename_i ok
    unfold okInt at ok
    simp only [Bool.and_eq_true, Bool.not_eq_true', decide_eq_false_iff_not] at ok
    obtain ⟨a1, a2, a3⟩ := ok
    obtain ⟨k, hk, hb⟩ := num_some t (signs_ne a1) (fun c hc => List.all_eq_true.mp a2 c hc) hl
    rw [hk] at h
    cases h
    rw [hk] at a3
    have a3 : Str.ofString (toString n) = t := of_decide_eq_true a3
    refine ⟨hb, ?_⟩
    show (Str.ofString (toString n)).length ≤ 500
    rw [a3]
    exact hl
  · cases h
def Pb (p : Int × Int) : Prop := Ib p.1 ∧ Ib p.2
theorem rdDot_pb {t : Str} {p : Int × Int} (h : rdDot t = some p) (hl : t.length ≤ 500) : Pb p := by
  obtain ⟨l1, l2, l3⟩ := pieces_len edot kdot t
  unfold rdDot at h
  revert h l2
  generalize Txt.split t "." = ws
  intro h l2
  split at h
  · split at h
    · rename_i x y e1 e2
      split at h
      · cases h
        exact ⟨int_ib e1 (Nat.le_trans (l2 _ (by simp)) hl), int_ib e2 (Nat.le_trans (l2 _ (by simp)) hl)⟩
      · cases h
    · cases h
  · cases h
theorem mapM_pb : ∀ {ws : List Str} {v : List (Int × Int)}, (∀ w ∈ ws, w.length ≤ 500) → ws.mapM rdDot = some v → ∀ p ∈ v, Pb p
  | [], v, _, h => by simp at h; subst h; exact nofun
  | w :: ws, v, hw, h => by
    rw [List.mapM_cons] at h
    cases q : rdDot w with
    | none => rw [q] at h; cases h
    | some p =>
      rw [q] at h
      cases q2 : ws.mapM rdDot with
      | none => rw [q2] at h; cases h
      | some u =>
        rw [q2] at h
        have e : v = p :: u := by simpa using h.symm
        subst e
        intro r hr
        rcases List.mem_cons.mp hr with rfl | hr
        · exact rdDot_pb q (hw w List.mem_cons_self)
        · exact mapM_pb (fun x hx => hw x (List.mem_cons_of_mem _ hx)) q2 r hr
theorem rdVec_pb {t : Str} {v : List (Int × Int)} (h : rdVec t = some v) (hl : t.length ≤ 500) : (∀ p ∈ v, Pb p) ∧ v.length ≤ 501 := by
  obtain ⟨l1, l2, l3⟩ := pieces_len ecom kcom t
  unfold rdVec at h
  by_cases c : t = "-"
  · rw [if_pos c] at h
    have e : v = [] := by
      simp [Option.bind] at h
      exact h.2
    subst e
    exact ⟨nofun, Nat.zero_le _⟩
  · rw [if_neg c] at h
    cases q : (Txt.split t ",").mapM rdDot with
    | none => rw [q] at h; cases h
    | some u =>
      rw [q] at h
      have e : v = u := by
        simp [Option.bind] at h
        exact h.2.symm
      subst e
      exact ⟨mapM_pb (fun w hw => Nat.le_trans (l2 w hw) hl) q, by rw [(mapM_isD q).2]; omega⟩
theorem int_shows {n : Int} (h : Ib n) : Shows (.int n) := by
  have lim : 500 ≤ LIM := by decide
  refine ⟨by simp [PyData.plain], ?_, by simp [PyData.depth], ?_⟩
  · rw [PyData.showable]; exact decide_eq_true h.1
  · rw [PyData.shown]; exact Nat.le_trans h.2 lim
theorem pd_short {p : Int × Int} (h : Pb p) : (pdI p).shown.length ≤ 1007 := by
  have e : (pdI p).shown = tupleText [tsz p.1, tsz p.2] := by
    unfold pdI
    simp only [PyData.shown, PyData.shownAll]
    rfl
  have a := h.1.2
  have b := h.2.2
  have t := tupleText_len_le [tsz p.1, tsz p.2]
  rw [e]
  simp only [List.map_cons, List.map_nil, List.sum_cons, List.sum_nil, List.length_cons, List.length_nil] at t
  omega
theorem pds_short : ∀ v : List (Int × Int), (∀ p ∈ v, Pb p) → (PyData.shownAll (v.map pdI)).length = v.length ∧ ((PyData.shownAll (v.map pdI)).map (·.length)).sum ≤ 1007 * v.length
  | [], _ => by simp [PyData.shownAll]
  | p :: f, h => by
    obtain ⟨i1, i2⟩ := pds_short f fun q hq => h q (List.mem_cons_of_mem _ hq)
    have s := pd_short (h p List.mem_cons_self)
    rw [List.map_cons, PyData.shownAll]
    simp only [List.length_cons, List.map_cons, List.sum_cons, i1]
    exact ⟨trivial, by omega⟩
theorem pd_show {p : Int × Int} (h : Pb p) : (pdI p).showable = true := by
  have a := h.1.1
  have b := h.2.1
  simp [pdI, PyData.showable, PyData.showableAll, a, b]
theorem pds_show : ∀ v : List (Int × Int), (∀ p ∈ v, Pb p) → PyData.showableAll (v.map pdI) = true
  | [], _ => by simp [PyData.showableAll]
  | p :: f, h => by
    rw [List.map_cons, PyData.showableAll, pds_show f fun q hq => h q (List.mem_cons_of_mem _ hq), pd_show (h p List.mem_cons_self)]
    rfl
theorem dot_shows {p : Int × Int} (h : Pb p) : Shows (pdI p) := by
  have lim : 2000 ≤ LIM := by decide
  exact ⟨pdI_plain p, pd_show h, by rw [pdI_depth]; decide, Nat.le_trans (pd_short h) (by omega)⟩
theorem vec_shows {v : List (Int × Int)} (h : ∀ p ∈ v, Pb p) (hl : v.length ≤ 501) : Shows (.tuple (v.map pdI)) := by
  obtain ⟨i1, i2⟩ := pds_short v h
  have t := tupleText_len_le (PyData.shownAll (v.map pdI))
  have dp := depth_map (k := pdI) (b := 1) (fun p => Nat.le_of_eq (pdI_depth p)) v
  refine ⟨by rw [PyData.plain]; exact plain_map pdI_plain v, by rw [PyData.showable]; exact pds_show v h, by rw [PyData.depth]; omega, ?_⟩
  rw [PyData.shown]
  rw [i1] at t
  have : 2000000 ≤ LIM := by decide
  omega
theorem str_shows {s : Str} (h : Tx 600 s) : Shows (.str s) := by
  have r := PySem.StrLaws.reprText_len s (fun c hc => Nat.lt_trans (h.2 c hc) (by decide))
  have hl := h.1
  have : 10000 ≤ LIM := by decide
  refine ⟨by simp [PyData.plain], by simp [PyData.showable], by simp [PyData.depth], ?_⟩
  rw [PyData.shown]
  omega
theorem bad_tx : Tx 600 ("bad" : Str) := ⟨by decide, by decide +kernel⟩
theorem any_shows (c : Nat) {t : Str} (h : Tx 500 t) : Shows (orBad (rdAny c t)) := by
  have hl := h.1
  match c with
  | 0 =>
    show Shows (orBad ((rdDot t).map pdI))
    cases q : rdDot t with
    | none => exact str_shows bad_tx
    | some p => exact dot_shows (rdDot_pb q hl)
  | 1 =>
    show Shows (orBad ((rdVec t).map fun v => .tuple (v.map pdI)))
    cases q : rdVec t with
    | none => exact str_shows bad_tx
    | some v => exact vec_shows (rdVec_pb q hl).1 (rdVec_pb q hl).2
  | c + 2 =>
    show Shows (orBad ((rdVal t).map valD))
    unfold rdVal
    split
    · split
      · exact str_shows (tx_le (tx_cut h _ _) (by decide))
      · exact str_shows bad_tx
    · cases q : intOf t with
      | none => exact str_shows bad_tx
      | some n => exact int_shows (int_ib q hl)
end K55
end

section
set_option Elab.async false
set_option linter.all false
set_option maxRecDepth 100000
set_option maxHeartbeats 4000000
namespace K55
open PySem PySem.Spec PyProof.Rows L2 Mb TL
theorem int_text {n : Int} (h : 0 ≤ n) (h2 : n < 1000000) : intOf (tsz n) = some n := by
  have lt := tsz_len h h2
  obtain ⟨k, rfl⟩ := Int.eq_ofNat_of_zero_le h
  have e : tl (tsz (k : Int)) = numL k := tl_num k
  have nl : (numL k).length ≤ 6 := by rw [← e, ← len_tl]; exact lt
  have ii : intText? (tsz (k : Int)) = some (k : Int) := int_num (by omega)
  have s : signsOf (tsz (k : Int)) = tsz (k : Int) := by
    rcases signs_cases (tsz (k : Int)) with ⟨_, e2⟩ | ⟨_, e2⟩
    · exact absurd (by rw [← e, e2]; exact List.mem_cons_self) (numL_free (n := k) (s := 45) (.inl (by decide)))
    · exact e2
  have ne : ¬ tsz (k : Int) = "" := fun z => by
    rw [z] at e
    exact numL_ne k e.symm
  have ad : (tl (tsz (k : Int))).all dig = true := by
    rw [e]
    exact List.all_eq_true.mpr fun c hc => (dig_iff c).mpr (numL_digits k c hc)
  unfold intOf okInt
  rw [s, decide_eq_false ne, ad, ii]
  have same : decide (Str.ofString (toString (k : Int)) = tsz (k : Int)) = true := decide_eq_true rfl
  simp only [same]
  rfl
theorem rd_pdT {p : Int × Int} (h : Sm2 p) (hd : isD p = true) : rdDot (pdT p) = some p := by
  obtain ⟨h1, h2, h3, h4⟩ := h
  have n1 : 46 ∉ tl (tsz p.1) := by rw [tl_tsz h1]; exact numL_free (.inl (by decide))
  have n2 : 46 ∉ tl (tsz p.2) := by rw [tl_tsz h3]; exact numL_free (.inl (by decide))
  have sp : Txt.split (pdT p) "." = [tsz p.1, tsz p.2] := by
    have j : pdT p = Txt.join "." [tsz p.1, tsz p.2] := by
      refine ext_tl ?_
      unfold pdT
      rw [join_eq, tl_join, tl_append, tl_append]
      simp [joinL]
    rw [j]
    refine split_join edot kdot (by simp) fun q hq => ?_
    simp only [List.mem_cons, List.not_mem_nil, or_false] at hq
    rcases hq with rfl | rfl
    · exact n1
    · exact n2
  unfold rdDot
  rw [sp]
  dsimp only
  rw [int_text h1 h2, int_text h3 h4]
  dsimp only
  rw [if_pos hd]
theorem com_pdT {p : Int × Int} (h : Sm2 p) : 44 ∉ tl (pdT p) := by
  obtain ⟨h1, h2, h3, h4⟩ := h
  unfold pdT
  rw [tl_append, tl_append, edot, tl_tsz h1, tl_tsz h3]
  simp only [List.mem_append, not_or, List.mem_singleton]
  exact ⟨⟨numL_free (.inl (by decide)), by decide⟩, numL_free (.inl (by decide))⟩
theorem mapM_pdT : ∀ v : List (Int × Int), (∀ p ∈ v, Sm2 p ∧ isD p = true) → (v.map pdT).mapM rdDot = some v
  | [], _ => rfl
  | p :: v, h => by
    rw [List.map_cons, List.mapM_cons, rd_pdT (h p List.mem_cons_self).1 (h p List.mem_cons_self).2, mapM_pdT v fun q hq => h q (List.mem_cons_of_mem _ hq)]
    rfl
theorem rd_vecT {v : List (Int × Int)} (h : ∀ p ∈ v, Sm2 p ∧ isD p = true) (ha : asc v = true) : rdVec (vecT v) = some v := by
  cases v with
  | nil => rfl
  | cons p v =>
    have ne : ¬ vecT (p :: v) = "-" := by
      intro z
      have c : 46 ∈ tl (vecT (p :: v)) := by
        show 46 ∈ tl (Txt.join "," ((p :: v).map pdT))
        rw [join_eq, tl_join]
        have m : 46 ∈ tl (pdT p) := by unfold pdT; rw [tl_append, tl_append, edot]; simp
        cases v with
        | nil => exact m
        | cons q r => exact List.mem_append_left _ m
      rw [z] at c
      exact absurd c (by decide)
    unfold rdVec
    rw [if_neg ne]
    have sp : Txt.split (vecT (p :: v)) "," = (p :: v).map pdT := split_join ecom kcom (by simp) fun q hq => by
      obtain ⟨r, hr, rfl⟩ := List.mem_map.mp hq
      exact com_pdT (h r hr).1
    rw [sp, mapM_pdT (p :: v) h]
    show (if _ then _ else _) = _
    rw [if_pos ha]
theorem small_back : ∀ k : Fin 40, intOf (tsz ((k.1 : Int) - 20)) = some ((k.1 : Int) - 20) ∧ ¬ cutS (tsz ((k.1 : Int) - 20)) none (some 1) = "\"" := by decide +kernel
theorem rd_valT {x : Sum Int Str} (h : valOk x) : rdVal (valT x) = some x := by
  cases x with
  | inl n =>
    have b := small_back ⟨(n + 20).toNat, by have := h.1; have := h.2; omega⟩
    have e : (((n + 20).toNat : Nat) : Int) - 20 = n := by have := h.1; omega
    dsimp only at b
    rw [e] at b
    show rdVal (tsz n) = _
    unfold rdVal
    rw [if_neg b.2, b.1]
    rfl
  | inr s =>
    have q : tl ("\"" : Str) = [34] := rfl
    have t : tl (valT (.inr s)) = 34 :: (tl s ++ [34]) := by
      show tl ("\"" ++ s ++ "\"" : Str) = _
      rw [tl_append, tl_append, q]
      rfl
    have ln : (valT (.inr s)).length = s.length + 2 := by
      rw [len_tl, t, len_tl]
      simp
    have c1 : cutS (valT (.inr s)) none (some 1) = "\"" := by
      refine ext_tl ?_
      rw [tl_take, t]
      rfl
    have c2 : endsQ (valT (.inr s)) = true := by
      unfold endsQ
      rw [t, ln, ← List.cons_append, List.getLast?_concat]
      simp
    have c3 : cutS (valT (.inr s)) (some 1) (some (-1)) = s := by
      refine ext_tl ?_
      have e : tl (cutS (valT (.inr s)) (some 1) (some (-1))) = ((tl (valT (.inr s))).drop (HT.sIx (valT (.inr s)).length 0 (some 1))).take (HT.sIx (valT (.inr s)).length (valT (.inr s)).length (some (-1)) - HT.sIx (valT (.inr s)).length 0 (some 1)) := rfl
      rw [e, t, ln]
      have s1 : HT.sIx (s.length + 2) 0 (some 1) = 1 := by
        unfold HT.sIx
        simp
      have s2 : HT.sIx (s.length + 2) (s.length + 2) (some (-1)) = s.length + 1 := by
        unfold HT.sIx
        simp
        omega
      rw [s1, s2, List.drop_succ_cons, List.drop_zero]
      have l : s.length + 1 - 1 = (tl s).length := by rw [len_tl]; omega
      rw [l, List.take_left]
    unfold rdVal
    rw [if_pos c1, if_pos c2, c3]
end K55
end

section
set_option Elab.async false
set_option linter.all false
set_option maxRecDepth 100000
set_option maxHeartbeats 4000000
namespace K55
open PySem PySem.Spec PyProof.Rows L2 Mb TL
theorem b62k : (1000 : Int) < B62 := by rw [B62_eq]; decide
theorem rng_n (n : Nat) (h : n < 1000) (ε : Ev) : rngR (.int (n : Int)) ε = .ok ((List.range n).map fun (k : Nat) => .int (k : Int), ε) := by
  have := b62k
  rw [rngR_int _ _ ⟨by omega, by omega⟩]
  rfl
theorem comp_sub {α : Type} {vs : List Nat} {tg : Tgt} {ts : Ev → Res (Bool × Ev)} {f : Ev → Res (Ent × Ev)} {I : Ev → Prop} (e : α → PyData) (V : α → PyData → Prop) : ∀ (its : List α) (acc : List PyData) (ε : Ev), acc.length + its.length ≤ LIM →
    (∀ x ∈ its, ∀ ε, I ε → ∃ ε1 b ε2, tg.put (e x) ε = some ε1 ∧ ts ε1 = .ok (b, ε2) ∧ (b = false → I (wipeE ε2 vs)) ∧ (b = true → ∃ n d ε3, f ε2 = .ok ((n, d), ε3) ∧ V x d ∧ I (wipeE ε3 vs))) → I ε →
    ∃ ys xs ε', cLoop vs tg ts f (its.map e) ε acc = .ok (acc ++ xs, ε') ∧ List.Sublist ys its ∧ PySem.Paired V ys xs ∧ I ε'
  | [], acc, ε, _, _, i => ⟨[], [], ε, by show Res.ok (acc, ε) = _; simp, .slnil, .nil, i⟩
  | d :: its, acc, ε, hl, h, i => by
    obtain ⟨ε1, b, ε2, h1, h2, hf, ht⟩ := h d List.mem_cons_self ε i
    have hl' : acc.length + its.length + 1 ≤ LIM := by simpa [Nat.add_assoc] using hl
    have rest := fun x hx => h x (List.mem_cons_of_mem _ hx)
    cases b with
    | false =>
      obtain ⟨ys, xs, ε', q, sb, p, i'⟩ := comp_sub e V its acc (wipeE ε2 vs) (by omega) rest (hf rfl)
      refine ⟨ys, xs, ε', ?_, sb.cons _, p, i'⟩
      rw [List.map_cons]
      unfold cLoop
      rw [h1]
      dsimp only
      rw [h2]
      exact q
    | true =>
      obtain ⟨n, x, ε3, h3, v, i3⟩ := ht rfl
      obtain ⟨ys, xs, ε', q, sb, p, i'⟩ := comp_sub e V its (acc ++ [x]) (wipeE ε3 vs) (by simp; omega) rest i3
      refine ⟨d :: ys, x :: xs, ε', ?_, sb.cons₂ _, .cons v p, i'⟩
      rw [List.map_cons]
      unfold cLoop
      rw [h1]
      dsimp only
      rw [h2]
      dsimp only
      rw [h3]
      dsimp only
      rw [if_pos (by omega), q]
      simp
theorem takeg {o0 : Option Ent} {rest : Ev} {d : PyData} (m : Int) (hd : DrawOk d) (hm : 0 < m) (hl : m.natAbs.log2 < 9000) : ∃ (r : Int) (d' : PyData), DrawOk d' ∧ 0 ≤ r ∧ r < m ∧
    ∀ (e : Ev → Res (Ent × Ev)) (d0 : PyData), (∃ n, frzR e (o0 :: some (1, d0) :: rest) = .ok ((n, .int m), o0 :: some (1, d) :: rest)) → fCallO F__law_take (cOwn 1 (cVal e cNil)) (o0 :: some (1, d0) :: rest) = .ok ((0, .int r), o0 :: some (1, d') :: rest) := by
  obtain ⟨r, d', e1, h1, h2, h3⟩ := take_F hd hm hl
  refine ⟨r, d', h1, h2, h3, fun e d0 ⟨n, he⟩ => ?_⟩
  rw [e_callO, e_cown, List.getElem?_cons_succ, List.getElem?_cons_zero, getR_some, bind_ok, e_cval, he, bind_ok]
  rw [e_cnil, bind_ok, bind_ok, bind_ok]
  exact ownR_one _ _ _ 0 1 [(1, d), (0, .int m)] (0, .int r) [some (1, d'), none] rfl e1
/-- a draw with a given number -/
theorem taki {o0 : Option Ent} {rest : Ev} {d : PyData} (m : Int) (hd : DrawOk d) (hm : 0 < m) (hl : m.natAbs.log2 < 9000) : ∃ (r : Int) (d' : PyData), DrawOk d' ∧ 0 ≤ r ∧ r < m ∧
    fCallO F__law_take (cOwn 1 (cVal (fLit (.int m)) cNil)) (o0 :: some (1, d) :: rest) = .ok ((0, .int r), o0 :: some (1, d') :: rest) := by
  obtain ⟨r, d', h1, h2, h3, k⟩ := takeg (o0 := o0) (rest := rest) m hd hm hl
  exact ⟨r, d', h1, h2, h3, k _ d ⟨0, rfl⟩⟩
theorem lst2 (a b : PyData) : lstD [(0, a), (0, b)] = some (1, .list [a, b]) := rfl
def eDot : Ex := (.tup (.cons (.call 12 (.own 1 (.val (.int 8) .nil))) (.cons (.bin .add (.int 1) (.call 12 (.own 1 (.val (.idx (.lst (.cons (.int 9) (.cons (.int 400) .nil))) (.call 12 (.own 1 (.val (.int 2) .nil)))) .nil)))) .nil)))
def eNum : Ex := (.idx (.lst (.cons (.int 9) (.cons (.int 400) .nil))) (.call 12 (.own 1 (.val (.int 2) .nil))))
theorem pick2 (a b : PyData) (r : Int) (h0 : 0 ≤ r) (h1 : r < 2) : ∀ n m, ixF [(n, .list [a, b]), (m, .int r)] = some (n - 1, if r = 0 then a else b) := by
  obtain ⟨k, rfl⟩ := Int.eq_ofNat_of_zero_le h0
  obtain rfl | rfl : k = 0 ∨ k = 1 := by omega
  · exact fun n m => rfl
  · exact fun n m => rfl
theorem dot_ok {o0 : Option Ent} {rest : Ev} {d : PyData} (hd : DrawOk d) : ∃ (d' : PyData) (p : Int × Int), DrawOk d' ∧ isD p = true ∧ Sm2 p ∧
    (den (G fl23) eDot).v (o0 :: some (1, d) :: rest) = .ok ((0, pdI p), o0 :: some (1, d') :: rest) := by
  obtain ⟨r1, d1, h1, a1, b1, t1⟩ := taki (o0 := o0) (rest := rest) 8 hd (by decide) (by decide)
  obtain ⟨r2, d2, h2, a2, b2, t2⟩ := taki (o0 := o0) (rest := rest) 2 h1 (by decide) (by decide)
  have px := pick2 (.int 9) (.int 400) r2 a2 b2
  obtain ⟨m, hm, m0, m1, ml⟩ : ∃ m : Int, (if r2 = 0 then PyData.int 9 else .int 400) = .int m ∧ 0 < m ∧ m ≤ 400 ∧ m.natAbs.log2 < 9000 := by
    by_cases c : r2 = 0
    · exact ⟨9, by rw [if_pos c], by decide, by decide, by decide⟩
    · exact ⟨400, by rw [if_neg c], by decide, by decide, by decide⟩
  rw [hm] at px
  obtain ⟨r3, d3, h3, a3, b3, k3⟩ := takeg (o0 := o0) (rest := rest) m h2 m0 ml
  have t3 := k3 (den (G fl23) eNum).v d1 ⟨0, by
    unfold eNum
    simp only [dSs, dS, den, denV, denR, denC, denO, denG, denJ, denOw, Den.val, BOp.F, COp.F, Bi.F, Me.F, TgA.tgt, bind_ok, bind_exc, bind_bad, opR_some, getR_some, varR_some, e_ixV, ixVR_some, truR_some, boolR_bool, andR_some, orR_some, itR_some, itemsOf, partR_int, e_var, e_varB, e_lit, e_op, e_op2, e_cons, e_nil, e_frz, e_tru, e_bool, e_seq, e_asg, e_expr, e_ret, e_retN, e_and, e_or, e_not, e_andT, e_orT, e_notT, e_if, e_un, e_m1, e_noPart, e_part, e_sl, e_only0, e_chain, chR_bool, e_str, e_jnil, e_jcons, strR_str, e_comp, e_in, e_rng1, e_enum, enR_list, e_next, e_brk, e_cont, e_ifS, e_for, e_par, e_ocons, e_asgT, e_app, e_setL, e_rais, e_callV, callR_some, fresR_ok, fresR_exc, seqR_next, seqR_ret, seqR_exc, seqR_brk, seqR_cont, fin_ret, fin_next, fin_exc, List.getElem?_cons_zero, List.getElem?_cons_succ, List.set_cons_zero, List.set_cons_succ, List.map_cons, List.map_nil, List.nil_append, List.cons_append, List.all_cons, List.all_nil, List.contains_nil, Bool.or_self, Bool.and_self, Bool.or_false, Bool.false_or, Bool.or_true, Bool.true_or, Bool.and_true, Bool.true_and, Bool.and_false, Bool.false_and, Bool.not_true, Bool.not_false, or_true, true_or, and_true, true_and, if_true, if_false, ite_true, ite_false, Bool.false_eq_true, reduceCtorEq, isV, isS, get_nil, get_val, owns_n, owns_v, owns_o, Option.map_some, decide_true, decide_false, tru_bool, tru_list, tru_tup, ix_l, ix_t, int_i, abs_i, add_ii, len_l, len_t, lst_neg, tup_t, tup_l, List.length_cons, List.length_nil, Nat.zero_add, Nat.reduceAdd, eq_self, setAll_c, setAll_n, setEnts_c, setEnts_n, asgTR_tup, Nat.zero_le, Nat.le_refl, all_of, any_of, wipe_nil, wipe_cons, back_nil, back_cons, backO_some, keep0_none, keep0_val, mul_ii, e_compX, compEnd_ok, compEnd_exc, e_zip, zipK_l, zipK_t, isi_bool, isi_str, isi_tup, isi_int, PyData.isStr, PyData.isTuple, PyData.isInt, PyData.isBool, PyData.plain, eq_ii, ne_ii, lt_ii, le_ii, gt_ii, ge_ii, eq_ss, ne_ss, le_ss, gf_23_5, gf_23_7, gf_23_9, gf_23_11, gf_23_12, gf_23_13, gf_23_14, gf_23_15, gf_23_16, gf_23_18, gf_23_19, gf_23_20, gf_23_21, gf_23_22, t2, lst2, px]⟩
  unfold eNum at t3
  simp only [dSs, dS, den, denV, denR, denC, denO, denG, denJ, denOw, Den.val, BOp.F, COp.F, Bi.F, Me.F, TgA.tgt, bind_ok, bind_exc, bind_bad, opR_some, getR_some, varR_some, e_ixV, ixVR_some, truR_some, boolR_bool, andR_some, orR_some, itR_some, itemsOf, partR_int, e_var, e_varB, e_lit, e_op, e_op2, e_cons, e_nil, e_frz, e_tru, e_bool, e_seq, e_asg, e_expr, e_ret, e_retN, e_and, e_or, e_not, e_andT, e_orT, e_notT, e_if, e_un, e_m1, e_noPart, e_part, e_sl, e_only0, e_chain, chR_bool, e_str, e_jnil, e_jcons, strR_str, e_comp, e_in, e_rng1, e_enum, enR_list, e_next, e_brk, e_cont, e_ifS, e_for, e_par, e_ocons, e_asgT, e_app, e_setL, e_rais, e_callV, callR_some, fresR_ok, fresR_exc, seqR_next, seqR_ret, seqR_exc, seqR_brk, seqR_cont, fin_ret, fin_next, fin_exc, List.getElem?_cons_zero, List.getElem?_cons_succ, List.set_cons_zero, List.set_cons_succ, List.map_cons, List.map_nil, List.nil_append, List.cons_append, List.all_cons, List.all_nil, List.contains_nil, Bool.or_self, Bool.and_self, Bool.or_false, Bool.false_or, Bool.or_true, Bool.true_or, Bool.and_true, Bool.true_and, Bool.and_false, Bool.false_and, Bool.not_true, Bool.not_false, or_true, true_or, and_true, true_and, if_true, if_false, ite_true, ite_false, Bool.false_eq_true, reduceCtorEq, isV, isS, get_nil, get_val, owns_n, owns_v, owns_o, Option.map_some, decide_true, decide_false, tru_bool, tru_list, tru_tup, ix_l, ix_t, int_i, abs_i, add_ii, len_l, len_t, lst_neg, tup_t, tup_l, List.length_cons, List.length_nil, Nat.zero_add, Nat.reduceAdd, eq_self, setAll_c, setAll_n, setEnts_c, setEnts_n, asgTR_tup, Nat.zero_le, Nat.le_refl, all_of, any_of, wipe_nil, wipe_cons, back_nil, back_cons, backO_some, keep0_none, keep0_val, mul_ii, e_compX, compEnd_ok, compEnd_exc, e_zip, zipK_l, zipK_t, isi_bool, isi_str, isi_tup, isi_int, PyData.isStr, PyData.isTuple, PyData.isInt, PyData.isBool, PyData.plain, eq_ii, ne_ii, lt_ii, le_ii, gt_ii, ge_ii, eq_ss, ne_ss, le_ss, gf_23_5, gf_23_7, gf_23_9, gf_23_11, gf_23_12, gf_23_13, gf_23_14, gf_23_15, gf_23_16, gf_23_18, gf_23_19, gf_23_20, gf_23_21, gf_23_22] at t3
  refine ⟨d3, (r1, 1 + r3), h3, ?_, ⟨a1, by show r1 < 1000000; omega, by show 0 ≤ 1 + r3; omega, by show 1 + r3 < 1000000; omega⟩, ?_⟩
  · unfold isD
    have e1 : decide (0 ≤ r1) = true := decide_eq_true a1
    have e2 : decide (r1 ≤ 7) = true := decide_eq_true (by omega)
    have e3 : decide (1 ≤ 1 + r3) = true := decide_eq_true (by omega)
    dsimp only
    rw [e1, e2, e3]
    rfl
  · unfold eDot
    simp only [dSs, dS, den, denV, denR, denC, denO, denG, denJ, denOw, Den.val, BOp.F, COp.F, Bi.F, Me.F, TgA.tgt, bind_ok, bind_exc, bind_bad, opR_some, getR_some, varR_some, e_ixV, ixVR_some, truR_some, boolR_bool, andR_some, orR_some, itR_some, itemsOf, partR_int, e_var, e_varB, e_lit, e_op, e_op2, e_cons, e_nil, e_frz, e_tru, e_bool, e_seq, e_asg, e_expr, e_ret, e_retN, e_and, e_or, e_not, e_andT, e_orT, e_notT, e_if, e_un, e_m1, e_noPart, e_part, e_sl, e_only0, e_chain, chR_bool, e_str, e_jnil, e_jcons, strR_str, e_comp, e_in, e_rng1, e_enum, enR_list, e_next, e_brk, e_cont, e_ifS, e_for, e_par, e_ocons, e_asgT, e_app, e_setL, e_rais, e_callV, callR_some, fresR_ok, fresR_exc, seqR_next, seqR_ret, seqR_exc, seqR_brk, seqR_cont, fin_ret, fin_next, fin_exc, List.getElem?_cons_zero, List.getElem?_cons_succ, List.set_cons_zero, List.set_cons_succ, List.map_cons, List.map_nil, List.nil_append, List.cons_append, List.all_cons, List.all_nil, List.contains_nil, Bool.or_self, Bool.and_self, Bool.or_false, Bool.false_or, Bool.or_true, Bool.true_or, Bool.and_true, Bool.true_and, Bool.and_false, Bool.false_and, Bool.not_true, Bool.not_false, or_true, true_or, and_true, true_and, if_true, if_false, ite_true, ite_false, Bool.false_eq_true, reduceCtorEq, isV, isS, get_nil, get_val, owns_n, owns_v, owns_o, Option.map_some, decide_true, decide_false, tru_bool, tru_list, tru_tup, ix_l, ix_t, int_i, abs_i, add_ii, len_l, len_t, lst_neg, tup_t, tup_l, List.length_cons, List.length_nil, Nat.zero_add, Nat.reduceAdd, eq_self, setAll_c, setAll_n, setEnts_c, setEnts_n, asgTR_tup, Nat.zero_le, Nat.le_refl, all_of, any_of, wipe_nil, wipe_cons, back_nil, back_cons, backO_some, keep0_none, keep0_val, mul_ii, e_compX, compEnd_ok, compEnd_exc, e_zip, zipK_l, zipK_t, isi_bool, isi_str, isi_tup, isi_int, PyData.isStr, PyData.isTuple, PyData.isInt, PyData.isBool, PyData.plain, eq_ii, ne_ii, lt_ii, le_ii, gt_ii, ge_ii, eq_ss, ne_ss, le_ss, gf_23_5, gf_23_7, gf_23_9, gf_23_11, gf_23_12, gf_23_13, gf_23_14, gf_23_15, gf_23_16, gf_23_18, gf_23_19, gf_23_20, gf_23_21, gf_23_22, t1, t3, tup2]
    rfl
def eCopy : Ex := (.tup (.cons (.var 11) (.cons (.bin .add (.int 1) (.call 12 (.own 1 (.val (.int 30) .nil)))) .nil)))
def cCopy : Ex := (.cmp .eq (.call 12 (.own 1 (.val (.int 3) .nil))) (.int 0))
def eVec : Ex := (.bi .tuple (.comp [("copy", 11)] (.nm 11) (.rng1 (.int 8)) (.so cCopy) eCopy))
theorem paired_ps : ∀ {ys : List Nat} {xs : List PyData}, PySem.Paired (fun (k : Nat) x => ∃ r : Int, 0 ≤ r ∧ r < 30 ∧ x = pdI ((k : Int), 1 + r)) ys xs → ∃ v : List (Int × Int), xs = v.map pdI ∧ v.map (·.1) = ys.map (fun (k : Nat) => (k : Int)) ∧ ∀ p ∈ v, 1 ≤ p.2 ∧ p.2 ≤ 30
  | _, _, .nil => ⟨[], rfl, rfl, nofun⟩
  | _, _, .cons h t => by
    obtain ⟨r, r0, r1, rfl⟩ := h
    obtain ⟨v, rfl, h2, h3⟩ := paired_ps t
    refine ⟨(_, 1 + r) :: v, rfl, by rw [List.map_cons, h2, List.map_cons], fun p hp => ?_⟩
    rcases List.mem_cons.mp hp with rfl | hp
    · exact ⟨by show 1 ≤ 1 + r; omega, by show 1 + r ≤ 30; omega⟩
    · exact h3 p hp
theorem asc_of : ∀ v : List (Int × Int), (v.map (·.1)).Pairwise (· < ·) → asc v = true
  | [], _ => rfl
  | [a], _ => rfl
  | a :: b :: v, h => by
    have i := asc_of (b :: v) (List.Pairwise.tail h)
    have ab : a.1 < b.1 := by
      have := List.rel_of_pairwise_cons h (a' := b.1) (by simp)
      exact this
    show (decide (a.1 < b.1) && asc (b :: v)) = true
    rw [i, decide_eq_true ab]
    rfl
theorem vec_ok {o0 o2 o3 o4 o5 o6 o7 o8 o9 o10 o11 : Option Ent} {d : PyData} (hd : DrawOk d) : ∃ (d' : PyData) (v : List (Int × Int)) (p11 : Option Ent), DrawOk d' ∧ asc v = true ∧ (∀ p ∈ v, Sm2 p ∧ isD p = true) ∧ v.length ≤ 8 ∧
    (den (G fl23) eVec).v [o0, some (1, d), o2, o3, o4, o5, o6, o7, o8, o9, o10, o11] = .ok ((0, .tuple (v.map pdI)), [o0, some (1, d'), o2, o3, o4, o5, o6, o7, o8, o9, o10, p11]) := by
  have big : 1000 ≤ LIM := by decide
  obtain ⟨ys, xs, ε', ce, sb, pr, d2, h2, rfl⟩ := comp_sub (vs := [11]) (tg := tgName [] 11) (ts := (den (G fl23) cCopy).t) (f := (den (G fl23) eCopy).v) (I := fun ε => ∃ d, DrawOk d ∧ ε = [o0, some (1, d), o2, o3, o4, o5, o6, o7, o8, o9, o10, none])
    (fun k : Nat => PyData.int (k : Int)) (fun (k : Nat) x => ∃ r : Int, 0 ≤ r ∧ r < 30 ∧ x = pdI ((k : Int), 1 + r)) (List.range 8) [] [o0, some (1, d), o2, o3, o4, o5, o6, o7, o8, o9, o10, none]
    (by rw [List.length_nil, List.length_range]; omega)
    (fun x hx ε ⟨d, hd, e⟩ => by
      subst e
      obtain ⟨r1, d1, h1, a1, b1, t1⟩ := taki (o0 := o0) (rest := [o2, o3, o4, o5, o6, o7, o8, o9, o10, some (0, .int (x : Int))]) 3 hd (by decide) (by decide)
      obtain ⟨r2, d2, h2, a2, b2, t2⟩ := taki (o0 := o0) (rest := [o2, o3, o4, o5, o6, o7, o8, o9, o10, some (0, .int (x : Int))]) 30 h1 (by decide) (by decide)
      refine ⟨_, decide (r1 = 0), [o0, some (1, d1), o2, o3, o4, o5, o6, o7, o8, o9, o10, some (0, .int (x : Int))], rfl, ?_, fun _ => ⟨d1, h1, rfl⟩, fun _ => ⟨0, pdI ((x : Int), 1 + r2), [o0, some (1, d2), o2, o3, o4, o5, o6, o7, o8, o9, o10, some (0, .int (x : Int))], ?_, ⟨r2, a2, b2, rfl⟩, d2, h2, rfl⟩⟩
      · unfold cCopy
        simp only [dSs, dS, den, denV, denR, denC, denO, denG, denJ, denOw, Den.val, BOp.F, COp.F, Bi.F, Me.F, TgA.tgt, bind_ok, bind_exc, bind_bad, opR_some, getR_some, varR_some, e_ixV, ixVR_some, truR_some, boolR_bool, andR_some, orR_some, itR_some, itemsOf, partR_int, e_var, e_varB, e_lit, e_op, e_op2, e_cons, e_nil, e_frz, e_tru, e_bool, e_seq, e_asg, e_expr, e_ret, e_retN, e_and, e_or, e_not, e_andT, e_orT, e_notT, e_if, e_un, e_m1, e_noPart, e_part, e_sl, e_only0, e_chain, chR_bool, e_str, e_jnil, e_jcons, strR_str, e_comp, e_in, e_rng1, e_enum, enR_list, e_next, e_brk, e_cont, e_ifS, e_for, e_par, e_ocons, e_asgT, e_app, e_setL, e_rais, e_callV, callR_some, fresR_ok, fresR_exc, seqR_next, seqR_ret, seqR_exc, seqR_brk, seqR_cont, fin_ret, fin_next, fin_exc, List.getElem?_cons_zero, List.getElem?_cons_succ, List.set_cons_zero, List.set_cons_succ, List.map_cons, List.map_nil, List.nil_append, List.cons_append, List.all_cons, List.all_nil, List.contains_nil, Bool.or_self, Bool.and_self, Bool.or_false, Bool.false_or, Bool.or_true, Bool.true_or, Bool.and_true, Bool.true_and, Bool.and_false, Bool.false_and, Bool.not_true, Bool.not_false, or_true, true_or, and_true, true_and, if_true, if_false, ite_true, ite_false, Bool.false_eq_true, reduceCtorEq, isV, isS, get_nil, get_val, owns_n, owns_v, owns_o, Option.map_some, decide_true, decide_false, tru_bool, tru_list, tru_tup, ix_l, ix_t, int_i, abs_i, add_ii, len_l, len_t, lst_neg, tup_t, tup_l, List.length_cons, List.length_nil, Nat.zero_add, Nat.reduceAdd, eq_self, setAll_c, setAll_n, setEnts_c, setEnts_n, asgTR_tup, Nat.zero_le, Nat.le_refl, all_of, any_of, wipe_nil, wipe_cons, back_nil, back_cons, backO_some, keep0_none, keep0_val, mul_ii, e_compX, compEnd_ok, compEnd_exc, e_zip, zipK_l, zipK_t, isi_bool, isi_str, isi_tup, isi_int, PyData.isStr, PyData.isTuple, PyData.isInt, PyData.isBool, PyData.plain, eq_ii, ne_ii, lt_ii, le_ii, gt_ii, ge_ii, eq_ss, ne_ss, le_ss, gf_23_5, gf_23_7, gf_23_9, gf_23_11, gf_23_12, gf_23_13, gf_23_14, gf_23_15, gf_23_16, gf_23_18, gf_23_19, gf_23_20, gf_23_21, gf_23_22, t1]
      · unfold eCopy
        simp only [dSs, dS, den, denV, denR, denC, denO, denG, denJ, denOw, Den.val, BOp.F, COp.F, Bi.F, Me.F, TgA.tgt, bind_ok, bind_exc, bind_bad, opR_some, getR_some, varR_some, e_ixV, ixVR_some, truR_some, boolR_bool, andR_some, orR_some, itR_some, itemsOf, partR_int, e_var, e_varB, e_lit, e_op, e_op2, e_cons, e_nil, e_frz, e_tru, e_bool, e_seq, e_asg, e_expr, e_ret, e_retN, e_and, e_or, e_not, e_andT, e_orT, e_notT, e_if, e_un, e_m1, e_noPart, e_part, e_sl, e_only0, e_chain, chR_bool, e_str, e_jnil, e_jcons, strR_str, e_comp, e_in, e_rng1, e_enum, enR_list, e_next, e_brk, e_cont, e_ifS, e_for, e_par, e_ocons, e_asgT, e_app, e_setL, e_rais, e_callV, callR_some, fresR_ok, fresR_exc, seqR_next, seqR_ret, seqR_exc, seqR_brk, seqR_cont, fin_ret, fin_next, fin_exc, List.getElem?_cons_zero, List.getElem?_cons_succ, List.set_cons_zero, List.set_cons_succ, List.map_cons, List.map_nil, List.nil_append, List.cons_append, List.all_cons, List.all_nil, List.contains_nil, Bool.or_self, Bool.and_self, Bool.or_false, Bool.false_or, Bool.or_true, Bool.true_or, Bool.and_true, Bool.true_and, Bool.and_false, Bool.false_and, Bool.not_true, Bool.not_false, or_true, true_or, and_true, true_and, if_true, if_false, ite_true, ite_false, Bool.false_eq_true, reduceCtorEq, isV, isS, get_nil, get_val, owns_n, owns_v, owns_o, Option.map_some, decide_true, decide_false, tru_bool, tru_list, tru_tup, ix_l, ix_t, int_i, abs_i, add_ii, len_l, len_t, lst_neg, tup_t, tup_l, List.length_cons, List.length_nil, Nat.zero_add, Nat.reduceAdd, eq_self, setAll_c, setAll_n, setEnts_c, setEnts_n, asgTR_tup, Nat.zero_le, Nat.le_refl, all_of, any_of, wipe_nil, wipe_cons, back_nil, back_cons, backO_some, keep0_none, keep0_val, mul_ii, e_compX, compEnd_ok, compEnd_exc, e_zip, zipK_l, zipK_t, isi_bool, isi_str, isi_tup, isi_int, PyData.isStr, PyData.isTuple, PyData.isInt, PyData.isBool, PyData.plain, eq_ii, ne_ii, lt_ii, le_ii, gt_ii, ge_ii, eq_ss, ne_ss, le_ss, gf_23_5, gf_23_7, gf_23_9, gf_23_11, gf_23_12, gf_23_13, gf_23_14, gf_23_15, gf_23_16, gf_23_18, gf_23_19, gf_23_20, gf_23_21, gf_23_22, t2, tup2]
        rfl)
    ⟨d, hd, rfl⟩
  obtain ⟨v, rfl, e1, e2⟩ := paired_ps pr
  have ysl : ys.length ≤ 8 := by have := sb.length_le; rwa [List.length_range] at this
  have vl : v.length ≤ 8 := by
    have := congrArg List.length e1
    rw [List.length_map, List.length_map] at this
    omega
  have mem : ∀ p ∈ v, 0 ≤ p.1 ∧ p.1 ≤ 7 := by
    intro p hp
    have : p.1 ∈ v.map (·.1) := List.mem_map_of_mem hp
    rw [e1] at this
    obtain ⟨k, hk, e⟩ := List.mem_map.mp this
    have := List.mem_range.mp (sb.subset hk)
    omega
  refine ⟨d2, v, keep0 o11, h2, ?_, fun p hp => ?_, vl, ?_⟩
  · refine asc_of v ?_
    rw [e1]
    have pw : ys.Pairwise (· < ·) := List.Pairwise.sublist sb List.pairwise_lt_range
    exact List.pairwise_map.mpr (pw.imp fun h => by omega)
  · obtain ⟨m1, m2⟩ := mem p hp
    obtain ⟨m3, m4⟩ := e2 p hp
    refine ⟨⟨m1, by omega, by omega, by omega⟩, ?_⟩
    unfold isD
    rw [decide_eq_true m1, decide_eq_true m2, decide_eq_true m3]
    rfl
  · have src : fRng1 (fLit (.int 8)) [o0, some (1, d), o2, o3, o4, o5, o6, o7, o8, o9, o10, o11] = .ok ((List.range 8).map fun (k : Nat) => .int (k : Int), [o0, some (1, d), o2, o3, o4, o5, o6, o7, o8, o9, o10, o11]) := by
      rw [e_rng1]
      simp only [dSs, dS, den, denV, denR, denC, denO, denG, denJ, denOw, Den.val, BOp.F, COp.F, Bi.F, Me.F, TgA.tgt, bind_ok, bind_exc, bind_bad, opR_some, getR_some, varR_some, e_ixV, ixVR_some, truR_some, boolR_bool, andR_some, orR_some, itR_some, itemsOf, partR_int, e_var, e_varB, e_lit, e_op, e_op2, e_cons, e_nil, e_frz, e_tru, e_bool, e_seq, e_asg, e_expr, e_ret, e_retN, e_and, e_or, e_not, e_andT, e_orT, e_notT, e_if, e_un, e_m1, e_noPart, e_part, e_sl, e_only0, e_chain, chR_bool, e_str, e_jnil, e_jcons, strR_str, e_comp, e_in, e_rng1, e_enum, enR_list, e_next, e_brk, e_cont, e_ifS, e_for, e_par, e_ocons, e_asgT, e_app, e_setL, e_rais, e_callV, callR_some, fresR_ok, fresR_exc, seqR_next, seqR_ret, seqR_exc, seqR_brk, seqR_cont, fin_ret, fin_next, fin_exc, List.getElem?_cons_zero, List.getElem?_cons_succ, List.set_cons_zero, List.set_cons_succ, List.map_cons, List.map_nil, List.nil_append, List.cons_append, List.all_cons, List.all_nil, List.contains_nil, Bool.or_self, Bool.and_self, Bool.or_false, Bool.false_or, Bool.or_true, Bool.true_or, Bool.and_true, Bool.true_and, Bool.and_false, Bool.false_and, Bool.not_true, Bool.not_false, or_true, true_or, and_true, true_and, if_true, if_false, ite_true, ite_false, Bool.false_eq_true, reduceCtorEq, isV, isS, get_nil, get_val, owns_n, owns_v, owns_o, Option.map_some, decide_true, decide_false, tru_bool, tru_list, tru_tup, ix_l, ix_t, int_i, abs_i, add_ii, len_l, len_t, lst_neg, tup_t, tup_l, List.length_cons, List.length_nil, Nat.zero_add, Nat.reduceAdd, eq_self, setAll_c, setAll_n, setEnts_c, setEnts_n, asgTR_tup, Nat.zero_le, Nat.le_refl, all_of, any_of, wipe_nil, wipe_cons, back_nil, back_cons, backO_some, keep0_none, keep0_val, mul_ii, e_compX, compEnd_ok, compEnd_exc, e_zip, zipK_l, zipK_t, isi_bool, isi_str, isi_tup, isi_int, PyData.isStr, PyData.isTuple, PyData.isInt, PyData.isBool, PyData.plain, eq_ii, ne_ii, lt_ii, le_ii, gt_ii, ge_ii, eq_ss, ne_ss, le_ss]
      exact rng_n 8 (by decide) _
    rw [show (den (G fl23) eVec).v = fOp tupFn (fCons false (frzR (fComp [11] (tgName [] 11) (fRng1 (fLit (.int 8))) (den (G fl23) cCopy).t (den (G fl23) eCopy).v)) fNil) from rfl]
    rw [e_op, e_cons, e_frz, e_comp, src, bind_ok]
    rw [show wipeE [o0, some (1, d), o2, o3, o4, o5, o6, o7, o8, o9, o10, o11] [11] = [o0, some (1, d), o2, o3, o4, o5, o6, o7, o8, o9, o10, none] from rfl, ce]
    rfl
end K55
end

section
set_option Elab.async false
set_option linter.all false
set_option maxRecDepth 100000
set_option maxHeartbeats 4000000
namespace K55
open PySem PySem.Spec PyProof.Rows L2 Mb TL
def eVal : Ex := (.idx (.lst (.cons (.bin .sub (.call 12 (.own 1 (.val (.int 40) .nil))) (.int 20)) (.cons (.sl (.str "abcdefghij") .no (.so (.call 12 (.own 1 (.val (.int 10) .nil))))) (.cons (.str "") (.cons (.bin .mul (.str "zz") (.call 12 (.own 1 (.val (.int 20) .nil)))) .nil))))) (.call 12 (.own 1 (.val (.int 4) .nil))))
theorem pickD (a b c e : PyData) (r : Int) (h0 : 0 ≤ r) (h1 : r < 4) : ∃ s, (s = a ∨ s = b ∨ s = c ∨ s = e) ∧ ∀ n m, ixF [(n, .list [a, b, c, e]), (m, .int r)] = some (n - 1, s) := by
  obtain ⟨k, rfl⟩ := Int.eq_ofNat_of_zero_le h0
  obtain rfl | rfl | rfl | rfl : k = 0 ∨ k = 1 ∨ k = 2 ∨ k = 3 := by omega
  · exact ⟨a, .inl rfl, fun n m => rfl⟩
  · exact ⟨b, .inr (.inl rfl), fun n m => rfl⟩
  · exact ⟨c, .inr (.inr (.inl rfl)), fun n m => rfl⟩
  · exact ⟨e, .inr (.inr (.inr rfl)), fun n m => rfl⟩
theorem zz_ok : ∀ n : Fin 20, repC "zz" (n.1 : Int) = true ∧ (Txt.mul "zz" (n.1 : Int)).length ≤ 38 ∧ (tl (Txt.mul "zz" (n.1 : Int))).all (fun c => decide (c < 256)) = true := by decide +kernel
theorem abc_tx : Tx 10 ("abcdefghij" : Str) := ⟨by decide, by decide +kernel⟩
def valTx : Sum Int Str → Prop
  | .inl n => -20 ≤ n ∧ n < 20
  | .inr s => Tx 50 s
theorem val_of {x : Sum Int Str} (h : valTx x) : valOk x := by
  cases x with
  | inl n => exact h
  | inr s => exact h.1
theorem val_ok {o0 : Option Ent} {rest : Ev} {d : PyData} (hd : DrawOk d) : ∃ (d' : PyData) (x : Sum Int Str), DrawOk d' ∧ valTx x ∧ (den (G fl23) eVal).v (o0 :: some (1, d) :: rest) = .ok ((0, valD x), o0 :: some (1, d') :: rest) := by
  have lim : 1000 ≤ LIM := by decide
  obtain ⟨r1, d1, h1, a1, b1, t1⟩ := taki (o0 := o0) (rest := rest) 40 hd (by decide) (by decide)
  obtain ⟨r2, d2, h2, a2, b2, t2⟩ := taki (o0 := o0) (rest := rest) 10 h1 (by decide) (by decide)
  obtain ⟨r3, d3, h3, a3, b3, t3⟩ := taki (o0 := o0) (rest := rest) 20 h2 (by decide) (by decide)
  obtain ⟨r4, d4, h4, a4, b4, t4⟩ := taki (o0 := o0) (rest := rest) 4 h3 (by decide) (by decide)
  obtain ⟨n, rfl⟩ := Int.eq_ofNat_of_zero_le a3
  obtain ⟨z1, z2, z3⟩ := zz_ok ⟨n, by omega⟩
  dsimp only at z1 z2 z3
  have s10 : ("abcdefghij" : Str).length ≤ LIM := by decide
  obtain ⟨s, hs, px⟩ := pickD (.int (r1 - 20)) (.str (cutS "abcdefghij" none (some r2))) (.str "") (.str (Txt.mul "zz" (n : Int))) r4 a4 b4
  have ex : ∃ x : Sum Int Str, valTx x ∧ s = valD x := by
    rcases hs with rfl | rfl | rfl | rfl
    · exact ⟨.inl (r1 - 20), ⟨by omega, by omega⟩, rfl⟩
    · exact ⟨.inr _, tx_le (tx_cut abc_tx none (some r2)) (by decide), rfl⟩
    · exact ⟨.inr "", ⟨by decide, by decide +kernel⟩, rfl⟩
    · exact ⟨.inr _, ⟨Nat.le_trans z2 (by decide), fun c hc => of_decide_eq_true (List.all_eq_true.mp z3 c hc)⟩, rfl⟩
  obtain ⟨x, hx, rfl⟩ := ex
  refine ⟨d4, x, h4, hx, ?_⟩
  have mz : ∀ a b, mulF [(a, .str "zz"), (b, .int (n : Int))] = some (0, .str (Txt.mul "zz" (n : Int))) := fun a b => by rw [mul_si, if_pos z1]
  clear z1 z2 z3 hs hx
  generalize Txt.mul "zz" (n : Int) = Z at mz px
  unfold eVal
  have hn : n < 20 := by omega
  clear b3 a3
  have hn : n = 0 ∨ n = 1 ∨ n = 2 ∨ n = 3 ∨ n = 4 ∨ n = 5 ∨ n = 6 ∨ n = 7 ∨ n = 8 ∨ n = 9 ∨ n = 10 ∨ n = 11 ∨ n = 12 ∨ n = 13 ∨ n = 14 ∨ n = 15 ∨ n = 16 ∨ n = 17 ∨ n = 18 ∨ n = 19 := by omega
  rcases hn with rfl|rfl|rfl|rfl|rfl|rfl|rfl|rfl|rfl|rfl|rfl|rfl|rfl|rfl|rfl|rfl|rfl|rfl|rfl|rfl
  all_goals simp only [dSs, dS, den, denV, denR, denC, denO, denG, denJ, denOw, Den.val, BOp.F, COp.F, Bi.F, Me.F, TgA.tgt, bind_ok, bind_exc, bind_bad, opR_some, getR_some, varR_some, e_ixV, ixVR_some, truR_some, boolR_bool, andR_some, orR_some, itR_some, itemsOf, partR_int, e_var, e_varB, e_lit, e_op, e_op2, e_cons, e_nil, e_frz, e_tru, e_bool, e_seq, e_asg, e_expr, e_ret, e_retN, e_and, e_or, e_not, e_andT, e_orT, e_notT, e_if, e_un, e_m1, e_noPart, e_part, e_sl, e_only0, e_chain, chR_bool, e_str, e_jnil, e_jcons, strR_str, e_comp, e_in, e_rng1, e_enum, enR_list, e_next, e_brk, e_cont, e_ifS, e_for, e_par, e_ocons, e_asgT, e_app, e_setL, e_rais, e_callV, callR_some, fresR_ok, fresR_exc, seqR_next, seqR_ret, seqR_exc, seqR_brk, seqR_cont, fin_ret, fin_next, fin_exc, List.getElem?_cons_zero, List.getElem?_cons_succ, List.set_cons_zero, List.set_cons_succ, List.map_cons, List.map_nil, List.nil_append, List.cons_append, List.all_cons, List.all_nil, List.contains_nil, Bool.or_self, Bool.and_self, Bool.or_false, Bool.false_or, Bool.or_true, Bool.true_or, Bool.and_true, Bool.true_and, Bool.and_false, Bool.false_and, Bool.not_true, Bool.not_false, or_true, true_or, and_true, true_and, if_true, if_false, ite_true, ite_false, Bool.false_eq_true, reduceCtorEq, isV, isS, get_nil, get_val, owns_n, owns_v, owns_o, Option.map_some, decide_true, decide_false, tru_bool, tru_list, tru_tup, ix_l, ix_t, int_i, abs_i, add_ii, len_l, len_t, lst_neg, tup_t, tup_l, List.length_cons, List.length_nil, Nat.zero_add, Nat.reduceAdd, eq_self, setAll_c, setAll_n, setEnts_c, setEnts_n, asgTR_tup, Nat.zero_le, Nat.le_refl, all_of, any_of, wipe_nil, wipe_cons, back_nil, back_cons, backO_some, keep0_none, keep0_val, mul_ii, e_compX, compEnd_ok, compEnd_exc, e_zip, zipK_l, zipK_t, isi_bool, isi_str, isi_tup, isi_int, PyData.isStr, PyData.isTuple, PyData.isInt, PyData.isBool, PyData.plain, eq_ii, ne_ii, lt_ii, le_ii, gt_ii, ge_ii, eq_ss, ne_ss, le_ss, gf_23_5, gf_23_7, gf_23_9, gf_23_11, gf_23_12, gf_23_13, gf_23_14, gf_23_15, gf_23_16, gf_23_18, gf_23_19, gf_23_20, gf_23_21, gf_23_22, t1, t2, t3, sub_ii, sl_s, s10, mz, lst4, t4, px]
/-! plain signs -/
theorem num_lt {n c : Nat} (h : c ∈ numL n) : c < 256 := by have := numL_digits n c h; omega
theorem tsz_lt {n : Int} (h : 0 ≤ n) : ∀ c ∈ tl (tsz n), c < 256 := by
  rw [tl_tsz h]
  exact fun c hc => num_lt hc
theorem pdT_tx {p : Int × Int} (h : Sm2 p) : Tx 13 (pdT p) := by
  refine ⟨pdT_len h, ?_⟩
  obtain ⟨h1, h2, h3, h4⟩ := h
  intro c hc
  unfold pdT at hc
  rw [tl_append, tl_append, edot, List.mem_append, List.mem_append, List.mem_singleton] at hc
  rcases hc with (hc | rfl) | hc
  · exact tsz_lt h1 c hc
  · decide
  · exact tsz_lt h3 c hc
theorem joinL_mem (S : List Nat) {c : Nat} : ∀ ps : List (List Nat), c ∈ joinL S ps → c ∈ S ∨ ∃ p ∈ ps, c ∈ p
  | [], h => nomatch h
  | [p], h => .inr ⟨p, by simp, h⟩
  | p :: q :: r, h => by
    have h : c ∈ p ++ (S ++ joinL S (q :: r)) := h
    rw [List.mem_append, List.mem_append] at h
    rcases h with h | h | h
    · exact .inr ⟨p, by simp, h⟩
    · exact .inl h
    · rcases joinL_mem S (q :: r) h with h | ⟨x, hx, h⟩
      · exact .inl h
      · exact .inr ⟨x, List.mem_cons_of_mem _ hx, h⟩
theorem vecT_tx {v : List (Int × Int)} (h : ∀ p ∈ v, Sm2 p) (hl : v.length ≤ 8) : Tx 200 (vecT v) := by
  cases v with
  | nil => exact ⟨by decide, by decide +kernel⟩
  | cons p v =>
    have a := join_len "," ((p :: v).map pdT)
    have b := pd_sum (p :: v) h
    have e : ("," : Str).length = 1 := rfl
    rw [e, List.length_map] at a
    refine ⟨by show (Txt.join "," ((p :: v).map pdT)).length ≤ 200; omega, fun c hc => ?_⟩
    have hc : c ∈ tl (Txt.join "," ((p :: v).map pdT)) := hc
    rw [join_eq, tl_join] at hc
    rcases joinL_mem _ _ hc with hc | ⟨x, hx, hc⟩
    · rw [ecom, List.mem_singleton] at hc
      subst hc
      decide
    · obtain ⟨y, hy, rfl⟩ := List.mem_map.mp hx
      obtain ⟨q, hq, rfl⟩ := List.mem_map.mp hy
      exact (pdT_tx (h q hq)).2 c hc
theorem small_tx : ∀ k : Fin 40, (tl (tsz ((k.1 : Int) - 20))).all (fun c => decide (c < 256)) = true := by decide +kernel
theorem valT_tx {x : Sum Int Str} (h : valTx x) : Tx 200 (valT x) := by
  refine ⟨Nat.le_trans (valT_len (val_of h)) (by decide), ?_⟩
  cases x with
  | inl n =>
    have b := small_tx ⟨(n + 20).toNat, by have := h.1; have := h.2; omega⟩
    have e : (((n + 20).toNat : Nat) : Int) - 20 = n := by have := h.1; omega
    dsimp only at b
    rw [e] at b
    exact fun c hc => of_decide_eq_true (List.all_eq_true.mp b c hc)
  | inr s =>
    have q : Tx 1 ("\"" : Str) := ⟨by decide, by decide +kernel⟩
    exact (tx_app (tx_app q h) q).2
theorem strs_shows {ss : List Str} (h : ∀ s ∈ ss, Tx 200 s) (hl : ss.length ≤ 3) : Shows (.list (ss.map PyData.str)) := by
  have pl := plain_map (k := PyData.str) (fun _ => by simp [PyData.plain]) ss
  have dp := depth_map (k := PyData.str) (b := 0) (fun _ => by simp [PyData.depth]) ss
  have sh : ∀ ss : List Str, (∀ s ∈ ss, Tx 200 s) → PyData.showableAll (ss.map PyData.str) = true ∧ (PyData.shownAll (ss.map PyData.str)).length = ss.length ∧ ((PyData.shownAll (ss.map PyData.str)).map (·.length)).sum ≤ 2002 * ss.length := by
    intro ss h
    induction ss with
    | nil => simp [PyData.showableAll, PyData.shownAll]
    | cons s ss ih =>
      obtain ⟨i1, i2, i3⟩ := ih fun x hx => h x (List.mem_cons_of_mem _ hx)
      have hs := h s List.mem_cons_self
      have r := PySem.StrLaws.reprText_len s (fun c hc => Nat.lt_trans (hs.2 c hc) (by decide))
      have := hs.1
      refine ⟨?_, ?_, ?_⟩
      · rw [List.map_cons, PyData.showableAll, i1]; rfl
      · rw [List.map_cons, PyData.shownAll, List.length_cons, i2, List.length_cons]
      · rw [List.map_cons, PyData.shownAll, List.map_cons, List.sum_cons, List.length_cons]
        have e : (PyData.str s).shown = reprText s := by rw [PyData.shown]
        rw [e]
        omega
  obtain ⟨i1, i2, i3⟩ := sh ss h
  have t := listText_len_le (PyData.shownAll (ss.map PyData.str))
  refine ⟨by rw [PyData.plain]; exact pl, by rw [PyData.showable]; exact i1, by rw [PyData.depth]; omega, ?_⟩
  rw [PyData.shown]
  have : 10000 ≤ LIM := by decide
  omega
def sTexts : Sm := (.asg 6 (.lst (.cons (.call 14 (.val (.var 3) .nil)) (.cons (.call 15 (.val (.var 4) .nil)) (.cons (.call 16 (.val (.var 5) .nil)) .nil)))))
def sSame : Sm := (.ite (.not (.call 13 (.val (.lst (.cons (.call 5 (.val (.var 3) .nil)) (.cons (.call 7 (.val (.var 4) .nil)) (.cons (.call 9 (.val (.var 5) .nil)) .nil)))) (.val (.var 6) .nil))))
      (.cons (.ret (.bl false))
      .nil)
      .nil)
theorem lst3 (a b c : PyData) : lstD [(0, a), (0, b), (0, c)] = some (1, .list [a, b, c]) := rfl
theorem texts_ok {o0 o1 o2 o6 o7 o8 o9 o10 o11 : Option Ent} {p : Int × Int} {v : List (Int × Int)} {x : Sum Int Str} (hp : Sm2 p) (hv : ∀ p ∈ v, Sm2 p) (hl : v.length ≤ 8) (hx : valTx x) :
    dS (G fl23) [] sTexts [o0, o1, o2, some (0, pdI p), some (0, .tuple (v.map pdI)), some (0, valD x), o6, o7, o8, o9, o10, o11] = .ok (.next, [o0, o1, o2, some (0, pdI p), some (0, .tuple (v.map pdI)), some (0, valD x), some (1, .list [.str (pdT p), .str (vecT v), .str (valT x)]), o7, o8, o9, o10, o11]) := by
  have f1 := ldot_F hp
  have f2 := lvtext_F hv (by omega)
  have f3 := lvaltext_F (val_of hx)
  unfold sTexts
  simp only [dSs, dS, den, denV, denR, denC, denO, denG, denJ, denOw, Den.val, BOp.F, COp.F, Bi.F, Me.F, TgA.tgt, bind_ok, bind_exc, bind_bad, opR_some, getR_some, varR_some, e_ixV, ixVR_some, truR_some, boolR_bool, andR_some, orR_some, itR_some, itemsOf, partR_int, e_var, e_varB, e_lit, e_op, e_op2, e_cons, e_nil, e_frz, e_tru, e_bool, e_seq, e_asg, e_expr, e_ret, e_retN, e_and, e_or, e_not, e_andT, e_orT, e_notT, e_if, e_un, e_m1, e_noPart, e_part, e_sl, e_only0, e_chain, chR_bool, e_str, e_jnil, e_jcons, strR_str, e_comp, e_in, e_rng1, e_enum, enR_list, e_next, e_brk, e_cont, e_ifS, e_for, e_par, e_ocons, e_asgT, e_app, e_setL, e_rais, e_cnil, e_cval, e_cown, e_callV, e_callO, callR_some, fresR_ok, fresR_exc, seqR_next, seqR_ret, seqR_exc, seqR_brk, seqR_cont, fin_ret, fin_next, fin_exc, List.getElem?_cons_zero, List.getElem?_cons_succ, List.set_cons_zero, List.set_cons_succ, List.map_cons, List.map_nil, List.nil_append, List.cons_append, List.all_cons, List.all_nil, List.contains_nil, Bool.or_self, Bool.and_self, Bool.or_false, Bool.false_or, Bool.or_true, Bool.true_or, Bool.and_true, Bool.true_and, Bool.and_false, Bool.false_and, Bool.not_true, Bool.not_false, or_true, true_or, and_true, true_and, if_true, if_false, ite_true, ite_false, Bool.false_eq_true, reduceCtorEq, isV, isS, get_nil, get_val, owns_n, owns_v, owns_o, Option.map_some, decide_true, decide_false, tru_bool, tru_list, tru_tup, ix_l, ix_t, int_i, abs_i, add_ii, len_l, len_t, lst_neg, tup_t, tup_l, List.length_cons, List.length_nil, Nat.zero_add, Nat.reduceAdd, eq_self, setAll_c, setAll_n, setEnts_c, setEnts_n, asgTR_tup, Nat.zero_le, Nat.le_refl, all_of, any_of, wipe_nil, wipe_cons, back_nil, back_cons, backO_some, keep0_none, keep0_val, mul_ii, e_compX, compEnd_ok, compEnd_exc, e_zip, zipK_l, zipK_t, isi_bool, isi_str, isi_tup, isi_int, PyData.isStr, PyData.isTuple, PyData.isInt, PyData.isBool, PyData.plain, eq_ii, ne_ii, lt_ii, le_ii, gt_ii, ge_ii, eq_ss, ne_ss, le_ss, gf_23_5, gf_23_7, gf_23_9, gf_23_11, gf_23_12, gf_23_13, gf_23_14, gf_23_15, gf_23_16, gf_23_18, gf_23_19, gf_23_20, gf_23_21, gf_23_22, f1, f2, f3, lst3]
theorem same1_ok {o0 o1 o2 o7 o8 o9 o10 o11 : Option Ent} {p : Int × Int} {v : List (Int × Int)} {x : Sum Int Str} (hp : Sm2 p) (hv : ∀ p ∈ v, Sm2 p) (hl : v.length ≤ 8) (hx : valTx x) :
    dS (G fl23) [] sSame [o0, o1, o2, some (0, pdI p), some (0, .tuple (v.map pdI)), some (0, valD x), some (1, .list [.str (pdT p), .str (vecT v), .str (valT x)]), o7, o8, o9, o10, o11] = .ok (.next, [o0, o1, o2, some (0, pdI p), some (0, .tuple (v.map pdI)), some (0, valD x), some (0, .list [.str (pdT p), .str (vecT v), .str (valT x)]), o7, o8, o9, o10, o11]) := by
  have f1 := dtext_F hp
  have f2 := vtext_F hv (by omega)
  have f3 := valtext_F (val_of hx)
  have sh := strs_shows (ss := [pdT p, vecT v, valT x]) (fun s hs => by
    simp only [List.mem_cons, List.not_mem_nil, or_false] at hs
    rcases hs with rfl | rfl | rfl
    · exact tx_le (pdT_tx hp) (by decide)
    · exact vecT_tx hv hl
    · exact valT_tx hx) (by simp)
  have f4 := same_F sh
  simp only [List.map_cons, List.map_nil] at f4
  unfold sSame
  simp only [dSs, dS, den, denV, denR, denC, denO, denG, denJ, denOw, Den.val, BOp.F, COp.F, Bi.F, Me.F, TgA.tgt, bind_ok, bind_exc, bind_bad, opR_some, getR_some, varR_some, e_ixV, ixVR_some, truR_some, boolR_bool, andR_some, orR_some, itR_some, itemsOf, partR_int, e_var, e_varB, e_lit, e_op, e_op2, e_cons, e_nil, e_frz, e_tru, e_bool, e_seq, e_asg, e_expr, e_ret, e_retN, e_and, e_or, e_not, e_andT, e_orT, e_notT, e_if, e_un, e_m1, e_noPart, e_part, e_sl, e_only0, e_chain, chR_bool, e_str, e_jnil, e_jcons, strR_str, e_comp, e_in, e_rng1, e_enum, enR_list, e_next, e_brk, e_cont, e_ifS, e_for, e_par, e_ocons, e_asgT, e_app, e_setL, e_rais, e_cnil, e_cval, e_cown, e_callV, e_callO, callR_some, fresR_ok, fresR_exc, seqR_next, seqR_ret, seqR_exc, seqR_brk, seqR_cont, fin_ret, fin_next, fin_exc, List.getElem?_cons_zero, List.getElem?_cons_succ, List.set_cons_zero, List.set_cons_succ, List.map_cons, List.map_nil, List.nil_append, List.cons_append, List.all_cons, List.all_nil, List.contains_nil, Bool.or_self, Bool.and_self, Bool.or_false, Bool.false_or, Bool.or_true, Bool.true_or, Bool.and_true, Bool.true_and, Bool.and_false, Bool.false_and, Bool.not_true, Bool.not_false, or_true, true_or, and_true, true_and, if_true, if_false, ite_true, ite_false, Bool.false_eq_true, reduceCtorEq, isV, isS, get_nil, get_val, owns_n, owns_v, owns_o, Option.map_some, decide_true, decide_false, tru_bool, tru_list, tru_tup, ix_l, ix_t, int_i, abs_i, add_ii, len_l, len_t, lst_neg, tup_t, tup_l, List.length_cons, List.length_nil, Nat.zero_add, Nat.reduceAdd, eq_self, setAll_c, setAll_n, setEnts_c, setEnts_n, asgTR_tup, Nat.zero_le, Nat.le_refl, all_of, any_of, wipe_nil, wipe_cons, back_nil, back_cons, backO_some, keep0_none, keep0_val, mul_ii, e_compX, compEnd_ok, compEnd_exc, e_zip, zipK_l, zipK_t, isi_bool, isi_str, isi_tup, isi_int, PyData.isStr, PyData.isTuple, PyData.isInt, PyData.isBool, PyData.plain, eq_ii, ne_ii, lt_ii, le_ii, gt_ii, ge_ii, eq_ss, ne_ss, le_ss, gf_23_5, gf_23_7, gf_23_9, gf_23_11, gf_23_12, gf_23_13, gf_23_14, gf_23_15, gf_23_16, gf_23_18, gf_23_19, gf_23_20, gf_23_21, gf_23_22, f1, f2, f3, lst3, f4]
end K55
end

section
set_option Elab.async false
set_option linter.all false
set_option maxRecDepth 100000
set_option maxHeartbeats 4000000
namespace K55
open PySem PySem.Spec PyProof.Rows L2 Mb TL
def Vc (p : Int × Int) (v : List (Int × Int)) (x : Sum Int Str) : Nat → PyData
  | 0 => pdI p
  | 1 => .tuple (v.map pdI)
  | _ => valD x
def Tc (p : Int × Int) (v : List (Int × Int)) (x : Sum Int Str) : Nat → Str
  | 0 => pdT p
  | 1 => vecT v
  | _ => valT x
structure Gd (p : Int × Int) (v : List (Int × Int)) (x : Sum Int Str) : Prop where
  p1 : Sm2 p
  p2 : isD p = true
  v1 : ∀ p ∈ v, Sm2 p ∧ isD p = true
  v2 : asc v = true
  v3 : v.length ≤ 8
  x1 : valTx x
theorem tc_tx {p v x} (g : Gd p v x) (c : Nat) : Tx 200 (Tc p v x c) := by
  match c with
  | 0 => exact tx_le (pdT_tx g.p1) (by decide)
  | 1 => exact vecT_tx (fun p hp => (g.v1 p hp).1) g.v3
  | c + 2 => exact valT_tx g.x1
theorem tc_rd {p v x} (g : Gd p v x) (c : Nat) : rdAny c (Tc p v x c) = some (Vc p v x c) := by
  match c with
  | 0 => show (rdDot (pdT p)).map pdI = _; rw [rd_pdT g.p1 g.p2]; rfl
  | 1 => show (rdVec (vecT v)).map _ = _; rw [rd_vecT g.v1 g.v2]; rfl
  | c + 2 => show (rdVal (valT x)).map valD = _; rw [rd_valT (val_of g.x1)]; rfl
def tsD (p : Int × Int) (v : List (Int × Int)) (x : Sum Int Str) : PyData := .list [.str (pdT p), .str (vecT v), .str (valT x)]
theorem ts_ix (p v x) (c : Nat) (hc : c < 3) (n m : Nat) : ixF [(n, tsD p v x), (m, .int (c : Int))] = some (n - 1, .str (Tc p v x c)) := by
  obtain rfl | rfl | rfl : c = 0 ∨ c = 1 ∨ c = 2 := by omega
  · rfl
  · rfl
  · rfl
theorem vs_ix (p v x) (c : Nat) (hc : c < 3) (n m : Nat) : ixF [(n, .list [pdI p, .tuple (v.map pdI), valD x]), (m, .int (c : Int))] = some (n - 1, Vc p v x c) := by
  obtain rfl | rfl | rfl : c = 0 ∨ c = 1 ∨ c = 2 := by omega
  · rfl
  · rfl
  · rfl
def sCall : Sm := (.ite (.not (.call 13 (.val (.call 20 (.val (.var 7) (.val (.idx (.var 6) (.var 7)) .nil))) (.val (.idx (.lst (.cons (.var 3) (.cons (.var 4) (.cons (.var 5) .nil)))) (.var 7)) .nil))))
        (.cons (.ret (.bl false))
        .nil)
        .nil)
theorem call_ok {o0 o1 o2 o8 o9 o10 o11 : Option Ent} {p v x} (g : Gd p v x) (c : Nat) (hc : c < 3) :
    dS (G fl23) [] sCall [o0, o1, o2, some (0, pdI p), some (0, .tuple (v.map pdI)), some (0, valD x), some (0, tsD p v x), some (0, .int (c : Int)), o8, o9, o10, o11] =
      .ok (.next, [o0, o1, o2, some (0, pdI p), some (0, .tuple (v.map pdI)), some (0, valD x), some (0, tsD p v x), some (0, .int (c : Int)), o8, o9, o10, o11]) := by
  have tx := tc_tx g c
  obtain ⟨ps, f1⟩ := told_F c hc (Tc p v x c) (by have := tx.1; omega)
  rw [tc_rd g c] at f1
  have f1 : F__law_told [(0, .int (c : Int)), (0, .str (Tc p v x c))] = .ok (0, Vc p v x c) ps := f1
  have sh := any_shows c (tx_le tx (show 200 ≤ 500 by decide))
  rw [tc_rd g c] at sh
  have f2 := same_F (d := Vc p v x c) sh
  have i1 := ts_ix p v x c hc
  have i2 := vs_ix p v x c hc
  unfold sCall
  simp only [dSs, dS, den, denV, denR, denC, denO, denG, denJ, denOw, Den.val, BOp.F, COp.F, Bi.F, Me.F, TgA.tgt, bind_ok, bind_exc, bind_bad, opR_some, getR_some, varR_some, e_ixV, ixVR_some, truR_some, boolR_bool, andR_some, orR_some, itR_some, itemsOf, partR_int, e_var, e_varB, e_lit, e_op, e_op2, e_cons, e_nil, e_frz, e_tru, e_bool, e_seq, e_asg, e_expr, e_ret, e_retN, e_and, e_or, e_not, e_andT, e_orT, e_notT, e_if, e_un, e_m1, e_noPart, e_part, e_sl, e_only0, e_chain, chR_bool, e_str, e_jnil, e_jcons, strR_str, e_comp, e_in, e_rng1, e_enum, enR_list, e_next, e_brk, e_cont, e_ifS, e_for, e_par, e_ocons, e_asgT, e_app, e_setL, e_rais, e_cnil, e_cval, e_cown, e_callV, e_callO, callR_some, fresR_ok, fresR_exc, seqR_next, seqR_ret, seqR_exc, seqR_brk, seqR_cont, fin_ret, fin_next, fin_exc, List.getElem?_cons_zero, List.getElem?_cons_succ, List.set_cons_zero, List.set_cons_succ, List.map_cons, List.map_nil, List.nil_append, List.cons_append, List.all_cons, List.all_nil, List.contains_nil, Bool.or_self, Bool.and_self, Bool.or_false, Bool.false_or, Bool.or_true, Bool.true_or, Bool.and_true, Bool.true_and, Bool.and_false, Bool.false_and, Bool.not_true, Bool.not_false, or_true, true_or, and_true, true_and, if_true, if_false, ite_true, ite_false, Bool.false_eq_true, reduceCtorEq, isV, isS, get_nil, get_val, owns_n, owns_v, owns_o, Option.map_some, decide_true, decide_false, tru_bool, tru_list, tru_tup, ix_l, ix_t, int_i, abs_i, add_ii, len_l, len_t, lst_neg, tup_t, tup_l, List.length_cons, List.length_nil, Nat.zero_add, Nat.reduceAdd, eq_self, setAll_c, setAll_n, setEnts_c, setEnts_n, asgTR_tup, Nat.zero_le, Nat.le_refl, all_of, any_of, wipe_nil, wipe_cons, back_nil, back_cons, backO_some, keep0_none, keep0_val, mul_ii, e_compX, compEnd_ok, compEnd_exc, e_zip, zipK_l, zipK_t, isi_bool, isi_str, isi_tup, isi_int, PyData.isStr, PyData.isTuple, PyData.isInt, PyData.isBool, PyData.plain, eq_ii, ne_ii, lt_ii, le_ii, gt_ii, ge_ii, eq_ss, ne_ss, le_ss, gf_23_5, gf_23_7, gf_23_9, gf_23_11, gf_23_12, gf_23_13, gf_23_14, gf_23_15, gf_23_16, gf_23_18, gf_23_19, gf_23_20, gf_23_21, gf_23_22, i1, f1, lst3, i2, f2]
theorem bent_row {o0 : Option Ent} {rest : Ev} {d : PyData} {T : Str} (hd : DrawOk d) (hT : Tx 200 T) : ∃ (S : Str) (d' : PyData), DrawOk d' ∧ Tx 500 S ∧
    ∀ (e : Ev → Res (Ent × Ev)), (∃ n, frzR e (o0 :: some (1, d) :: rest) = .ok ((n, .str T), o0 :: some (1, d) :: rest)) → fCallO F__law_bent (cOwn 1 (cVal e cNil)) (o0 :: some (1, d) :: rest) = .ok ((0, .str S), o0 :: some (1, d') :: rest) := by
  obtain ⟨d', S, h1, h2, h3⟩ := bent_F hd hT
  refine ⟨S, d', h1, h2, fun e ⟨n, he⟩ => ?_⟩
  rw [e_callO, e_cown, List.getElem?_cons_succ, List.getElem?_cons_zero, getR_some, bind_ok, e_cval, he, bind_ok]
  rw [e_cnil, bind_ok, bind_ok, bind_ok]
  exact ownR_one _ _ _ 0 1 [(1, d), (0, .str T)] (0, .str S) [some (1, d'), none] rfl h3
def sBent : Sm := (.asg 9 (.call 21 (.own 1 (.val (.idx (.var 6) (.var 7)) .nil))))
def sDue : Sm := (.asg 10 (.ite (.cmp .lt (.var 7) (.int 2)) (.idx (.lst (.cons (.call 18 (.val (.var 9) .nil)) (.cons (.call 19 (.val (.var 9) .nil)) .nil))) (.var 7)) (.call 22 (.val (.var 9) .nil))))
def sEnd : Sm := (.ite (.not (.call 13 (.val (.call 20 (.val (.var 7) (.val (.var 9) .nil))) (.val (.ite (.cmp .is (.var 10) .non) (.str "bad") (.var 10)) .nil))))
          (.cons (.ret (.bl false))
          .nil)
          .nil)
theorem bent_ok {o0 o2 o8 o9 o10 o11 : Option Ent} {p v x} {d : PyData} (hd : DrawOk d) (g : Gd p v x) (c : Nat) (hc : c < 3) : ∃ (d' : PyData) (S : Str), DrawOk d' ∧ Tx 500 S ∧
    dS (G fl23) [] sBent [o0, some (1, d), o2, some (0, pdI p), some (0, .tuple (v.map pdI)), some (0, valD x), some (0, tsD p v x), some (0, .int (c : Int)), o8, o9, o10, o11] =
      .ok (.next, [o0, some (1, d'), o2, some (0, pdI p), some (0, .tuple (v.map pdI)), some (0, valD x), some (0, tsD p v x), some (0, .int (c : Int)), o8, some (0, .str S), o10, o11]) := by
  obtain ⟨S, d', h1, h2, k⟩ := bent_row (o0 := o0) (rest := [o2, some (0, pdI p), some (0, .tuple (v.map pdI)), some (0, valD x), some (0, tsD p v x), some (0, .int (c : Int)), o8, o9, o10, o11]) hd (tc_tx g c)
  have i1 := ts_ix p v x c hc
  have t := k (den (G fl23) (.idx (.var 6) (.var 7))).v ⟨0, by simp only [dSs, dS, den, denV, denR, denC, denO, denG, denJ, denOw, Den.val, BOp.F, COp.F, Bi.F, Me.F, TgA.tgt, bind_ok, bind_exc, bind_bad, opR_some, getR_some, varR_some, e_ixV, ixVR_some, truR_some, boolR_bool, andR_some, orR_some, itR_some, itemsOf, partR_int, e_var, e_varB, e_lit, e_op, e_op2, e_cons, e_nil, e_frz, e_tru, e_bool, e_seq, e_asg, e_expr, e_ret, e_retN, e_and, e_or, e_not, e_andT, e_orT, e_notT, e_if, e_un, e_m1, e_noPart, e_part, e_sl, e_only0, e_chain, chR_bool, e_str, e_jnil, e_jcons, strR_str, e_comp, e_in, e_rng1, e_enum, enR_list, e_next, e_brk, e_cont, e_ifS, e_for, e_par, e_ocons, e_asgT, e_app, e_setL, e_rais, e_callV, callR_some, fresR_ok, fresR_exc, seqR_next, seqR_ret, seqR_exc, seqR_brk, seqR_cont, fin_ret, fin_next, fin_exc, List.getElem?_cons_zero, List.getElem?_cons_succ, List.set_cons_zero, List.set_cons_succ, List.map_cons, List.map_nil, List.nil_append, List.cons_append, List.all_cons, List.all_nil, List.contains_nil, Bool.or_self, Bool.and_self, Bool.or_false, Bool.false_or, Bool.or_true, Bool.true_or, Bool.and_true, Bool.true_and, Bool.and_false, Bool.false_and, Bool.not_true, Bool.not_false, or_true, true_or, and_true, true_and, if_true, if_false, ite_true, ite_false, Bool.false_eq_true, reduceCtorEq, isV, isS, get_nil, get_val, owns_n, owns_v, owns_o, Option.map_some, decide_true, decide_false, tru_bool, tru_list, tru_tup, ix_l, ix_t, int_i, abs_i, add_ii, len_l, len_t, lst_neg, tup_t, tup_l, List.length_cons, List.length_nil, Nat.zero_add, Nat.reduceAdd, eq_self, setAll_c, setAll_n, setEnts_c, setEnts_n, asgTR_tup, Nat.zero_le, Nat.le_refl, all_of, any_of, wipe_nil, wipe_cons, back_nil, back_cons, backO_some, keep0_none, keep0_val, mul_ii, e_compX, compEnd_ok, compEnd_exc, e_zip, zipK_l, zipK_t, isi_bool, isi_str, isi_tup, isi_int, PyData.isStr, PyData.isTuple, PyData.isInt, PyData.isBool, PyData.plain, eq_ii, ne_ii, lt_ii, le_ii, gt_ii, ge_ii, eq_ss, ne_ss, le_ss, i1]⟩
  simp only [dSs, dS, den, denV, denR, denC, denO, denG, denJ, denOw, Den.val, BOp.F, COp.F, Bi.F, Me.F, TgA.tgt, bind_ok, bind_exc, bind_bad, opR_some, getR_some, varR_some, e_ixV, ixVR_some, truR_some, boolR_bool, andR_some, orR_some, itR_some, itemsOf, partR_int, e_var, e_varB, e_lit, e_op, e_op2, e_cons, e_nil, e_frz, e_tru, e_bool, e_seq, e_asg, e_expr, e_ret, e_retN, e_and, e_or, e_not, e_andT, e_orT, e_notT, e_if, e_un, e_m1, e_noPart, e_part, e_sl, e_only0, e_chain, chR_bool, e_str, e_jnil, e_jcons, strR_str, e_comp, e_in, e_rng1, e_enum, enR_list, e_next, e_brk, e_cont, e_ifS, e_for, e_par, e_ocons, e_asgT, e_app, e_setL, e_rais, e_callV, callR_some, fresR_ok, fresR_exc, seqR_next, seqR_ret, seqR_exc, seqR_brk, seqR_cont, fin_ret, fin_next, fin_exc, List.getElem?_cons_zero, List.getElem?_cons_succ, List.set_cons_zero, List.set_cons_succ, List.map_cons, List.map_nil, List.nil_append, List.cons_append, List.all_cons, List.all_nil, List.contains_nil, Bool.or_self, Bool.and_self, Bool.or_false, Bool.false_or, Bool.or_true, Bool.true_or, Bool.and_true, Bool.true_and, Bool.and_false, Bool.false_and, Bool.not_true, Bool.not_false, or_true, true_or, and_true, true_and, if_true, if_false, ite_true, ite_false, Bool.false_eq_true, reduceCtorEq, isV, isS, get_nil, get_val, owns_n, owns_v, owns_o, Option.map_some, decide_true, decide_false, tru_bool, tru_list, tru_tup, ix_l, ix_t, int_i, abs_i, add_ii, len_l, len_t, lst_neg, tup_t, tup_l, List.length_cons, List.length_nil, Nat.zero_add, Nat.reduceAdd, eq_self, setAll_c, setAll_n, setEnts_c, setEnts_n, asgTR_tup, Nat.zero_le, Nat.le_refl, all_of, any_of, wipe_nil, wipe_cons, back_nil, back_cons, backO_some, keep0_none, keep0_val, mul_ii, e_compX, compEnd_ok, compEnd_exc, e_zip, zipK_l, zipK_t, isi_bool, isi_str, isi_tup, isi_int, PyData.isStr, PyData.isTuple, PyData.isInt, PyData.isBool, PyData.plain, eq_ii, ne_ii, lt_ii, le_ii, gt_ii, ge_ii, eq_ss, ne_ss, le_ss] at t
  refine ⟨d', S, h1, h2, ?_⟩
  unfold sBent
  simp only [dSs, dS, den, denV, denR, denC, denO, denG, denJ, denOw, Den.val, BOp.F, COp.F, Bi.F, Me.F, TgA.tgt, bind_ok, bind_exc, bind_bad, opR_some, getR_some, varR_some, e_ixV, ixVR_some, truR_some, boolR_bool, andR_some, orR_some, itR_some, itemsOf, partR_int, e_var, e_varB, e_lit, e_op, e_op2, e_cons, e_nil, e_frz, e_tru, e_bool, e_seq, e_asg, e_expr, e_ret, e_retN, e_and, e_or, e_not, e_andT, e_orT, e_notT, e_if, e_un, e_m1, e_noPart, e_part, e_sl, e_only0, e_chain, chR_bool, e_str, e_jnil, e_jcons, strR_str, e_comp, e_in, e_rng1, e_enum, enR_list, e_next, e_brk, e_cont, e_ifS, e_for, e_par, e_ocons, e_asgT, e_app, e_setL, e_rais, e_callV, callR_some, fresR_ok, fresR_exc, seqR_next, seqR_ret, seqR_exc, seqR_brk, seqR_cont, fin_ret, fin_next, fin_exc, List.getElem?_cons_zero, List.getElem?_cons_succ, List.set_cons_zero, List.set_cons_succ, List.map_cons, List.map_nil, List.nil_append, List.cons_append, List.all_cons, List.all_nil, List.contains_nil, Bool.or_self, Bool.and_self, Bool.or_false, Bool.false_or, Bool.or_true, Bool.true_or, Bool.and_true, Bool.true_and, Bool.and_false, Bool.false_and, Bool.not_true, Bool.not_false, or_true, true_or, and_true, true_and, if_true, if_false, ite_true, ite_false, Bool.false_eq_true, reduceCtorEq, isV, isS, get_nil, get_val, owns_n, owns_v, owns_o, Option.map_some, decide_true, decide_false, tru_bool, tru_list, tru_tup, ix_l, ix_t, int_i, abs_i, add_ii, len_l, len_t, lst_neg, tup_t, tup_l, List.length_cons, List.length_nil, Nat.zero_add, Nat.reduceAdd, eq_self, setAll_c, setAll_n, setEnts_c, setEnts_n, asgTR_tup, Nat.zero_le, Nat.le_refl, all_of, any_of, wipe_nil, wipe_cons, back_nil, back_cons, backO_some, keep0_none, keep0_val, mul_ii, e_compX, compEnd_ok, compEnd_exc, e_zip, zipK_l, zipK_t, isi_bool, isi_str, isi_tup, isi_int, PyData.isStr, PyData.isTuple, PyData.isInt, PyData.isBool, PyData.plain, eq_ii, ne_ii, lt_ii, le_ii, gt_ii, ge_ii, eq_ss, ne_ss, le_ss, gf_23_5, gf_23_7, gf_23_9, gf_23_11, gf_23_12, gf_23_13, gf_23_14, gf_23_15, gf_23_16, gf_23_18, gf_23_19, gf_23_20, gf_23_21, gf_23_22, t]
theorem vs_ix2 (a b : PyData) (c : Nat) (hc : c < 2) (n m : Nat) : ixF [(n, .list [a, b]), (m, .int (c : Int))] = some (n - 1, if c = 0 then a else b) := by
  obtain rfl | rfl : c = 0 ∨ c = 1 := by omega
  · rfl
  · rfl
def dueV (c : Nat) (S : Str) : PyData := match c with
  | 0 => dotV (rdDot S)
  | 1 => vecV (rdVec S)
  | _ => anyV (rdVal S)
theorem due_ok {o0 o1 o2 o3 o4 o5 o6 o8 o10 o11 : Option Ent} {S : Str} (hS : Tx 500 S) (c : Nat) (hc : c < 3) :
    dS (G fl23) [] sDue [o0, o1, o2, o3, o4, o5, o6, some (0, .int (c : Int)), o8, some (0, .str S), o10, o11] =
      .ok (.next, [o0, o1, o2, o3, o4, o5, o6, some (0, .int (c : Int)), o8, some (0, .str S), some (0, dueV c S), o11]) := by
  have hl := hS.1
  have f1 := dotin_F S hl
  have f2 := vecin_F S hl
  have f3 := lany_F S hl
  unfold sDue
  obtain rfl | rfl | rfl : c = 0 ∨ c = 1 ∨ c = 2 := by omega
  · have d0 : decide (((0 : Nat) : Int) < 2) = true := rfl
    have i1 := fun n m => vs_ix2 (dotV (rdDot S)) (vecV (rdVec S)) 0 (by decide) n m
    simp only [dSs, dS, den, denV, denR, denC, denO, denG, denJ, denOw, Den.val, BOp.F, COp.F, Bi.F, Me.F, TgA.tgt, bind_ok, bind_exc, bind_bad, opR_some, getR_some, varR_some, e_ixV, ixVR_some, truR_some, boolR_bool, andR_some, orR_some, itR_some, itemsOf, partR_int, e_var, e_varB, e_lit, e_op, e_op2, e_cons, e_nil, e_frz, e_tru, e_bool, e_seq, e_asg, e_expr, e_ret, e_retN, e_and, e_or, e_not, e_andT, e_orT, e_notT, e_if, e_un, e_m1, e_noPart, e_part, e_sl, e_only0, e_chain, chR_bool, e_str, e_jnil, e_jcons, strR_str, e_comp, e_in, e_rng1, e_enum, enR_list, e_next, e_brk, e_cont, e_ifS, e_for, e_par, e_ocons, e_asgT, e_app, e_setL, e_rais, e_cnil, e_cval, e_cown, e_callV, e_callO, callR_some, fresR_ok, fresR_exc, seqR_next, seqR_ret, seqR_exc, seqR_brk, seqR_cont, fin_ret, fin_next, fin_exc, List.getElem?_cons_zero, List.getElem?_cons_succ, List.set_cons_zero, List.set_cons_succ, List.map_cons, List.map_nil, List.nil_append, List.cons_append, List.all_cons, List.all_nil, List.contains_nil, Bool.or_self, Bool.and_self, Bool.or_false, Bool.false_or, Bool.or_true, Bool.true_or, Bool.and_true, Bool.true_and, Bool.and_false, Bool.false_and, Bool.not_true, Bool.not_false, or_true, true_or, and_true, true_and, if_true, if_false, ite_true, ite_false, Bool.false_eq_true, reduceCtorEq, isV, isS, get_nil, get_val, owns_n, owns_v, owns_o, Option.map_some, decide_true, decide_false, tru_bool, tru_list, tru_tup, ix_l, ix_t, int_i, abs_i, add_ii, len_l, len_t, lst_neg, tup_t, tup_l, List.length_cons, List.length_nil, Nat.zero_add, Nat.reduceAdd, eq_self, setAll_c, setAll_n, setEnts_c, setEnts_n, asgTR_tup, Nat.zero_le, Nat.le_refl, all_of, any_of, wipe_nil, wipe_cons, back_nil, back_cons, backO_some, keep0_none, keep0_val, mul_ii, e_compX, compEnd_ok, compEnd_exc, e_zip, zipK_l, zipK_t, isi_bool, isi_str, isi_tup, isi_int, PyData.isStr, PyData.isTuple, PyData.isInt, PyData.isBool, PyData.plain, eq_ii, ne_ii, lt_ii, le_ii, gt_ii, ge_ii, eq_ss, ne_ss, le_ss, gf_23_5, gf_23_7, gf_23_9, gf_23_11, gf_23_12, gf_23_13, gf_23_14, gf_23_15, gf_23_16, gf_23_18, gf_23_19, gf_23_20, gf_23_21, gf_23_22, d0, f1, f2, lst2, i1]
    rfl
  · have d0 : decide (((1 : Nat) : Int) < 2) = true := rfl
    have i1 := fun n m => vs_ix2 (dotV (rdDot S)) (vecV (rdVec S)) 1 (by decide) n m
    simp only [dSs, dS, den, denV, denR, denC, denO, denG, denJ, denOw, Den.val, BOp.F, COp.F, Bi.F, Me.F, TgA.tgt, bind_ok, bind_exc, bind_bad, opR_some, getR_some, varR_some, e_ixV, ixVR_some, truR_some, boolR_bool, andR_some, orR_some, itR_some, itemsOf, partR_int, e_var, e_varB, e_lit, e_op, e_op2, e_cons, e_nil, e_frz, e_tru, e_bool, e_seq, e_asg, e_expr, e_ret, e_retN, e_and, e_or, e_not, e_andT, e_orT, e_notT, e_if, e_un, e_m1, e_noPart, e_part, e_sl, e_only0, e_chain, chR_bool, e_str, e_jnil, e_jcons, strR_str, e_comp, e_in, e_rng1, e_enum, enR_list, e_next, e_brk, e_cont, e_ifS, e_for, e_par, e_ocons, e_asgT, e_app, e_setL, e_rais, e_cnil, e_cval, e_cown, e_callV, e_callO, callR_some, fresR_ok, fresR_exc, seqR_next, seqR_ret, seqR_exc, seqR_brk, seqR_cont, fin_ret, fin_next, fin_exc, List.getElem?_cons_zero, List.getElem?_cons_succ, List.set_cons_zero, List.set_cons_succ, List.map_cons, List.map_nil, List.nil_append, List.cons_append, List.all_cons, List.all_nil, List.contains_nil, Bool.or_self, Bool.and_self, Bool.or_false, Bool.false_or, Bool.or_true, Bool.true_or, Bool.and_true, Bool.true_and, Bool.and_false, Bool.false_and, Bool.not_true, Bool.not_false, or_true, true_or, and_true, true_and, if_true, if_false, ite_true, ite_false, Bool.false_eq_true, reduceCtorEq, isV, isS, get_nil, get_val, owns_n, owns_v, owns_o, Option.map_some, decide_true, decide_false, tru_bool, tru_list, tru_tup, ix_l, ix_t, int_i, abs_i, add_ii, len_l, len_t, lst_neg, tup_t, tup_l, List.length_cons, List.length_nil, Nat.zero_add, Nat.reduceAdd, eq_self, setAll_c, setAll_n, setEnts_c, setEnts_n, asgTR_tup, Nat.zero_le, Nat.le_refl, all_of, any_of, wipe_nil, wipe_cons, back_nil, back_cons, backO_some, keep0_none, keep0_val, mul_ii, e_compX, compEnd_ok, compEnd_exc, e_zip, zipK_l, zipK_t, isi_bool, isi_str, isi_tup, isi_int, PyData.isStr, PyData.isTuple, PyData.isInt, PyData.isBool, PyData.plain, eq_ii, ne_ii, lt_ii, le_ii, gt_ii, ge_ii, eq_ss, ne_ss, le_ss, gf_23_5, gf_23_7, gf_23_9, gf_23_11, gf_23_12, gf_23_13, gf_23_14, gf_23_15, gf_23_16, gf_23_18, gf_23_19, gf_23_20, gf_23_21, gf_23_22, d0, f1, f2, lst2, i1]
    rfl
  · have d0 : decide (((2 : Nat) : Int) < 2) = false := rfl
    simp only [dSs, dS, den, denV, denR, denC, denO, denG, denJ, denOw, Den.val, BOp.F, COp.F, Bi.F, Me.F, TgA.tgt, bind_ok, bind_exc, bind_bad, opR_some, getR_some, varR_some, e_ixV, ixVR_some, truR_some, boolR_bool, andR_some, orR_some, itR_some, itemsOf, partR_int, e_var, e_varB, e_lit, e_op, e_op2, e_cons, e_nil, e_frz, e_tru, e_bool, e_seq, e_asg, e_expr, e_ret, e_retN, e_and, e_or, e_not, e_andT, e_orT, e_notT, e_if, e_un, e_m1, e_noPart, e_part, e_sl, e_only0, e_chain, chR_bool, e_str, e_jnil, e_jcons, strR_str, e_comp, e_in, e_rng1, e_enum, enR_list, e_next, e_brk, e_cont, e_ifS, e_for, e_par, e_ocons, e_asgT, e_app, e_setL, e_rais, e_cnil, e_cval, e_cown, e_callV, e_callO, callR_some, fresR_ok, fresR_exc, seqR_next, seqR_ret, seqR_exc, seqR_brk, seqR_cont, fin_ret, fin_next, fin_exc, List.getElem?_cons_zero, List.getElem?_cons_succ, List.set_cons_zero, List.set_cons_succ, List.map_cons, List.map_nil, List.nil_append, List.cons_append, List.all_cons, List.all_nil, List.contains_nil, Bool.or_self, Bool.and_self, Bool.or_false, Bool.false_or, Bool.or_true, Bool.true_or, Bool.and_true, Bool.true_and, Bool.and_false, Bool.false_and, Bool.not_true, Bool.not_false, or_true, true_or, and_true, true_and, if_true, if_false, ite_true, ite_false, Bool.false_eq_true, reduceCtorEq, isV, isS, get_nil, get_val, owns_n, owns_v, owns_o, Option.map_some, decide_true, decide_false, tru_bool, tru_list, tru_tup, ix_l, ix_t, int_i, abs_i, add_ii, len_l, len_t, lst_neg, tup_t, tup_l, List.length_cons, List.length_nil, Nat.zero_add, Nat.reduceAdd, eq_self, setAll_c, setAll_n, setEnts_c, setEnts_n, asgTR_tup, Nat.zero_le, Nat.le_refl, all_of, any_of, wipe_nil, wipe_cons, back_nil, back_cons, backO_some, keep0_none, keep0_val, mul_ii, e_compX, compEnd_ok, compEnd_exc, e_zip, zipK_l, zipK_t, isi_bool, isi_str, isi_tup, isi_int, PyData.isStr, PyData.isTuple, PyData.isInt, PyData.isBool, PyData.plain, eq_ii, ne_ii, lt_ii, le_ii, gt_ii, ge_ii, eq_ss, ne_ss, le_ss, gf_23_5, gf_23_7, gf_23_9, gf_23_11, gf_23_12, gf_23_13, gf_23_14, gf_23_15, gf_23_16, gf_23_18, gf_23_19, gf_23_20, gf_23_21, gf_23_22, d0, f3]
    rfl
theorem end_ok {o0 o1 o2 o3 o4 o5 o6 o8 o11 : Option Ent} {S : Str} (hS : Tx 500 S) (c : Nat) (hc : c < 3) :
    dS (G fl23) [] sEnd [o0, o1, o2, o3, o4, o5, o6, some (0, .int (c : Int)), o8, some (0, .str S), some (0, dueV c S), o11] =
      .ok (.next, [o0, o1, o2, o3, o4, o5, o6, some (0, .int (c : Int)), o8, some (0, .str S), some (0, dueV c S), o11]) := by
  have hl := hS.1
  obtain ⟨ps, f1⟩ := told_F c hc S hl
  have f2 := same_F (any_shows c hS)
  have dv : (∃ d, rdAny c S = some d ∧ dueV c S = d ∧ ∀ k l, isF false [(k, d), (l, .none)] = some (0, .bool false)) ∨ (rdAny c S = none ∧ (dueV c S = .none ∨ dueV c S = .str "bad")) := by
    obtain rfl | rfl | rfl : c = 0 ∨ c = 1 ∨ c = 2 := by omega
    · show (∃ d, (rdDot S).map pdI = some d ∧ dotV (rdDot S) = d ∧ _) ∨ ((rdDot S).map pdI = none ∧ _)
      cases q : rdDot S with
      | none => exact .inr ⟨rfl, .inl (by show dotV (rdDot S) = _; rw [q]; rfl)⟩
      | some p => exact .inl ⟨pdI p, rfl, rfl, fun _ _ => rfl⟩
    · show (∃ d, (rdVec S).map _ = some d ∧ vecV (rdVec S) = d ∧ _) ∨ ((rdVec S).map _ = none ∧ _)
      cases q : rdVec S with
      | none => exact .inr ⟨rfl, .inl (by show vecV (rdVec S) = _; rw [q]; rfl)⟩
      | some p => exact .inl ⟨_, rfl, rfl, fun _ _ => rfl⟩
    · show (∃ d, (rdVal S).map valD = some d ∧ anyV (rdVal S) = d ∧ _) ∨ ((rdVal S).map valD = none ∧ _)
      cases q : rdVal S with
      | none => exact .inr ⟨rfl, .inr (by show anyV (rdVal S) = _; rw [q]; rfl)⟩
      | some p => exact .inl ⟨valD p, rfl, rfl, fun _ _ => by cases p <;> rfl⟩
  unfold sEnd
  rcases dv with ⟨d, e1, e2, e3⟩ | ⟨e1, e2⟩
  · rw [e1] at f1 f2
    have f1 : F__law_told [(0, .int (c : Int)), (0, .str S)] = .ok (0, d) ps := f1
    have f2 : F__law_same [(0, d), (0, d)] = .ok (0, .bool true) [none, none] := f2
    rw [e2]
    simp only [dSs, dS, den, denV, denR, denC, denO, denG, denJ, denOw, Den.val, BOp.F, COp.F, Bi.F, Me.F, TgA.tgt, bind_ok, bind_exc, bind_bad, opR_some, getR_some, varR_some, e_ixV, ixVR_some, truR_some, boolR_bool, andR_some, orR_some, itR_some, itemsOf, partR_int, e_var, e_varB, e_lit, e_op, e_op2, e_cons, e_nil, e_frz, e_tru, e_bool, e_seq, e_asg, e_expr, e_ret, e_retN, e_and, e_or, e_not, e_andT, e_orT, e_notT, e_if, e_un, e_m1, e_noPart, e_part, e_sl, e_only0, e_chain, chR_bool, e_str, e_jnil, e_jcons, strR_str, e_comp, e_in, e_rng1, e_enum, enR_list, e_next, e_brk, e_cont, e_ifS, e_for, e_par, e_ocons, e_asgT, e_app, e_setL, e_rais, e_cnil, e_cval, e_cown, e_callV, e_callO, callR_some, fresR_ok, fresR_exc, seqR_next, seqR_ret, seqR_exc, seqR_brk, seqR_cont, fin_ret, fin_next, fin_exc, List.getElem?_cons_zero, List.getElem?_cons_succ, List.set_cons_zero, List.set_cons_succ, List.map_cons, List.map_nil, List.nil_append, List.cons_append, List.all_cons, List.all_nil, List.contains_nil, Bool.or_self, Bool.and_self, Bool.or_false, Bool.false_or, Bool.or_true, Bool.true_or, Bool.and_true, Bool.true_and, Bool.and_false, Bool.false_and, Bool.not_true, Bool.not_false, or_true, true_or, and_true, true_and, if_true, if_false, ite_true, ite_false, Bool.false_eq_true, reduceCtorEq, isV, isS, get_nil, get_val, owns_n, owns_v, owns_o, Option.map_some, decide_true, decide_false, tru_bool, tru_list, tru_tup, ix_l, ix_t, int_i, abs_i, add_ii, len_l, len_t, lst_neg, tup_t, tup_l, List.length_cons, List.length_nil, Nat.zero_add, Nat.reduceAdd, eq_self, setAll_c, setAll_n, setEnts_c, setEnts_n, asgTR_tup, Nat.zero_le, Nat.le_refl, all_of, any_of, wipe_nil, wipe_cons, back_nil, back_cons, backO_some, keep0_none, keep0_val, mul_ii, e_compX, compEnd_ok, compEnd_exc, e_zip, zipK_l, zipK_t, isi_bool, isi_str, isi_tup, isi_int, PyData.isStr, PyData.isTuple, PyData.isInt, PyData.isBool, PyData.plain, eq_ii, ne_ii, lt_ii, le_ii, gt_ii, ge_ii, eq_ss, ne_ss, le_ss, gf_23_5, gf_23_7, gf_23_9, gf_23_11, gf_23_12, gf_23_13, gf_23_14, gf_23_15, gf_23_16, gf_23_18, gf_23_19, gf_23_20, gf_23_21, gf_23_22, f1, e3, f2]
  · rw [e1] at f1 f2
    have f1 : F__law_told [(0, .int (c : Int)), (0, .str S)] = .ok (0, .str "bad") ps := f1
    have f2 : F__law_same [(0, .str "bad"), (0, .str "bad")] = .ok (0, .bool true) [none, none] := f2
    rcases e2 with e2 | e2
    · rw [e2]
      simp only [dSs, dS, den, denV, denR, denC, denO, denG, denJ, denOw, Den.val, BOp.F, COp.F, Bi.F, Me.F, TgA.tgt, bind_ok, bind_exc, bind_bad, opR_some, getR_some, varR_some, e_ixV, ixVR_some, truR_some, boolR_bool, andR_some, orR_some, itR_some, itemsOf, partR_int, e_var, e_varB, e_lit, e_op, e_op2, e_cons, e_nil, e_frz, e_tru, e_bool, e_seq, e_asg, e_expr, e_ret, e_retN, e_and, e_or, e_not, e_andT, e_orT, e_notT, e_if, e_un, e_m1, e_noPart, e_part, e_sl, e_only0, e_chain, chR_bool, e_str, e_jnil, e_jcons, strR_str, e_comp, e_in, e_rng1, e_enum, enR_list, e_next, e_brk, e_cont, e_ifS, e_for, e_par, e_ocons, e_asgT, e_app, e_setL, e_rais, e_cnil, e_cval, e_cown, e_callV, e_callO, callR_some, fresR_ok, fresR_exc, seqR_next, seqR_ret, seqR_exc, seqR_brk, seqR_cont, fin_ret, fin_next, fin_exc, List.getElem?_cons_zero, List.getElem?_cons_succ, List.set_cons_zero, List.set_cons_succ, List.map_cons, List.map_nil, List.nil_append, List.cons_append, List.all_cons, List.all_nil, List.contains_nil, Bool.or_self, Bool.and_self, Bool.or_false, Bool.false_or, Bool.or_true, Bool.true_or, Bool.and_true, Bool.true_and, Bool.and_false, Bool.false_and, Bool.not_true, Bool.not_false, or_true, true_or, and_true, true_and, if_true, if_false, ite_true, ite_false, Bool.false_eq_true, reduceCtorEq, isV, isS, get_nil, get_val, owns_n, owns_v, owns_o, Option.map_some, decide_true, decide_false, tru_bool, tru_list, tru_tup, ix_l, ix_t, int_i, abs_i, add_ii, len_l, len_t, lst_neg, tup_t, tup_l, List.length_cons, List.length_nil, Nat.zero_add, Nat.reduceAdd, eq_self, setAll_c, setAll_n, setEnts_c, setEnts_n, asgTR_tup, Nat.zero_le, Nat.le_refl, all_of, any_of, wipe_nil, wipe_cons, back_nil, back_cons, backO_some, keep0_none, keep0_val, mul_ii, e_compX, compEnd_ok, compEnd_exc, e_zip, zipK_l, zipK_t, isi_bool, isi_str, isi_tup, isi_int, PyData.isStr, PyData.isTuple, PyData.isInt, PyData.isBool, PyData.plain, eq_ii, ne_ii, lt_ii, le_ii, gt_ii, ge_ii, eq_ss, ne_ss, le_ss, gf_23_5, gf_23_7, gf_23_9, gf_23_11, gf_23_12, gf_23_13, gf_23_14, gf_23_15, gf_23_16, gf_23_18, gf_23_19, gf_23_20, gf_23_21, gf_23_22, f1, is_non, f2]
    · rw [e2]
      simp only [dSs, dS, den, denV, denR, denC, denO, denG, denJ, denOw, Den.val, BOp.F, COp.F, Bi.F, Me.F, TgA.tgt, bind_ok, bind_exc, bind_bad, opR_some, getR_some, varR_some, e_ixV, ixVR_some, truR_some, boolR_bool, andR_some, orR_some, itR_some, itemsOf, partR_int, e_var, e_varB, e_lit, e_op, e_op2, e_cons, e_nil, e_frz, e_tru, e_bool, e_seq, e_asg, e_expr, e_ret, e_retN, e_and, e_or, e_not, e_andT, e_orT, e_notT, e_if, e_un, e_m1, e_noPart, e_part, e_sl, e_only0, e_chain, chR_bool, e_str, e_jnil, e_jcons, strR_str, e_comp, e_in, e_rng1, e_enum, enR_list, e_next, e_brk, e_cont, e_ifS, e_for, e_par, e_ocons, e_asgT, e_app, e_setL, e_rais, e_cnil, e_cval, e_cown, e_callV, e_callO, callR_some, fresR_ok, fresR_exc, seqR_next, seqR_ret, seqR_exc, seqR_brk, seqR_cont, fin_ret, fin_next, fin_exc, List.getElem?_cons_zero, List.getElem?_cons_succ, List.set_cons_zero, List.set_cons_succ, List.map_cons, List.map_nil, List.nil_append, List.cons_append, List.all_cons, List.all_nil, List.contains_nil, Bool.or_self, Bool.and_self, Bool.or_false, Bool.false_or, Bool.or_true, Bool.true_or, Bool.and_true, Bool.true_and, Bool.and_false, Bool.false_and, Bool.not_true, Bool.not_false, or_true, true_or, and_true, true_and, if_true, if_false, ite_true, ite_false, Bool.false_eq_true, reduceCtorEq, isV, isS, get_nil, get_val, owns_n, owns_v, owns_o, Option.map_some, decide_true, decide_false, tru_bool, tru_list, tru_tup, ix_l, ix_t, int_i, abs_i, add_ii, len_l, len_t, lst_neg, tup_t, tup_l, List.length_cons, List.length_nil, Nat.zero_add, Nat.reduceAdd, eq_self, setAll_c, setAll_n, setEnts_c, setEnts_n, asgTR_tup, Nat.zero_le, Nat.le_refl, all_of, any_of, wipe_nil, wipe_cons, back_nil, back_cons, backO_some, keep0_none, keep0_val, mul_ii, e_compX, compEnd_ok, compEnd_exc, e_zip, zipK_l, zipK_t, isi_bool, isi_str, isi_tup, isi_int, PyData.isStr, PyData.isTuple, PyData.isInt, PyData.isBool, PyData.plain, eq_ii, ne_ii, lt_ii, le_ii, gt_ii, ge_ii, eq_ss, ne_ss, le_ss, gf_23_5, gf_23_7, gf_23_9, gf_23_11, gf_23_12, gf_23_13, gf_23_14, gf_23_15, gf_23_16, gf_23_18, gf_23_19, gf_23_20, gf_23_21, gf_23_22, f1, is_str, f2]
end K55
end

section
set_option Elab.async false
set_option linter.all false
set_option maxRecDepth 100000
set_option maxHeartbeats 4000000
namespace K55
open PySem PySem.Spec PyProof.Rows L2 Mb TL
theorem for_n (tg : TgA) (b : Sms) (m : Int) (n : Nat) (hm : m = (n : Int)) (hn : n < 1000) (o : Option Ent) (ε : Ev) : dS (G fl23) [] (.forr tg (.rng1 (.int m)) b) (o :: ε) = fLoop (TgA.tgt [] tg) (dSs (G fl23) [] b) ((List.range n).map fun (k : Nat) => .int (k : Int)) (o :: ε) := by
  subst hm
  have src : (denR (G fl23) (.rng1 (.int (n : Int)))).1 (o :: ε) = .ok ((List.range n).map fun (k : Nat) => .int (k : Int), o :: ε) := by
    show fRng1 (fLit (.int (n : Int))) (o :: ε) = _
    rw [e_rng1]
    simp only [dSs, dS, den, denV, denR, denC, denO, denG, denJ, denOw, Den.val, BOp.F, COp.F, Bi.F, Me.F, TgA.tgt, bind_ok, bind_exc, bind_bad, opR_some, getR_some, varR_some, e_ixV, ixVR_some, truR_some, boolR_bool, andR_some, orR_some, itR_some, itemsOf, partR_int, e_var, e_varB, e_lit, e_op, e_op2, e_cons, e_nil, e_frz, e_tru, e_bool, e_seq, e_asg, e_expr, e_ret, e_retN, e_and, e_or, e_not, e_andT, e_orT, e_notT, e_if, e_un, e_m1, e_noPart, e_part, e_sl, e_only0, e_chain, chR_bool, e_str, e_jnil, e_jcons, strR_str, e_comp, e_in, e_rng1, e_enum, enR_list, e_next, e_brk, e_cont, e_ifS, e_for, e_par, e_ocons, e_asgT, e_app, e_setL, e_rais, e_callV, callR_some, fresR_ok, fresR_exc, seqR_next, seqR_ret, seqR_exc, seqR_brk, seqR_cont, fin_ret, fin_next, fin_exc, List.getElem?_cons_zero, List.getElem?_cons_succ, List.set_cons_zero, List.set_cons_succ, List.map_cons, List.map_nil, List.nil_append, List.cons_append, List.all_cons, List.all_nil, List.contains_nil, Bool.or_self, Bool.and_self, Bool.or_false, Bool.false_or, Bool.or_true, Bool.true_or, Bool.and_true, Bool.true_and, Bool.and_false, Bool.false_and, Bool.not_true, Bool.not_false, or_true, true_or, and_true, true_and, if_true, if_false, ite_true, ite_false, Bool.false_eq_true, reduceCtorEq, isV, isS, get_nil, get_val, owns_n, owns_v, owns_o, Option.map_some, decide_true, decide_false, tru_bool, tru_list, tru_tup, ix_l, ix_t, int_i, abs_i, add_ii, len_l, len_t, lst_neg, tup_t, tup_l, List.length_cons, List.length_nil, Nat.zero_add, Nat.reduceAdd, eq_self, setAll_c, setAll_n, setEnts_c, setEnts_n, asgTR_tup, Nat.zero_le, Nat.le_refl, all_of, any_of, wipe_nil, wipe_cons, back_nil, back_cons, backO_some, keep0_none, keep0_val, mul_ii, e_compX, compEnd_ok, compEnd_exc, e_zip, zipK_l, zipK_t, isi_bool, isi_str, isi_tup, isi_int, PyData.isStr, PyData.isTuple, PyData.isInt, PyData.isBool, PyData.plain, eq_ii, ne_ii, lt_ii, le_ii, gt_ii, ge_ii, eq_ss, ne_ss, le_ss]
    exact rng_n n hn _
  simp only [dS]
  rw [e_for, src, bind_ok]
theorem mem_rng {n : Nat} {x : PyData} (h : x ∈ (List.range n).map fun (k : Nat) => PyData.int (k : Int)) : ∃ c : Nat, c < n ∧ x = .int (c : Int) := by
  obtain ⟨k, hk, rfl⟩ := List.mem_map.mp h
  exact ⟨k, List.mem_range.mp hk, rfl⟩
def bBent : Sms := (.cons sBent (.cons sDue (.cons sEnd .nil)))
theorem loop8 {o0 o2 o8 o9 o10 o11 : Option Ent} {p v x} {d : PyData} (hd : DrawOk d) (g : Gd p v x) (c : Nat) (hc : c < 3) : ∃ (d' : PyData) (p8 p9 p10 : Option Ent), DrawOk d' ∧
    dS (G fl23) [] (.forr (.nm 8) (.rng1 (.int 6)) bBent) [o0, some (1, d), o2, some (0, pdI p), some (0, .tuple (v.map pdI)), some (0, valD x), some (0, tsD p v x), some (0, .int (c : Int)), o8, o9, o10, o11] =
      .ok (.next, [o0, some (1, d'), o2, some (0, pdI p), some (0, .tuple (v.map pdI)), some (0, valD x), some (0, tsD p v x), some (0, .int (c : Int)), p8, p9, p10, o11]) := by
  obtain ⟨ε', e, d', p8, p9, p10, h, rfl⟩ := loop_inv (tg := TgA.tgt [] (.nm 8)) (b := dSs (G fl23) [] bBent)
    (I := fun ε => ∃ (d : PyData) (p8 p9 p10 : Option Ent), DrawOk d ∧ ε = [o0, some (1, d), o2, some (0, pdI p), some (0, .tuple (v.map pdI)), some (0, valD x), some (0, tsD p v x), some (0, .int (c : Int)), p8, p9, p10, o11])
    ((List.range 6).map fun (k : Nat) => .int (k : Int)) [o0, some (1, d), o2, some (0, pdI p), some (0, .tuple (v.map pdI)), some (0, valD x), some (0, tsD p v x), some (0, .int (c : Int)), o8, o9, o10, o11]
    (fun y hy ε ⟨d, p8, p9, p10, hd, e⟩ => by
      subst e
      obtain ⟨d', S, h1, hS, e1⟩ := bent_ok (o0 := o0) (o2 := o2) (o8 := some (0, y)) (o9 := p9) (o10 := p10) (o11 := o11) hd g c hc
      have e2 := due_ok (o0 := o0) (o1 := some (1, d')) (o2 := o2) (o3 := some (0, pdI p)) (o4 := some (0, .tuple (v.map pdI))) (o5 := some (0, valD x)) (o6 := some (0, tsD p v x)) (o8 := some (0, y)) (o10 := p10) (o11 := o11) hS c hc
      have e3 := end_ok (o0 := o0) (o1 := some (1, d')) (o2 := o2) (o3 := some (0, pdI p)) (o4 := some (0, .tuple (v.map pdI))) (o5 := some (0, valD x)) (o6 := some (0, tsD p v x)) (o8 := some (0, y)) (o11 := o11) hS c hc
      refine ⟨_, [o0, some (1, d'), o2, some (0, pdI p), some (0, .tuple (v.map pdI)), some (0, valD x), some (0, tsD p v x), some (0, .int (c : Int)), some (0, y), some (0, .str S), some (0, dueV c S), o11], rfl, ?_, d', _, _, _, h1, rfl⟩
      unfold bBent
      simp only [dSs]
      show fSeq _ _ [o0, some (1, d), o2, some (0, pdI p), some (0, .tuple (v.map pdI)), some (0, valD x), some (0, tsD p v x), some (0, .int (c : Int)), some (0, y), p9, p10, o11] = _
      rw [e_seq, e1, seqR_next, e_seq, e2, seqR_next, e_seq, e3, seqR_next]
      rfl)
    ⟨d, o8, o9, o10, hd, rfl⟩
  exact ⟨d', p8, p9, p10, h, by rw [for_n _ _ 6 6 rfl (by decide), e]⟩
def bCall : Sms := (.cons sCall (.cons (.forr (.nm 8) (.rng1 (.int 6)) bBent) .nil))
theorem loop7 {o0 o2 o7 o8 o9 o10 o11 : Option Ent} {p v x} {d : PyData} (hd : DrawOk d) (g : Gd p v x) : ∃ (d' : PyData) (p7 p8 p9 p10 : Option Ent), DrawOk d' ∧
    dS (G fl23) [] (.forr (.nm 7) (.rng1 (.int 3)) bCall) [o0, some (1, d), o2, some (0, pdI p), some (0, .tuple (v.map pdI)), some (0, valD x), some (0, tsD p v x), o7, o8, o9, o10, o11] =
      .ok (.next, [o0, some (1, d'), o2, some (0, pdI p), some (0, .tuple (v.map pdI)), some (0, valD x), some (0, tsD p v x), p7, p8, p9, p10, o11]) := by
  obtain ⟨ε', e, d', p7, p8, p9, p10, h, rfl⟩ := loop_inv (tg := TgA.tgt [] (.nm 7)) (b := dSs (G fl23) [] bCall)
    (I := fun ε => ∃ (d : PyData) (p7 p8 p9 p10 : Option Ent), DrawOk d ∧ ε = [o0, some (1, d), o2, some (0, pdI p), some (0, .tuple (v.map pdI)), some (0, valD x), some (0, tsD p v x), p7, p8, p9, p10, o11])
    ((List.range 3).map fun (k : Nat) => .int (k : Int)) [o0, some (1, d), o2, some (0, pdI p), some (0, .tuple (v.map pdI)), some (0, valD x), some (0, tsD p v x), o7, o8, o9, o10, o11]
    (fun y hy ε ⟨d, p7, p8, p9, p10, hd, e⟩ => by
      subst e
      obtain ⟨c, hc, rfl⟩ := mem_rng hy
      have e1 := call_ok (o0 := o0) (o1 := some (1, d)) (o2 := o2) (o8 := p8) (o9 := p9) (o10 := p10) (o11 := o11) g c hc
      obtain ⟨d', q8, q9, q10, h1, e2⟩ := loop8 (o0 := o0) (o2 := o2) (o8 := p8) (o9 := p9) (o10 := p10) (o11 := o11) hd g c hc
      refine ⟨_, [o0, some (1, d'), o2, some (0, pdI p), some (0, .tuple (v.map pdI)), some (0, valD x), some (0, tsD p v x), some (0, .int (c : Int)), q8, q9, q10, o11], rfl, ?_, d', _, _, _, _, h1, rfl⟩
      unfold bCall
      rw [dSs, dSs, dSs]
      show fSeq _ _ [o0, some (1, d), o2, some (0, pdI p), some (0, .tuple (v.map pdI)), some (0, valD x), some (0, tsD p v x), some (0, .int (c : Int)), p8, p9, p10, o11] = _
      rw [e_seq, e1, seqR_next, e_seq, e2, seqR_next]
      rfl)
    ⟨d, o7, o8, o9, o10, hd, rfl⟩
  exact ⟨d', p7, p8, p9, p10, h, by rw [for_n _ _ 3 3 rfl (by decide), e]⟩
def bTurn : Sms := (.cons (.asg 3 eDot) (.cons (.asg 4 eVec) (.cons (.asg 5 eVal) (.cons sTexts (.cons sSame (.cons (.forr (.nm 7) (.rng1 (.int 3)) bCall) .nil))))))
def Row (ε : Ev) : Prop := ∃ (o0 : Option Ent) (d : PyData) (o2 o3 o4 o5 o6 o7 o8 o9 o10 o11 : Option Ent), DrawOk d ∧ ε = [o0, some (1, d), o2, o3, o4, o5, o6, o7, o8, o9, o10, o11]
theorem turn_ok {ε : Ev} (h : Row ε) : ∃ ε', dSs (G fl23) [] bTurn ε = .ok (.next, ε') ∧ Row ε' := by
  obtain ⟨o0, d, o2, o3, o4, o5, o6, o7, o8, o9, o10, o11, hd, rfl⟩ := h
  obtain ⟨d1, p, h1, p2, p1, e1⟩ := dot_ok (o0 := o0) (rest := [o2, o3, o4, o5, o6, o7, o8, o9, o10, o11]) hd
  obtain ⟨d2, v, p11, h2, v2, v1, v3, e2⟩ := vec_ok (o0 := o0) (o2 := o2) (o3 := some (0, pdI p)) (o4 := o4) (o5 := o5) (o6 := o6) (o7 := o7) (o8 := o8) (o9 := o9) (o10 := o10) (o11 := o11) h1
  obtain ⟨d3, x, h3, x1, e3⟩ := val_ok (o0 := o0) (rest := [o2, some (0, pdI p), some (0, .tuple (v.map pdI)), o5, o6, o7, o8, o9, o10, p11]) h2
  have g : Gd p v x := ⟨p1, p2, v1, v2, v3, x1⟩
  have vs : ∀ p ∈ v, Sm2 p := fun p hp => (v1 p hp).1
  have e4 := texts_ok (o0 := o0) (o1 := some (1, d3)) (o2 := o2) (o6 := o6) (o7 := o7) (o8 := o8) (o9 := o9) (o10 := o10) (o11 := p11) p1 vs v3 x1
  have e5 := same1_ok (o0 := o0) (o1 := some (1, d3)) (o2 := o2) (o7 := o7) (o8 := o8) (o9 := o9) (o10 := o10) (o11 := p11) p1 vs v3 x1
  obtain ⟨d', q7, q8, q9, q10, h6, e6⟩ := loop7 (o0 := o0) (o2 := o2) (o7 := o7) (o8 := o8) (o9 := o9) (o10 := o10) (o11 := p11) h3 g
  have c1 : dS (G fl23) [] (.asg 3 eDot) [o0, some (1, d), o2, o3, o4, o5, o6, o7, o8, o9, o10, o11] = .ok (.next, [o0, some (1, d1), o2, some (0, pdI p), o4, o5, o6, o7, o8, o9, o10, o11]) := by
    simp only [dS]
    rw [e_asg, e1, bind_ok]
    rfl
  have c2 : dS (G fl23) [] (.asg 4 eVec) [o0, some (1, d1), o2, some (0, pdI p), o4, o5, o6, o7, o8, o9, o10, o11] = .ok (.next, [o0, some (1, d2), o2, some (0, pdI p), some (0, .tuple (v.map pdI)), o5, o6, o7, o8, o9, o10, p11]) := by
    simp only [dS]
    rw [e_asg, e2, bind_ok]
    rfl
  have c3 : dS (G fl23) [] (.asg 5 eVal) [o0, some (1, d2), o2, some (0, pdI p), some (0, .tuple (v.map pdI)), o5, o6, o7, o8, o9, o10, p11] = .ok (.next, [o0, some (1, d3), o2, some (0, pdI p), some (0, .tuple (v.map pdI)), some (0, valD x), o6, o7, o8, o9, o10, p11]) := by
    simp only [dS]
    rw [e_asg, e3, bind_ok]
    rfl
  refine ⟨_, ?_, o0, d', o2, some (0, pdI p), some (0, .tuple (v.map pdI)), some (0, valD x), some (0, tsD p v x), q7, q8, q9, q10, p11, h6, rfl⟩
  have e6 : dS (G fl23) [] (.forr (.nm 7) (.rng1 (.int 3)) bCall) [o0, some (1, d3), o2, some (0, pdI p), some (0, .tuple (v.map pdI)), some (0, valD x), some (0, .list [.str (pdT p), .str (vecT v), .str (valT x)]), o7, o8, o9, o10, p11] = _ := e6
  unfold bTurn
  rw [dSs, dSs, dSs, dSs, dSs, dSs, dSs]
  rw [e_seq, c1, seqR_next, e_seq, c2, seqR_next, e_seq, c3, seqR_next, e_seq, e4, seqR_next, e_seq, e5, seqR_next, e_seq, e6, seqR_next]
  rfl
theorem l1 : rdAny 0 "8.1" = none := by show (rdDot "8.1").map pdI = none; rw [show rdDot "8.1" = none by decide +kernel]; rfl
theorem l2 : rdAny 0 "0.0" = none := by show (rdDot "0.0").map pdI = none; rw [show rdDot "0.0" = none by decide +kernel]; rfl
theorem l3 : rdAny 1 "" = none := by show (rdVec "").map (fun v => PyData.tuple (v.map pdI)) = none; rw [show rdVec "" = none by decide +kernel]; rfl
theorem l4 : rdAny 2 "" = none := by show (rdVal "").map valD = none; rw [show rdVal "" = none by decide +kernel]; rfl
theorem l5 : rdAny 1 "1.1,0.1" = none := by show (rdVec "1.1,0.1").map (fun v => PyData.tuple (v.map pdI)) = none; rw [show rdVec "1.1,0.1" = none by decide +kernel]; rfl
theorem law_val (ns : List Int) (hl : ns.length ≤ 63) : ∃ ps, F_law [(0, .list (ns.map .int))] = .ok (0, .bool true) ps := by
  obtain ⟨d, ps, hd, ok⟩ := draw_F ns hl
  obtain ⟨ε', e2, o0, d', o2, o3, o4, o5, o6, o7, o8, o9, o10, o11, ok', rfl⟩ := loop_inv (tg := TgA.tgt [] (.nm 2)) (b := dSs (G fl23) [] bTurn) (I := Row)
    ((List.range 6).map fun (k : Nat) => .int (k : Int)) [some (0, .list (ns.map .int)), some (1, d), none, none, none, none, none, none, none, none, none, none]
    (fun x hx ε ⟨o0, d, o2, o3, o4, o5, o6, o7, o8, o9, o10, o11, hd, e⟩ => by
      subst e
      obtain ⟨ε', h1, h2⟩ := turn_ok (ε := [o0, some (1, d), some (0, x), o3, o4, o5, o6, o7, o8, o9, o10, o11]) ⟨o0, d, some (0, x), o3, o4, o5, o6, o7, o8, o9, o10, o11, hd, rfl⟩
      exact ⟨_, ε', rfl, h1, h2⟩)
    ⟨some (0, .list (ns.map .int)), d, none, none, none, none, none, none, none, none, none, none, ok, rfl⟩
  have t9 : ∀ (c : Nat) (t : Str), c < 3 → t.length ≤ 500 → rdAny c t = none → ∃ ps, F__law_told [(0, .int (c : Int)), (0, .str t)] = .ok (0, .str "bad") ps := fun c t hc h e => by
    obtain ⟨ps, h⟩ := told_F c hc t h
    rw [e] at h
    exact ⟨ps, h⟩
  obtain ⟨q1, c1⟩ := t9 0 "8.1" (by decide) (by decide) l1
  obtain ⟨q2, c2⟩ := t9 0 "0.0" (by decide) (by decide) l2
  obtain ⟨q3, c3⟩ := t9 1 "" (by decide) (by decide) l3
  obtain ⟨q4, c4⟩ := t9 2 "" (by decide) (by decide) l4
  obtain ⟨q5, c5⟩ := t9 1 "1.1,0.1" (by decide) (by decide) l5
  have c1 : F__law_told [(0, .int 0), (0, .str "8.1")] = .ok (0, .str "bad") q1 := c1
  have c2 : F__law_told [(0, .int 0), (0, .str "0.0")] = .ok (0, .str "bad") q2 := c2
  have c3 : F__law_told [(0, .int 1), (0, .str "")] = .ok (0, .str "bad") q3 := c3
  have c4 : F__law_told [(0, .int 2), (0, .str "")] = .ok (0, .str "bad") q4 := c4
  have c5 : F__law_told [(0, .int 1), (0, .str "1.1,0.1")] = .ok (0, .str "bad") q5 := c5
  refine ⟨[none], ?_⟩
  have a1 : dS (G fl23) [] (.asg 1 (.call 11 (.val (.var 0) .nil))) [some (0, .list (ns.map .int)), none, none, none, none, none, none, none, none, none, none, none] = .ok (.next, [some (0, .list (ns.map .int)), some (1, d), none, none, none, none, none, none, none, none, none, none]) := by
    simp only [dSs, dS, den, denV, denR, denC, denO, denG, denJ, denOw, Den.val, BOp.F, COp.F, Bi.F, Me.F, TgA.tgt, bind_ok, bind_exc, bind_bad, opR_some, getR_some, varR_some, e_ixV, ixVR_some, truR_some, boolR_bool, andR_some, orR_some, itR_some, itemsOf, partR_int, e_var, e_varB, e_lit, e_op, e_op2, e_cons, e_nil, e_frz, e_tru, e_bool, e_seq, e_asg, e_expr, e_ret, e_retN, e_and, e_or, e_not, e_andT, e_orT, e_notT, e_if, e_un, e_m1, e_noPart, e_part, e_sl, e_only0, e_chain, chR_bool, e_str, e_jnil, e_jcons, strR_str, e_comp, e_in, e_rng1, e_enum, enR_list, e_next, e_brk, e_cont, e_ifS, e_for, e_par, e_ocons, e_asgT, e_app, e_setL, e_rais, e_cnil, e_cval, e_cown, e_callV, e_callO, callR_some, fresR_ok, fresR_exc, seqR_next, seqR_ret, seqR_exc, seqR_brk, seqR_cont, fin_ret, fin_next, fin_exc, List.getElem?_cons_zero, List.getElem?_cons_succ, List.set_cons_zero, List.set_cons_succ, List.map_cons, List.map_nil, List.nil_append, List.cons_append, List.all_cons, List.all_nil, List.contains_nil, Bool.or_self, Bool.and_self, Bool.or_false, Bool.false_or, Bool.or_true, Bool.true_or, Bool.and_true, Bool.true_and, Bool.and_false, Bool.false_and, Bool.not_true, Bool.not_false, or_true, true_or, and_true, true_and, if_true, if_false, ite_true, ite_false, Bool.false_eq_true, reduceCtorEq, isV, isS, get_nil, get_val, owns_n, owns_v, owns_o, Option.map_some, decide_true, decide_false, tru_bool, tru_list, tru_tup, ix_l, ix_t, int_i, abs_i, add_ii, len_l, len_t, lst_neg, tup_t, tup_l, List.length_cons, List.length_nil, Nat.zero_add, Nat.reduceAdd, eq_self, setAll_c, setAll_n, setEnts_c, setEnts_n, asgTR_tup, Nat.zero_le, Nat.le_refl, all_of, any_of, wipe_nil, wipe_cons, back_nil, back_cons, backO_some, keep0_none, keep0_val, mul_ii, e_compX, compEnd_ok, compEnd_exc, e_zip, zipK_l, zipK_t, isi_bool, isi_str, isi_tup, isi_int, PyData.isStr, PyData.isTuple, PyData.isInt, PyData.isBool, PyData.plain, eq_ii, ne_ii, lt_ii, le_ii, gt_ii, ge_ii, eq_ss, ne_ss, le_ss, gf_23_5, gf_23_7, gf_23_9, gf_23_11, gf_23_12, gf_23_13, gf_23_14, gf_23_15, gf_23_16, gf_23_18, gf_23_19, gf_23_20, gf_23_21, gf_23_22, hd]
  have a2 : dS (G fl23) [] (.forr (.nm 2) (.rng1 (.int 6)) bTurn) [some (0, .list (ns.map .int)), some (1, d), none, none, none, none, none, none, none, none, none, none] = _ := for_n (.nm 2) bTurn 6 6 rfl (by decide) _ _
  unfold F_law b_law
  simp only [e_run, List.length_cons, List.length_nil, if_true, List.map_cons, List.map_nil, List.cons_append, List.nil_append, List.replicate_succ, List.replicate_zero, Nat.reduceSub, Nat.reduceAdd]
  rw [← eDot, ← cCopy, ← eCopy, ← eVec, ← eVal, ← sTexts, ← sSame, ← sCall, ← sBent, ← sDue, ← sEnd, ← bBent, ← bCall, ← bTurn]
  rw [dSs, dSs]
  rw [e_seq, a1, seqR_next, e_seq, a2, e2, seqR_next]
  simp only [dSs, dS, den, denV, denR, denC, denO, denG, denJ, denOw, Den.val, BOp.F, COp.F, Bi.F, Me.F, TgA.tgt, bind_ok, bind_exc, bind_bad, opR_some, getR_some, varR_some, e_ixV, ixVR_some, truR_some, boolR_bool, andR_some, orR_some, itR_some, itemsOf, partR_int, e_var, e_varB, e_lit, e_op, e_op2, e_cons, e_nil, e_frz, e_tru, e_bool, e_seq, e_asg, e_expr, e_ret, e_retN, e_and, e_or, e_not, e_andT, e_orT, e_notT, e_if, e_un, e_m1, e_noPart, e_part, e_sl, e_only0, e_chain, chR_bool, e_str, e_jnil, e_jcons, strR_str, e_comp, e_in, e_rng1, e_enum, enR_list, e_next, e_brk, e_cont, e_ifS, e_for, e_par, e_ocons, e_asgT, e_app, e_setL, e_rais, e_cnil, e_cval, e_cown, e_callV, e_callO, callR_some, fresR_ok, fresR_exc, seqR_next, seqR_ret, seqR_exc, seqR_brk, seqR_cont, fin_ret, fin_next, fin_exc, List.getElem?_cons_zero, List.getElem?_cons_succ, List.set_cons_zero, List.set_cons_succ, List.map_cons, List.map_nil, List.nil_append, List.cons_append, List.all_cons, List.all_nil, List.contains_nil, Bool.or_self, Bool.and_self, Bool.or_false, Bool.false_or, Bool.or_true, Bool.true_or, Bool.and_true, Bool.true_and, Bool.and_false, Bool.false_and, Bool.not_true, Bool.not_false, or_true, true_or, and_true, true_and, if_true, if_false, ite_true, ite_false, Bool.false_eq_true, reduceCtorEq, isV, isS, get_nil, get_val, owns_n, owns_v, owns_o, Option.map_some, decide_true, decide_false, tru_bool, tru_list, tru_tup, ix_l, ix_t, int_i, abs_i, add_ii, len_l, len_t, lst_neg, tup_t, tup_l, List.length_cons, List.length_nil, Nat.zero_add, Nat.reduceAdd, eq_self, setAll_c, setAll_n, setEnts_c, setEnts_n, asgTR_tup, Nat.zero_le, Nat.le_refl, all_of, any_of, wipe_nil, wipe_cons, back_nil, back_cons, backO_some, keep0_none, keep0_val, mul_ii, e_compX, compEnd_ok, compEnd_exc, e_zip, zipK_l, zipK_t, isi_bool, isi_str, isi_tup, isi_int, PyData.isStr, PyData.isTuple, PyData.isInt, PyData.isBool, PyData.plain, eq_ii, ne_ii, lt_ii, le_ii, gt_ii, ge_ii, eq_ss, ne_ss, le_ss, gf_23_5, gf_23_7, gf_23_9, gf_23_11, gf_23_12, gf_23_13, gf_23_14, gf_23_15, gf_23_16, gf_23_18, gf_23_19, gf_23_20, gf_23_21, gf_23_22, c1, c2, c3, c4, c5]
  rfl
end K55
end

section
namespace K55
open PySem PySem.Spec PyProof.Rows L2 Mb
abbrev PP : Program := PySem.Challenge.pw_meetsagain_k55_dots_vectors_and_values_i
def dl : List He.DefD := [d_is_integer, d_is_copy, d_is_dot, d_is_vector, d_integer_in, d_dot_text, d_read_dot, d_vector_text, d_read_vector, d_value_text, d_read_value, d__law_draw, d__law_take, d__law_same, d__law_dot, d__law_vector, d__law_text, d__law_int, d__law_dot_in, d__law_vector_in, d__law_told, d__law_bent, d__law_any, d_law]
def nms : List Str := ["is_integer", "is_copy", "is_dot", "is_vector", "integer_in", "dot_text", "read_dot", "vector_text", "read_vector", "value_text", "read_value", "_law_draw", "_law_take", "_law_same", "_law_dot", "_law_vector", "_law_text", "_law_int", "_law_dot_in", "_law_vector_in", "_law_told", "_law_bent", "_law_any", "law"]
def rest (K : PySem.W.Frag) : Bool := badB PP K "BadForm"
def fi : List Str := ["BadForm"]
def clsBody : Stmt → List Stmt
  | .ClassDef (body := b) .. => b
  | _ => []
def ini : Stmt := (clsBody (top 2)).getD 0 (.Pass ⟨0, 0, 0, 0⟩)
def fv : List FnX := [fnXv "BadForm.__init__" (defArgs ini) (defBody ini) (defScope ini)]
def ex : PySem.W.Frag → Bool := exAll blts glbs nms rest
abbrev R : PySem.W.OpenRow := PySem.W.OpenLaw.row PySem.Challenge.rw_meetsagain_k55_dots_vectors_and_values_i
abbrev hk : PySem.W.Hook := hookX 5 dl fi fv ex
def ob (s : PySem.W.SharedT) : AlX := obsX 5 dl fi ex (HandSHeadRun.getT s)
theorem ob_eq (s : PySem.W.SharedT) : ob s = hk.obs s.abs := obsX_eq (HandSHeadRun.getT_eq s)
def lo0 : List Str := ["MeetingError", "BadForm", "MAX_COPIES", "DIGITS", "NONE", "is_integer", "is_copy", "is_dot", "is_vector", "integer_in", "dot_text", "read_dot", "vector_text", "read_vector", "value_text", "read_value", "_law_draw", "_law_take", "_law_same", "_law_dot", "_law_vector", "_law_text", "_law_int", "_law_dot_in", "_law_vector_in", "_law_told", "_law_bent", "_law_any"]
abbrev los : List Str := lo0
theorem run (w : World) : HandSHeadRun.RunEq R (PySem.W.view R.prog [33]) hk ob 3000 los w := by
  intro os
  kernel_rfl
section
variable {w : World} {K : PySem.W.Frag} {h : Heap} {mg : Str → Option Value} {base : Heap}
theorem bad_ok (X : K.In h) (G0 : h.Ns mainGlobals mg) (c : SaysX dl fi fv ex K) (hb : badB PP K "BadForm" = true) : ∃ q C f, BadTxt PP K mg "BadForm" q C f := by
  have e : fnXo K "BadForm" = fnXv "BadForm.__init__" (defArgs ini) (defBody ini) (defScope ini) := (List.cons.inj c.fx).1
  exact ⟨_, _, _, badB_ok X G0 hb e (by decide) (by decide) ⟨_, fun _ => rfl⟩⟩
theorem gm0 (X : K.In h) (G0 : h.Ns mainGlobals mg) (c : SaysX dl fi fv ex K) : GmOk PP w K mg base 0 (G fl0) := by
  have a := exAll_ok c.ex
  refine gm_nil (fun x hx => freeB_ok X G0 (a.blt x (by simpa using hx))) (fun q hq => glbB_ok X G0 (a.glb q hq)) fun q hq Y e1 e2 e3 e4 hr => ?_
  have r := a.rest
  simp only [rest, Bool.and_eq_true] at r
  simp only [exss, List.mem_cons, List.not_mem_nil, or_false] at hq
  subst hq
  · obtain ⟨q, C, f, T⟩ := bad_ok X G0 c r
    exact ex_line (k := 0) (p := ⟨K, mg⟩) (X := Y) (by rw [e1, e3, e4]; exact T) e3 e4 hr
theorem gm1 (X : K.In h) (G0 : h.Ns mainGlobals mg) (c : SaysX dl fi fv ex K) : GmOk PP w K mg base 1 (G fl1) := by
  obtain ⟨fd, D⟩ := c.def_ 0 (d := d_is_integer) rfl
  have a := exAll_ok c.ex
  exact gm_snoc (gm0 X G0 c) D s_is_integer c_is_integer (gloB_ok X G0 (a.fns "is_integer" (by simp [nms]))) (D.bindsN fun _ _ _ _ _ _ us hl => match us, hl with | [_, _, _], _ => rfl) rfl
theorem gm2 (X : K.In h) (G0 : h.Ns mainGlobals mg) (c : SaysX dl fi fv ex K) : GmOk PP w K mg base 2 (G fl2) := by
  obtain ⟨fd, D⟩ := c.def_ 1 (d := d_is_copy) rfl
  have a := exAll_ok c.ex
  exact gm_snoc (gm1 X G0 c) D s_is_copy c_is_copy (gloB_ok X G0 (a.fns "is_copy" (by simp [nms]))) (D.bindsN fun _ _ _ _ _ _ us hl => match us, hl with | [_], _ => rfl) rfl
theorem gm3 (X : K.In h) (G0 : h.Ns mainGlobals mg) (c : SaysX dl fi fv ex K) : GmOk PP w K mg base 3 (G fl3) := by
  obtain ⟨fd, D⟩ := c.def_ 2 (d := d_is_dot) rfl
  have a := exAll_ok c.ex
  exact gm_snoc (gm2 X G0 c) D s_is_dot c_is_dot (gloB_ok X G0 (a.fns "is_dot" (by simp [nms]))) (D.bindsN fun _ _ _ _ _ _ us hl => match us, hl with | [_], _ => rfl) rfl
theorem gm4 (X : K.In h) (G0 : h.Ns mainGlobals mg) (c : SaysX dl fi fv ex K) : GmOk PP w K mg base 4 (G fl4) := by
  obtain ⟨fd, D⟩ := c.def_ 3 (d := d_is_vector) rfl
  have a := exAll_ok c.ex
  exact gm_snoc (gm3 X G0 c) D s_is_vector c_is_vector (gloB_ok X G0 (a.fns "is_vector" (by simp [nms]))) (D.bindsN fun _ _ _ _ _ _ us hl => match us, hl with | [_], _ => rfl) rfl
theorem gm5 (X : K.In h) (G0 : h.Ns mainGlobals mg) (c : SaysX dl fi fv ex K) : GmOk PP w K mg base 5 (G fl5) := by
  obtain ⟨fd, D⟩ := c.def_ 4 (d := d_integer_in) rfl
  have a := exAll_ok c.ex
  exact gm_snoc (gm4 X G0 c) D s_integer_in c_integer_in (gloB_ok X G0 (a.fns "integer_in" (by simp [nms]))) (D.bindsN fun _ _ _ _ _ _ us hl => match us, hl with | [_], _ => rfl) rfl
theorem gm6 (X : K.In h) (G0 : h.Ns mainGlobals mg) (c : SaysX dl fi fv ex K) : GmOk PP w K mg base 6 (G fl6) := by
  obtain ⟨fd, D⟩ := c.def_ 5 (d := d_dot_text) rfl
  have a := exAll_ok c.ex
  exact gm_snoc (gm5 X G0 c) D s_dot_text c_dot_text (gloB_ok X G0 (a.fns "dot_text" (by simp [nms]))) (D.bindsN fun _ _ _ _ _ _ us hl => match us, hl with | [_], _ => rfl) rfl
theorem gm7 (X : K.In h) (G0 : h.Ns mainGlobals mg) (c : SaysX dl fi fv ex K) : GmOk PP w K mg base 7 (G fl7) := by
  obtain ⟨fd, D⟩ := c.def_ 6 (d := d_read_dot) rfl
  have a := exAll_ok c.ex
  exact gm_snoc (gm6 X G0 c) D s_read_dot c_read_dot (gloB_ok X G0 (a.fns "read_dot" (by simp [nms]))) (D.bindsN fun _ _ _ _ _ _ us hl => match us, hl with | [_], _ => rfl) rfl
theorem gm8 (X : K.In h) (G0 : h.Ns mainGlobals mg) (c : SaysX dl fi fv ex K) : GmOk PP w K mg base 8 (G fl8) := by
  obtain ⟨fd, D⟩ := c.def_ 7 (d := d_vector_text) rfl
  have a := exAll_ok c.ex
  exact gm_snoc (gm7 X G0 c) D s_vector_text c_vector_text (gloB_ok X G0 (a.fns "vector_text" (by simp [nms]))) (D.bindsN fun _ _ _ _ _ _ us hl => match us, hl with | [_], _ => rfl) rfl
theorem gm9 (X : K.In h) (G0 : h.Ns mainGlobals mg) (c : SaysX dl fi fv ex K) : GmOk PP w K mg base 9 (G fl9) := by
  obtain ⟨fd, D⟩ := c.def_ 8 (d := d_read_vector) rfl
  have a := exAll_ok c.ex
  exact gm_snoc (gm8 X G0 c) D s_read_vector c_read_vector (gloB_ok X G0 (a.fns "read_vector" (by simp [nms]))) (D.bindsN fun _ _ _ _ _ _ us hl => match us, hl with | [_], _ => rfl) rfl
theorem gm10 (X : K.In h) (G0 : h.Ns mainGlobals mg) (c : SaysX dl fi fv ex K) : GmOk PP w K mg base 10 (G fl10) := by
  obtain ⟨fd, D⟩ := c.def_ 9 (d := d_value_text) rfl
  have a := exAll_ok c.ex
  exact gm_snoc (gm9 X G0 c) D s_value_text c_value_text (gloB_ok X G0 (a.fns "value_text" (by simp [nms]))) (D.bindsN fun _ _ _ _ _ _ us hl => match us, hl with | [_], _ => rfl) rfl
theorem gm11 (X : K.In h) (G0 : h.Ns mainGlobals mg) (c : SaysX dl fi fv ex K) : GmOk PP w K mg base 11 (G fl11) := by
  obtain ⟨fd, D⟩ := c.def_ 10 (d := d_read_value) rfl
  have a := exAll_ok c.ex
  exact gm_snoc (gm10 X G0 c) D s_read_value c_read_value (gloB_ok X G0 (a.fns "read_value" (by simp [nms]))) (D.bindsN fun _ _ _ _ _ _ us hl => match us, hl with | [_], _ => rfl) rfl
theorem gm12 (X : K.In h) (G0 : h.Ns mainGlobals mg) (c : SaysX dl fi fv ex K) : GmOk PP w K mg base 12 (G fl12) := by
  obtain ⟨fd, D⟩ := c.def_ 11 (d := d__law_draw) rfl
  have a := exAll_ok c.ex
  exact gm_snoc (gm11 X G0 c) D s__law_draw c__law_draw (gloB_ok X G0 (a.fns "_law_draw" (by simp [nms]))) (D.bindsN fun _ _ _ _ _ _ us hl => match us, hl with | [_], _ => rfl) rfl
theorem gm13 (X : K.In h) (G0 : h.Ns mainGlobals mg) (c : SaysX dl fi fv ex K) : GmOk PP w K mg base 13 (G fl13) := by
  obtain ⟨fd, D⟩ := c.def_ 12 (d := d__law_take) rfl
  have a := exAll_ok c.ex
  exact gm_snoc (gm12 X G0 c) D s__law_take c__law_take (gloB_ok X G0 (a.fns "_law_take" (by simp [nms]))) (D.bindsN fun _ _ _ _ _ _ us hl => match us, hl with | [_, _], _ => rfl) rfl
theorem gm14 (X : K.In h) (G0 : h.Ns mainGlobals mg) (c : SaysX dl fi fv ex K) : GmOk PP w K mg base 14 (G fl14) := by
  obtain ⟨fd, D⟩ := c.def_ 13 (d := d__law_same) rfl
  have a := exAll_ok c.ex
  exact gm_snoc (gm13 X G0 c) D s__law_same c__law_same (gloB_ok X G0 (a.fns "_law_same" (by simp [nms]))) (D.bindsN fun _ _ _ _ _ _ us hl => match us, hl with | [_, _], _ => rfl) rfl
theorem gm15 (X : K.In h) (G0 : h.Ns mainGlobals mg) (c : SaysX dl fi fv ex K) : GmOk PP w K mg base 15 (G fl15) := by
  obtain ⟨fd, D⟩ := c.def_ 14 (d := d__law_dot) rfl
  have a := exAll_ok c.ex
  exact gm_snoc (gm14 X G0 c) D s__law_dot c__law_dot (gloB_ok X G0 (a.fns "_law_dot" (by simp [nms]))) (D.bindsN fun _ _ _ _ _ _ us hl => match us, hl with | [_], _ => rfl) rfl
theorem gm16 (X : K.In h) (G0 : h.Ns mainGlobals mg) (c : SaysX dl fi fv ex K) : GmOk PP w K mg base 16 (G fl16) := by
  obtain ⟨fd, D⟩ := c.def_ 15 (d := d__law_vector) rfl
  have a := exAll_ok c.ex
  exact gm_snoc (gm15 X G0 c) D s__law_vector c__law_vector (gloB_ok X G0 (a.fns "_law_vector" (by simp [nms]))) (D.bindsN fun _ _ _ _ _ _ us hl => match us, hl with | [_], _ => rfl) rfl
theorem gm17 (X : K.In h) (G0 : h.Ns mainGlobals mg) (c : SaysX dl fi fv ex K) : GmOk PP w K mg base 17 (G fl17) := by
  obtain ⟨fd, D⟩ := c.def_ 16 (d := d__law_text) rfl
  have a := exAll_ok c.ex
  exact gm_snoc (gm16 X G0 c) D s__law_text c__law_text (gloB_ok X G0 (a.fns "_law_text" (by simp [nms]))) (D.bindsN fun _ _ _ _ _ _ us hl => match us, hl with | [_], _ => rfl) rfl
theorem gm18 (X : K.In h) (G0 : h.Ns mainGlobals mg) (c : SaysX dl fi fv ex K) : GmOk PP w K mg base 18 (G fl18) := by
  obtain ⟨fd, D⟩ := c.def_ 17 (d := d__law_int) rfl
  have a := exAll_ok c.ex
  exact gm_snoc (gm17 X G0 c) D s__law_int c__law_int (gloB_ok X G0 (a.fns "_law_int" (by simp [nms]))) (D.bindsN fun _ _ _ _ _ _ us hl => match us, hl with | [_], _ => rfl) rfl
theorem gm19 (X : K.In h) (G0 : h.Ns mainGlobals mg) (c : SaysX dl fi fv ex K) : GmOk PP w K mg base 19 (G fl19) := by
  obtain ⟨fd, D⟩ := c.def_ 18 (d := d__law_dot_in) rfl
  have a := exAll_ok c.ex
  exact gm_snoc (gm18 X G0 c) D s__law_dot_in c__law_dot_in (gloB_ok X G0 (a.fns "_law_dot_in" (by simp [nms]))) (D.bindsN fun _ _ _ _ _ _ us hl => match us, hl with | [_], _ => rfl) rfl
theorem gm20 (X : K.In h) (G0 : h.Ns mainGlobals mg) (c : SaysX dl fi fv ex K) : GmOk PP w K mg base 20 (G fl20) := by
  obtain ⟨fd, D⟩ := c.def_ 19 (d := d__law_vector_in) rfl
  have a := exAll_ok c.ex
  exact gm_snoc (gm19 X G0 c) D s__law_vector_in c__law_vector_in (gloB_ok X G0 (a.fns "_law_vector_in" (by simp [nms]))) (D.bindsN fun _ _ _ _ _ _ us hl => match us, hl with | [_], _ => rfl) rfl
theorem gm21 (X : K.In h) (G0 : h.Ns mainGlobals mg) (c : SaysX dl fi fv ex K) : GmOk PP w K mg base 21 (G fl21) := by
  obtain ⟨fd, D⟩ := c.def_ 20 (d := d__law_told) rfl
  have a := exAll_ok c.ex
  exact gm_snoc (gm20 X G0 c) D s__law_told c__law_told (gloB_ok X G0 (a.fns "_law_told" (by simp [nms]))) (D.bindsN fun _ _ _ _ _ _ us hl => match us, hl with | [_, _], _ => rfl) rfl
theorem gm22 (X : K.In h) (G0 : h.Ns mainGlobals mg) (c : SaysX dl fi fv ex K) : GmOk PP w K mg base 22 (G fl22) := by
  obtain ⟨fd, D⟩ := c.def_ 21 (d := d__law_bent) rfl
  have a := exAll_ok c.ex
  exact gm_snoc (gm21 X G0 c) D s__law_bent c__law_bent (gloB_ok X G0 (a.fns "_law_bent" (by simp [nms]))) (D.bindsN fun _ _ _ _ _ _ us hl => match us, hl with | [_, _], _ => rfl) rfl
theorem gm23 (X : K.In h) (G0 : h.Ns mainGlobals mg) (c : SaysX dl fi fv ex K) : GmOk PP w K mg base 23 (G fl23) := by
  obtain ⟨fd, D⟩ := c.def_ 22 (d := d__law_any) rfl
  have a := exAll_ok c.ex
  exact gm_snoc (gm22 X G0 c) D s__law_any c__law_any (gloB_ok X G0 (a.fns "_law_any" (by simp [nms]))) (D.bindsN fun _ _ _ _ _ _ us hl => match us, hl with | [_], _ => rfl) rfl
theorem law_fn (X : K.In h) (G0 : h.Ns mainGlobals mg) (c : SaysX dl fi fv ex K) : ∃ fd : FuncData, mg "law" = some (.ref (He.ga K "law")) ∧ (∀ (s : Shared) (u : Value), BindsTo s fd ⟨[u], []⟩ [("script", u)]) ∧ ∀ base : Heap, FnG PP w K mg base 24 (He.ga K "law") fd ["script"] (spF ⟨K, mg⟩ F_law) := by
  obtain ⟨fd, D⟩ := c.def_ 23 (d := d_law) rfl
  have a := exAll_ok c.ex
  have b := FunD.bindsA (ps := ["script"]) D fun _ _ _ _ _ _ us hl => match us, hl with | [_], _ => rfl
  refine ⟨fd, gloB_ok X G0 (a.fns "law" (by simp [nms])), fun s u => b s [u] rfl, fun base => ?_⟩
  exact fnG_d D s_law srtR (gm23 X G0 c) c_law
end
end K55
open PySem PySem.W PySem.Calls PyProof.Rows
theorem PySem.Challenge.cw_meetsagain_k55_dots_vectors_and_values_i_holds : PySem.Challenge.rw_meetsagain_k55_dots_vectors_and_values_i.Holds := by
  w_on; o_law
  refine HandSHeadRun.head_any (r := OpenLaw.row PySem.Challenge.rw_meetsagain_k55_dots_vectors_and_values_i) (q := view (OpenLaw.row PySem.Challenge.rw_meetsagain_k55_dots_vectors_and_values_i).prog [33]) (H := K55.hk) (ob := K55.ob) (M := 3000) (loose := K55.los) (d := HandSHeadRun.topDef (OpenLaw.row PySem.Challenge.rw_meetsagain_k55_dots_vectors_and_values_i).prog 33) (kwd := []) K55.ob_eq
    (by kernel_rfl) (fun s => by kernel_rfl) K55.run (by kernel_rfl) (by kernel_rfl) (by kernel_rfl) (by rfl) (by first | assumption | decide +kernel) (by decide +kernel) ⟨rfl, rfl, rfl, rfl, rfl, by decide +kernel⟩ ?hw ?hc
  case hw => w_witness2
  case hc =>
    refine Mb.walkG (l := PySem.Challenge.rw_meetsagain_k55_dots_vectors_and_values_i) (n := 63) (k := 24) (x := "script") rfl (by decide) (by kernel_rfl) ⟨rfl, by decide, by decide⟩ ?F
    intro w mg fa h Y G0 hmg0
    obtain ⟨K, KX, c⟩ := Y
    obtain ⟨fd, hm, hb, hF⟩ := K55.law_fn (w := w) KX G0 c
    have hmg : mg ("law" : PySem.Str) = some (.ref fa) := by
      have e : (HandSHeadRun.topDef (OpenLaw.row PySem.Challenge.rw_meetsagain_k55_dots_vectors_and_values_i).prog 33).name = ("law" : PySem.Str) := by kernel_rfl
      rw [← e]
      exact hmg0
    have e := hm.symm.trans hmg
    cases e
    exact ⟨K, fd, K55.F_law, KX, Mb.notL_ok (Mb.exAll_ok c.ex).notL, hb, K55.law_val, fun base _ _ => hF base⟩
end
