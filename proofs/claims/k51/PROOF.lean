import PyProof.Rows.All
import HandS.ForMost
import HandS.TupAny
import HandS.TupLe
import HandS.Deep
import HandS.Style
import HandS.Wide
import HandS.Flow
import HandS.IsInst
import HandS.SortInts
import HandS.TupMul
import HandS.SortRule
import HandS.Zip
import KE.LtData
import KE.SortData
import KE.DataMinMax
import PySem.Challenge.RW_farcall_k51_phrases_and_marks
set_option Elab.async false
set_option linter.all false
set_option maxRecDepth 100000
set_option maxHeartbeats 4000000
namespace TL
open PySem PySem.Spec PyProof.Rows L2

/-! ### data as trees -/
inductive D where
  | non | bl (b : Bool) | int (i : Int) | str (s : Str)
  | tup (l : List D) | lst (l : List D) | dct (l : List (D × D)) | set (l : List D) | obj (c : Str) (l : List (Str × D)) | scr (ns : List Int)
  deriving Inhabited

def keyD : Key → D
  | .inl i => .int i
  | .inr s => .str s
def keysD (k : List Key) : D := .tup (k.map keyD)

/-! ### what is kept apart -/
def hide (S : List Addr) (H : Hp) : Hp := fun a => if a ∈ S then none else H a
def Le (G G' : Hp) : Prop := ∀ a o, G a = some o → G' a = some o
theorem Le.refl (G : Hp) : Le G G := fun _ _ h => h
theorem Le.trans {A B C : Hp} (h : Le A B) (k : Le B C) : Le A C := fun a o e => k a o (h a o e)
theorem hide_le (S : List Addr) (H : Hp) : Le (hide S H) H := fun a o e => by
  unfold hide at e
  by_cases h : a ∈ S
  · simp [h] at e
  · simpa [h] using e
theorem hide_some {S : List Addr} {H : Hp} {a : Addr} {o : HO} : hide S H a = some o ↔ a ∉ S ∧ H a = some o := by
  unfold hide
  by_cases h : a ∈ S <;> simp [h]
theorem hide_mono {S S' : List Addr} {H H' : Hp} (hS : ∀ a o, a ∉ S → H a = some o → a ∉ S' ∧ H' a = some o) : Le (hide S H) (hide S' H') := fun a o e => by
  rw [hide_some] at e ⊢
  exact hS a o e.1 e.2
theorem Le.seqT {K : PySem.W.Frag} {G G' : Hp} {a : Addr} {xs : List V} (e : Le G G') (h : SqT K G a xs) : SqT K G' a xs := by
  rcases h with (h | ⟨o, h⟩) | h
  · exact .inl (.inl (e _ _ h))
  · exact .inl (.inr ⟨o, e _ _ h⟩)
  · exact .inr h

theorem Le.seqL {K : PySem.W.Frag} {G G' : Hp} {a : Addr} {xs : List V} (e : Le G G') (h : SqL K G a xs) : SqL K G' a xs := by
  rcases h with (h | ⟨o, h⟩) | h
  · exact .inl (.inl (e _ _ h))
  · exact .inl (.inr ⟨o, e _ _ h⟩)
  · exact .inr h

/-! ### frozen trees -/
mutual
inductive Rf (K : PySem.W.Frag) (mg : Str → Option Value) (G : Hp) : D → V → Prop
  | non : Rf K mg G .non .non
  | bl (b : Bool) : Rf K mg G (.bl b) (.bl b)
  | int (i : Int) : Rf K mg G (.int i) (.int i)
  | str (s : Str) : Rf K mg G (.str s) (.str s)
  | tup {a : Addr} {vs : List V} {ds : List D} : SqT K G a vs → Rfs K mg G ds vs → Rf K mg G (.tup ds) (.ref a)
  | lst {a : Addr} {vs : List V} {ds : List D} : G a = some (.lst vs) → Rfs K mg G ds vs → Rf K mg G (.lst ds) (.ref a)
  | dK {a : Addr} {kvs : List (Key × V)} {kds : List (D × D)} : G a = some (.dK kvs) → kds.map (·.1) = kvs.map (fun p => keyD p.1) → Rfs K mg G (kds.map (·.2)) (kvs.map (·.2)) → Rf K mg G (.dct kds) (.ref a)
  | dT {a : Addr} {kvs : List (List Key × V)} {kds : List (D × D)} : G a = some (.dT kvs) → kds.map (·.1) = kvs.map (fun p => keysD p.1) → Rfs K mg G (kds.map (·.2)) (kvs.map (·.2)) → Rf K mg G (.dct kds) (.ref a)
  | obj {a C dx : Addr} {fvs : List (Str × V)} {fds : List (Str × D)} {c : Str} : mg c = some (.ref C) → G a = some (.ins C dx fvs) → fds.map (·.1) = fvs.map (·.1) → Rfs K mg G (fds.map (·.2)) (fvs.map (·.2)) → Rf K mg G (.obj c fds) (.ref a)
  | scr {a : Addr} {ns : List Int} : SqL K G a (ns.map V.int) → Rf K mg G (.scr ns) (.ref a)
inductive Rfs (K : PySem.W.Frag) (mg : Str → Option Value) (G : Hp) : List D → List V → Prop
  | nil : Rfs K mg G [] []
  | cons {d : D} {v : V} {ds : List D} {vs : List V} : Rf K mg G d v → Rfs K mg G ds vs → Rfs K mg G (d :: ds) (v :: vs)
end

section
variable {K : PySem.W.Frag} {mg : Str → Option Value} {G G' : Hp}
mutual
theorem Rf.mono (e : Le G G') : ∀ {d : D} {v : V}, Rf K mg G d v → Rf K mg G' d v
  | _, _, .non => .non
  | _, _, .bl b => .bl b
  | _, _, .int i => .int i
  | _, _, .str s => .str s
  | _, _, .tup h r => .tup (e.seqT h) (Rfs.mono e r)
  | _, _, .lst h r => .lst (e _ _ h) (Rfs.mono e r)
  | _, _, .dK h k r => .dK (e _ _ h) k (Rfs.mono e r)
  | _, _, .dT h k r => .dT (e _ _ h) k (Rfs.mono e r)
  | _, _, .obj m h k r => .obj m (e _ _ h) k (Rfs.mono e r)
  | _, _, .scr h => .scr (e.seqL h)
theorem Rfs.mono (e : Le G G') : ∀ {ds : List D} {vs : List V}, Rfs K mg G ds vs → Rfs K mg G' ds vs
  | _, _, .nil => .nil
  | _, _, .cons h r => .cons (Rf.mono e h) (Rfs.mono e r)
end
theorem Rfs.length : ∀ {ds : List D} {vs : List V}, Rfs K mg G ds vs → ds.length = vs.length
  | _, _, .nil => rfl
  | _, _, .cons _ r => congrArg (· + 1) (Rfs.length r)
theorem Rfs.get : ∀ {ds : List D} {vs : List V} {i : Nat} {d : D}, Rfs K mg G ds vs → ds[i]? = some d → ∃ v, vs[i]? = some v ∧ Rf K mg G d v
  | _, _, 0, _, .cons h _, e => ⟨_, rfl, by simpa using (Option.some.inj e) ▸ h⟩
  | _, _, i + 1, _, .cons _ r, e => Rfs.get (i := i) r (by simpa using e)
  | _, _, _, _, .nil, e => by simp at e
theorem Rfs.get' {ds : List D} {vs : List V} {i : Nat} {v : V} (r : Rfs K mg G ds vs) (e : vs[i]? = some v) : ∃ d, ds[i]? = some d ∧ Rf K mg G d v := by
  have hl := r.length
  have hi : i < ds.length := by
    have := (List.getElem?_eq_some_iff.mp e).1
    omega
  obtain ⟨v', e', q⟩ := Rfs.get r (List.getElem?_eq_getElem hi)
  rw [e] at e'; cases e'
  exact ⟨_, List.getElem?_eq_getElem hi, q⟩
theorem Rfs.append : ∀ {ds es : List D} {vs ws : List V}, Rfs K mg G ds vs → Rfs K mg G es ws → Rfs K mg G (ds ++ es) (vs ++ ws)
  | _, _, _, _, .nil, s => s
  | _, _, _, _, .cons h r, s => .cons h (Rfs.append r s)
theorem Rfs.take : ∀ {ds : List D} {vs : List V} (n : Nat), Rfs K mg G ds vs → Rfs K mg G (ds.take n) (vs.take n)
  | _, _, 0, _ => by simpa using Rfs.nil
  | _, _, _ + 1, .nil => .nil
  | _, _, n + 1, .cons h r => .cons h (Rfs.take n r)
theorem Rfs.drop : ∀ {ds : List D} {vs : List V} (n : Nat), Rfs K mg G ds vs → Rfs K mg G (ds.drop n) (vs.drop n)
  | _, _, 0, r => r
  | _, _, _ + 1, .nil => .nil
  | _, _, n + 1, .cons _ r => Rfs.drop n r
theorem Rfs.set : ∀ {ds : List D} {vs : List V} {d : D} {v : V} (i : Nat), Rfs K mg G ds vs → Rf K mg G d v → Rfs K mg G (ds.set i d) (vs.set i v)
  | _, _, _, _, _, .nil, _ => .nil
  | _, _, _, _, 0, .cons _ r, h => .cons h r
  | _, _, _, _, i + 1, .cons q r, h => .cons q (Rfs.set i r h)
theorem Rfs.one {d : D} {v : V} (h : Rf K mg G d v) : Rfs K mg G [d] [v] := .cons h .nil
theorem Rfs.reverse : ∀ {ds : List D} {vs : List V}, Rfs K mg G ds vs → Rfs K mg G ds.reverse vs.reverse
  | _, _, .nil => .nil
  | _, _, .cons h r => by
    rw [List.reverse_cons, List.reverse_cons]
    exact (Rfs.reverse r).append (.one h)
theorem Rfs.rep {ds : List D} {vs : List V} (h : Rfs K mg G ds vs) : ∀ n : Nat, Rfs K mg G (List.replicate n ds).flatten (List.replicate n vs).flatten
  | 0 => .nil
  | n + 1 => by
    rw [List.replicate_succ, List.replicate_succ, List.flatten_cons, List.flatten_cons]
    exact h.append (Rfs.rep h n)
theorem Rfs.ints : ∀ {ns : List Int} {vs : List V}, Rfs K mg G (ns.map D.int) vs → vs = ns.map V.int
  | [], _, .nil => rfl
  | _ :: _, _, .cons (.int _) r => congrArg _ (Rfs.ints r)
theorem Rfs.of_ints : ∀ (ns : List Int), Rfs K mg G (ns.map D.int) (ns.map V.int)
  | [] => .nil
  | n :: r => .cons (.int n) (Rfs.of_ints r)
theorem Rfs.bls : ∀ {ns : List Bool} {vs : List V}, Rfs K mg G (ns.map D.bl) vs → vs = ns.map V.bl
  | [], _, .nil => rfl
  | _ :: _, _, .cons (.bl _) r => congrArg _ (Rfs.bls r)
end

/-! ### kinds of slots; trees with owned parts -/
inductive Ty where
  | no | sh | oL (t : Ty) | oK (t : Ty) | oT (t : Ty) | oO (c : Str) (l : List Ty)
  deriving Inhabited

mutual
inductive Rp (K : PySem.W.Frag) (mg : Str → Option Value) (H G : Hp) : Ty → D → V → List Addr → Prop
  | sh {d : D} {v : V} : Rf K mg G d v → Rp K mg H G .sh d v []
  | oL {t : Ty} {a : Addr} {vs : List V} {ds : List D} {f : List Addr} : H a = some (.lst vs) → Rps K mg H G (List.replicate ds.length t) ds vs f → Rp K mg H G (.oL t) (.lst ds) (.ref a) (a :: f)
  | oK {t : Ty} {a : Addr} {kvs : List (Key × V)} {kds : List (D × D)} {f : List Addr} : H a = some (.dK kvs) → kds.map (·.1) = kvs.map (fun p => keyD p.1) →
      Rps K mg H G (List.replicate kds.length t) (kds.map (·.2)) (kvs.map (·.2)) f → Rp K mg H G (.oK t) (.dct kds) (.ref a) (a :: f)
  | oT {t : Ty} {a : Addr} {kvs : List (List Key × V)} {kds : List (D × D)} {f : List Addr} : H a = some (.dT kvs) → kds.map (·.1) = kvs.map (fun p => keysD p.1) →
      Rps K mg H G (List.replicate kds.length t) (kds.map (·.2)) (kvs.map (·.2)) f → Rp K mg H G (.oT t) (.dct kds) (.ref a) (a :: f)
  | oO {ts : List Ty} {a C dx : Addr} {fvs : List (Str × V)} {fds : List (Str × D)} {c : Str} {f : List Addr} : mg c = some (.ref C) → H a = some (.ins C dx fvs) → fds.map (·.1) = fvs.map (·.1) →
      Rps K mg H G ts (fds.map (·.2)) (fvs.map (·.2)) f → Rp K mg H G (.oO c ts) (.obj c fds) (.ref a) (a :: f)
inductive Rps (K : PySem.W.Frag) (mg : Str → Option Value) (H G : Hp) : List Ty → List D → List V → List Addr → Prop
  | nil : Rps K mg H G [] [] [] []
  | cons {t : Ty} {d : D} {v : V} {f g : List Addr} {ts : List Ty} {ds : List D} {vs : List V} : Rp K mg H G t d v f → Rps K mg H G ts ds vs g → Rps K mg H G (t :: ts) (d :: ds) (v :: vs) (f ++ g)
end

section
variable {K : PySem.W.Frag} {mg : Str → Option Value} {H H' G G' : Hp}
mutual
theorem Rp.mono (e : Le G G') : ∀ {t : Ty} {d : D} {v : V} {f : List Addr}, (∀ a ∈ f, H' a = H a) → Rp K mg H G t d v f → Rp K mg H' G' t d v f
  | _, _, _, _, _, .sh r => .sh (r.mono e)
  | _, _, _, _, k, .oL h r => .oL ((k _ (by simp)).trans h) (Rps.mono e (fun a ha => k a (List.mem_cons_of_mem _ ha)) r)
  | _, _, _, _, k, .oK h n r => .oK ((k _ (by simp)).trans h) n (Rps.mono e (fun a ha => k a (List.mem_cons_of_mem _ ha)) r)
  | _, _, _, _, k, .oT h n r => .oT ((k _ (by simp)).trans h) n (Rps.mono e (fun a ha => k a (List.mem_cons_of_mem _ ha)) r)
  | _, _, _, _, k, .oO m h n r => .oO m ((k _ (by simp)).trans h) n (Rps.mono e (fun a ha => k a (List.mem_cons_of_mem _ ha)) r)
theorem Rps.mono (e : Le G G') : ∀ {ts : List Ty} {ds : List D} {vs : List V} {f : List Addr}, (∀ a ∈ f, H' a = H a) → Rps K mg H G ts ds vs f → Rps K mg H' G' ts ds vs f
  | _, _, _, _, _, .nil => .nil
  | _, _, _, _, k, .cons h r => .cons (Rp.mono e (fun a ha => k a (List.mem_append_left _ ha)) h) (Rps.mono e (fun a ha => k a (List.mem_append_right _ ha)) r)
end
mutual
/-- the owned parts given away: a frozen tree -/
theorem Rp.frz (e : Le G G') : ∀ {t : Ty} {d : D} {v : V} {f : List Addr}, (∀ a ∈ f, ∀ o, H a = some o → G' a = some o) → Rp K mg H G t d v f → Rf K mg G' d v
  | _, _, _, _, _, .sh r => r.mono e
  | _, _, _, _, k, .oL h r => .lst (k _ (by simp) _ h) (Rps.frz e (fun a ha => k a (List.mem_cons_of_mem _ ha)) r)
  | _, _, _, _, k, .oK h n r => .dK (k _ (by simp) _ h) n (Rps.frz e (fun a ha => k a (List.mem_cons_of_mem _ ha)) r)
  | _, _, _, _, k, .oT h n r => .dT (k _ (by simp) _ h) n (Rps.frz e (fun a ha => k a (List.mem_cons_of_mem _ ha)) r)
  | _, _, _, _, k, .oO m h n r => .obj m (k _ (by simp) _ h) n (Rps.frz e (fun a ha => k a (List.mem_cons_of_mem _ ha)) r)
theorem Rps.frz (e : Le G G') : ∀ {ts : List Ty} {ds : List D} {vs : List V} {f : List Addr}, (∀ a ∈ f, ∀ o, H a = some o → G' a = some o) → Rps K mg H G ts ds vs f → Rfs K mg G' ds vs
  | _, _, _, _, _, .nil => .nil
  | _, _, _, _, k, .cons h r => .cons (Rp.frz e (fun a ha => k a (List.mem_append_left _ ha)) h) (Rps.frz e (fun a ha => k a (List.mem_append_right _ ha)) r)
end
/-- what may stand at an owned address -/
def Own : HO → Prop
  | .lst _ => True
  | .dK _ => True
  | .dT _ => True
  | .ins _ _ _ => True
  | _ => False
mutual
theorem Rp.there : ∀ {t : Ty} {d : D} {v : V} {f : List Addr}, Rp K mg H G t d v f → ∀ a ∈ f, ∃ o, H a = some o ∧ Own o
  | _, _, _, _, .sh _, _, h => nomatch h
  | _, _, _, _, .oL h r, a, ha => (List.mem_cons.mp ha).elim (fun z => by subst z; exact ⟨_, h, trivial⟩) (Rps.there r a)
  | _, _, _, _, .oK h n r, a, ha => (List.mem_cons.mp ha).elim (fun z => by subst z; exact ⟨_, h, trivial⟩) (Rps.there r a)
  | _, _, _, _, .oT h n r, a, ha => (List.mem_cons.mp ha).elim (fun z => by subst z; exact ⟨_, h, trivial⟩) (Rps.there r a)
  | _, _, _, _, .oO m h n r, a, ha => (List.mem_cons.mp ha).elim (fun z => by subst z; exact ⟨_, h, trivial⟩) (Rps.there r a)
theorem Rps.there : ∀ {ts : List Ty} {ds : List D} {vs : List V} {f : List Addr}, Rps K mg H G ts ds vs f → ∀ a ∈ f, ∃ o, H a = some o ∧ Own o
  | _, _, _, _, .nil, _, h => nomatch h
  | _, _, _, _, .cons h r, a, ha => (List.mem_append.mp ha).elim (Rp.there h a) (Rps.there r a)
end
theorem Rps.of_sh : ∀ {ds : List D} {vs : List V}, Rfs K mg G ds vs → Rps K mg H G (List.replicate ds.length .sh) ds vs []
  | _, _, .nil => .nil
  | _, _, .cons h r => by
    have q := Rps.cons (Rp.sh (K := K) (mg := mg) (H := H) h) (Rps.of_sh r)
    exact q
theorem Rps.to_sh : ∀ {n : Nat} {ds : List D} {vs : List V} {f : List Addr}, Rps K mg H G (List.replicate n .sh) ds vs f → Rfs K mg G ds vs ∧ f = []
  | 0, _, _, _, r => by cases r; exact ⟨.nil, rfl⟩
  | n + 1, _, _, _, r => by
    rw [List.replicate_succ] at r
    cases r with
    | cons h r =>
      cases h with
      | sh q =>
        obtain ⟨q2, e⟩ := Rps.to_sh r
        subst e
        exact ⟨.cons q q2, rfl⟩
end

/-! ### the slots -/
inductive Sl (K : PySem.W.Frag) (mg : Str → Option Value) (H G : Hp) : List Ty → List D → L2.St → List Addr → Prop
  | nil : Sl K mg H G [] [] [] []
  | no {d : D} {v : Option V} {ts : List Ty} {ds : List D} {vs : L2.St} {f : List Addr} : Sl K mg H G ts ds vs f → Sl K mg H G (.no :: ts) (d :: ds) (v :: vs) f
  | cons {t : Ty} {d : D} {v : V} {ts : List Ty} {ds : List D} {vs : L2.St} {f g : List Addr} : Rp K mg H G t d v f → Sl K mg H G ts ds vs g → Sl K mg H G (t :: ts) (d :: ds) (some v :: vs) (f ++ g)

section
variable {K : PySem.W.Frag} {mg : Str → Option Value} {H H' G G' : Hp}
theorem Sl.mono (e : Le G G') : ∀ {τ : List Ty} {ρ : List D} {σ : L2.St} {f : List Addr}, (∀ a ∈ f, H' a = H a) → Sl K mg H G τ ρ σ f → Sl K mg H' G' τ ρ σ f
  | _, _, _, _, _, .nil => .nil
  | _, _, _, _, k, .no r => .no (Sl.mono e k r)
  | _, _, _, _, k, .cons h r => .cons (h.mono e fun a ha => k a (List.mem_append_left _ ha)) (Sl.mono e (fun a ha => k a (List.mem_append_right _ ha)) r)
theorem Sl.there : ∀ {τ : List Ty} {ρ : List D} {σ : L2.St} {f : List Addr}, Sl K mg H G τ ρ σ f → ∀ a ∈ f, ∃ o, H a = some o ∧ Own o
  | _, _, _, _, .nil, _, h => nomatch h
  | _, _, _, _, .no r, a, ha => Sl.there r a ha
  | _, _, _, _, .cons h r, a, ha => (List.mem_append.mp ha).elim (h.there a) (Sl.there r a)
theorem Sl.len : ∀ {τ : List Ty} {ρ : List D} {σ : L2.St} {f : List Addr}, Sl K mg H G τ ρ σ f → τ.length = ρ.length ∧ σ.length = ρ.length
  | _, _, _, _, .nil => ⟨rfl, rfl⟩
  | _, _, _, _, .no r => by have := Sl.len r; simp [this.1, this.2]
  | _, _, _, _, .cons h r => by have := Sl.len r; simp [this.1, this.2]
/-- one slot taken out, something else put in, in another heap -/
theorem Sl.split : ∀ {τ : List Ty} {ρ : List D} {σ : L2.St} {f : List Addr} {i : Nat} {t : Ty}, Sl K mg H G τ ρ σ f → τ[i]? = some t →
    ∃ f1 fo f2, f = f1 ++ fo ++ f2 ∧ ((t = .no ∧ fo = []) ∨ ∃ v, σ[i]? = some (some v) ∧ Rp K mg H G t (ρ.getD i .non) v fo) ∧ i < ρ.length ∧
      (∀ {H' G' : Hp} {t' : Ty} {d' : D} {v' : V} {f' : List Addr}, (∀ a ∈ f1 ++ f2, H' a = H a) → Le G G' → Rp K mg H' G' t' d' v' f' → Sl K mg H' G' (τ.set i t') (ρ.set i d') (σ.set i (some v')) (f1 ++ f' ++ f2)) ∧
      (∀ {H' G' : Hp} {t' : Ty} {d' : D} {v' : V} {f' : List Addr}, (∀ a ∈ f1 ++ f2, H' a = H a) → Le G G' → σ[i]? = some (some v') → Rp K mg H' G' t' d' v' f' → Sl K mg H' G' (τ.set i t') (ρ.set i d') σ (f1 ++ f' ++ f2)) ∧
      (∀ {H' G' : Hp} {d' : D}, (∀ a ∈ f1 ++ f2, H' a = H a) → Le G G' → Sl K mg H' G' (τ.set i .no) (ρ.set i d') σ (f1 ++ f2))
  | _, _, _, _, _, _, .nil, e => by simp at e
  | _, _, _, _, 0, t, .no (d := d) (v := v) (f := f) r, e => by
    have e' : Ty.no = t := by simpa using e
    subst e'
    refine ⟨[], [], f, by simp, .inl ⟨rfl, rfl⟩, by simp, fun {H' G' t' d' v' f'} k le h => ?_, fun {H' G' t' d' v' f'} k le ev h => ?_, fun {H' G' d'} k le => ?_⟩
    · exact .cons h (r.mono le fun a ha => k a (by simpa using ha))
    · have : v = some v' := by simpa using ev
      subst this
      exact .cons h (r.mono le fun a ha => k a (by simpa using ha))
    · exact .no (r.mono le fun a ha => k a (by simpa using ha))
  | _, _, _, _, 0, t, .cons (t := t0) (d := d) (v := v) (f := f0) (g := g) h0 r, e => by
    have e' : t0 = t := by simpa using e
    subst e'
    refine ⟨[], f0, g, by simp, .inr ⟨v, rfl, by simpa using h0⟩, by simp, fun {H' G' t' d' v' f'} k le h => ?_, fun {H' G' t' d' v' f'} k le ev h => ?_, fun {H' G' d'} k le => ?_⟩
    · exact .cons h (r.mono le fun a ha => k a (by simpa using ha))
    · have : v = v' := by simpa using ev
      subst this
      exact .cons h (r.mono le fun a ha => k a (by simpa using ha))
    · exact .no (r.mono le fun a ha => k a (by simpa using ha))
  | _, _, _, _, i + 1, t, .no (d := d) (v := v) r, e => by
    obtain ⟨f1, fo, f2, ef, ho, hi, h1, h2, h3⟩ := Sl.split (i := i) r (by simpa using e)
    refine ⟨f1, fo, f2, ef, ?_, by simpa using hi, fun k le h => ?_, fun k le ev h => ?_, fun k le => ?_⟩
    · rcases ho with ho | ⟨v, e1, q⟩
      · exact .inl ho
      · exact .inr ⟨v, by simpa using e1, by simpa using q⟩
    · exact .no (h1 k le h)
    · exact .no (h2 k le (by simpa using ev) h)
    · exact .no (h3 k le)
  | _, _, _, _, i + 1, t, .cons (t := t0) (d := d) (v := v) (f := f0) (g := g) h0 r, e => by
    obtain ⟨f1, fo, f2, ef, ho, hi, h1, h2, h3⟩ := Sl.split (i := i) r (by simpa using e)
    refine ⟨f0 ++ f1, fo, f2, by rw [ef]; simp, ?_, by simpa using hi, fun {H' G' t' d' v' f'} k le h => ?_, fun {H' G' t' d' v' f'} k le ev h => ?_, fun {H' G' d'} k le => ?_⟩
    · rcases ho with ho | ⟨v, e1, q⟩
      · exact .inl ho
      · exact .inr ⟨v, by simpa using e1, by simpa using q⟩
    · have := Sl.cons (h0.mono le fun a ha => k a (by simp [ha])) (h1 (fun a ha => k a (by simp at ha ⊢; rcases ha with h | h <;> simp [h])) le h)
      simpa using this
    · have := Sl.cons (h0.mono le fun a ha => k a (by simp [ha])) (h2 (fun a ha => k a (by simp at ha ⊢; rcases ha with h | h <;> simp [h])) le (by simpa using ev) h)
      simpa using this
    · have := Sl.cons (h0.mono le fun a ha => k a (by simp [ha])) (h3 (fun a ha => k a (by simp at ha ⊢; rcases ha with h | h <;> simp [h])) le (d' := d'))
      simpa using this
end
end TL

namespace TL
open PySem PySem.Spec PyProof.Rows L2

abbrev Rho := List D
/-- a value, or the slot of an owned list that is read where it is used -/
inductive Hd where
  | v (d : D) | x (i : Nat)
def Hd.res (h : Hd) (ρ : Rho) : D := match h with
  | .v d => d
  | .x i => ρ.getD i .non
abbrev Ef := Rho → Option (Hd × Rho)
abbrev Of := Rho → Option (D × Rho)
abbrev Tf := Rho → Option (Bool × Rho)
abbrev Af := Rho → Option (List Hd × Rho)

def Grow (H H' : Hp) : Prop := ∀ a o, H a = some o → H' a = some o
theorem Grow.refl (H : Hp) : Grow H H := fun _ _ h => h
theorem Grow.trans {A B C : Hp} (h : Grow A B) (k : Grow B C) : Grow A C := fun a o e => k a o (h a o e)
theorem Grow.upd {H : Hp} {p : Addr} {o : HO} (h : H p = none) : Grow H (upd H p o) := fun a u e => by
  rw [upd_ne (ne_of_none e h)]; exact e
theorem Grow.free {H H' : Hp} (g : Grow H H') {p : Addr} (h : H' p = none) : H p = none := by
  cases e : H p with
  | none => rfl
  | some o => rw [g _ _ e] at h; cases h

structure Step (H H' : Hp) (fs fs' : List Addr) : Prop where
  ext : ∀ a o, a ∉ fs → H a = some o → H' a = some o
  sub : ∀ a ∈ fs', a ∈ fs ∨ H a = none
  ne : ∀ a o, H a = some o → ∃ o', H' a = some o'
theorem Step.refl (H : Hp) (fs : List Addr) : Step H H fs fs := ⟨fun _ _ _ h => h, fun _ h => .inl h, fun _ o h => ⟨o, h⟩⟩
theorem Step.grow {H H' : Hp} (g : Grow H H') (fs : List Addr) : Step H H' fs fs := ⟨fun a o _ h => g a o h, fun _ h => .inl h, fun a o h => ⟨o, g a o h⟩⟩
theorem Step.trans {A B C : Hp} {f g h : List Addr} (s : Step A B f g) (t : Step B C g h) : Step A C f h where
  ext := fun a o n e => by
    refine t.ext a o (fun z => ?_) (s.ext a o n e)
    rcases s.sub a z with q | q
    · exact n q
    · rw [q] at e; cases e
  sub := fun a ha => by
    rcases t.sub a ha with q | q
    · exact s.sub a q
    · cases e : A a with
      | none => exact .inr rfl
      | some o =>
        obtain ⟨o', e'⟩ := s.ne a o e
        rw [e'] at q; cases q
  ne := fun a o e => by
    obtain ⟨o', e'⟩ := s.ne a o e
    exact t.ne a o' e'
theorem Step.less {H H' : Hp} {f g h : List Addr} (s : Step H H' f g) (k : ∀ a ∈ h, a ∈ g) : Step H H' f h := ⟨s.ext, fun a ha => s.sub a (k a ha), s.ne⟩

/-- the state: R held elsewhere, the slots' owned parts at fs -/
structure SR (K : PySem.W.Frag) (mg : Str → Option Value) (R : List Addr) (τ : List Ty) (ρ : Rho) (σ : L2.St) (H : Hp) (fs : List Addr) : Prop where
  sl : Sl K mg H (hide (R ++ fs) H) τ ρ σ fs
  nd : (R ++ fs).Nodup
  al : ∀ a ∈ R, ∃ o, H a = some o ∧ Own o

section
variable {K : PySem.W.Frag} {mg : Str → Option Value} {R : List Addr} {τ : List Ty} {ρ : Rho} {σ : L2.St} {H H' : Hp} {fs fs' : List Addr}
theorem hide_grow (S : List Addr) (g : Grow H H') : Le (hide S H) (hide S H') := hide_mono fun a o n e => ⟨n, g a o e⟩
theorem SR.own (s : SR K mg R τ ρ σ H fs) : ∀ a ∈ R ++ fs, ∃ o, H a = some o ∧ Own o := fun a ha => (List.mem_append.mp ha).elim (s.al a) (s.sl.there a)
theorem SR.grow (s : SR K mg R τ ρ σ H fs) (g : Grow H H') : SR K mg R τ ρ σ H' fs := by
  refine ⟨s.sl.mono (hide_grow _ g) fun a ha => ?_, s.nd, fun a ha => ?_⟩
  · obtain ⟨o, e, _⟩ := s.sl.there a ha
    rw [e, g a o e]
  · obtain ⟨o, e, q⟩ := s.al a ha
    exact ⟨o, g a o e, q⟩
theorem SR.fresh (s : SR K mg R τ ρ σ H fs) {p : Addr} (h : H p = none) : p ∉ R ++ fs := fun hp => by
  obtain ⟨o, e, _⟩ := s.own p hp
  rw [e] at h; cases h
/-- frozen parts stay behind a step -/
theorem SR.le (s : SR K mg R τ ρ σ H fs) (t : Step H H' fs fs') : Le (hide (R ++ fs) H) (hide (R ++ fs') H') := hide_mono fun a o n e => by
  have n1 : a ∉ R := fun z => n (List.mem_append_left _ z)
  have n2 : a ∉ fs := fun z => n (List.mem_append_right _ z)
  refine ⟨fun z => ?_, t.ext a o n2 e⟩
  rcases List.mem_append.mp z with z | z
  · exact n1 z
  · rcases t.sub a z with q | q
    · exact n2 q
    · rw [q] at e; cases e
/-- a frozen tree, relative to a whole heap; flat owned lists and dicts seen from outside -/
inductive Rv (K : PySem.W.Frag) (mg : Str → Option Value) (S : List Addr) (H : Hp) : D → V → Prop
  | rf {d : D} {v : V} : Rf K mg (hide S H) d v → Rv K mg S H d v
  | lst {a : Addr} {vs : List V} {ds : List D} : H a = some (.lst vs) → Rfs K mg (hide S H) ds vs → Rv K mg S H (.lst ds) (.ref a)
  | dK {a : Addr} {kvs : List (Key × V)} {kds : List (D × D)} : H a = some (.dK kvs) → kds.map (·.1) = kvs.map (fun p => keyD p.1) → Rfs K mg (hide S H) (kds.map (·.2)) (kvs.map (·.2)) → Rv K mg S H (.dct kds) (.ref a)
  | dT {a : Addr} {kvs : List (List Key × V)} {kds : List (D × D)} : H a = some (.dT kvs) → kds.map (·.1) = kvs.map (fun p => keysD p.1) → Rfs K mg (hide S H) (kds.map (·.2)) (kvs.map (·.2)) → Rv K mg S H (.dct kds) (.ref a)
def flatT : Ty → Bool
  | .sh => true
  | .oL .sh => true
  | .oK .sh => true
  | .oT .sh => true
  | _ => false
theorem Rp.rv {S : List Addr} {t : Ty} {d : D} {v : V} {f : List Addr} (ft : flatT t = true) (r : Rp K mg H (hide S H) t d v f) : Rv K mg S H d v := by
  cases r with
  | sh q => exact .rf q
  | @oL t' a vs ds f e q =>
    cases t' <;> simp [flatT] at ft
    exact .lst e q.to_sh.1
  | @oK t' a kvs kds f e n q =>
    cases t' <;> simp [flatT] at ft
    have hl : kds.length = (kds.map (·.2)).length := by simp
    exact .dK e n q.to_sh.1
  | @oT t' a kvs kds f e n q =>
    cases t' <;> simp [flatT] at ft
    exact .dT e n q.to_sh.1
  | oO => simp [flatT] at ft
/-- what a handle is -/
def RH (K : PySem.W.Frag) (mg : Str → Option Value) (S : List Addr) (τ : List Ty) (σ : L2.St) (H : Hp) (h : Hd) (v : V) : Prop := match h with
  | .v d => Rf K mg (hide S H) d v
  | .x i => σ[i]? = some (some v) ∧ ∃ t, τ[i]? = some t ∧ flatT t = true
theorem SR.get (s : SR K mg R τ ρ σ H fs) {i : Nat} {t : Ty} (e : τ[i]? = some t) (n : t ≠ .no) : ∃ v f, σ[i]? = some (some v) ∧ Rp K mg H (hide (R ++ fs) H) t (ρ.getD i .non) v f ∧ ∀ a ∈ f, a ∈ fs := by
  obtain ⟨f1, fo, f2, ef, ho, _⟩ := s.sl.split e
  rcases ho with ⟨rfl, _⟩ | ⟨v, ev, q⟩
  · exact absurd rfl n
  · exact ⟨v, fo, ev, q, fun a ha => by rw [ef]; simp [ha]⟩
theorem SR.res (s : SR K mg R τ ρ σ H fs) {h : Hd} {v : V} (r : RH K mg (R ++ fs) τ σ H h v) : Rv K mg (R ++ fs) H (h.res ρ) v := by
  cases h with
  | v d => exact .rf r
  | x i =>
    obtain ⟨ev, t, et, ft⟩ := r
    obtain ⟨v', f, ev', q, _⟩ := s.get et (by intro z; rw [z] at ft; cases ft)
    rw [ev] at ev'; cases ev'
    exact q.rv ft
theorem SR.holdH (s : SR K mg R τ ρ σ H fs) (t : Step H H' fs fs') {h : Hd} {v : V} (r : RH K mg (R ++ fs) τ σ H h v) : RH K mg (R ++ fs') τ σ H' h v := by
  cases h with
  | v d => exact Rf.mono (s.le t) r
  | x i => exact r
inductive RHs (K : PySem.W.Frag) (mg : Str → Option Value) (S : List Addr) (τ : List Ty) (σ : L2.St) (H : Hp) : List Hd → List V → Prop
  | nil : RHs K mg S τ σ H [] []
  | cons {h : Hd} {v : V} {hs : List Hd} {vs : List V} : RH K mg S τ σ H h v → RHs K mg S τ σ H hs vs → RHs K mg S τ σ H (h :: hs) (v :: vs)
theorem RHs.vals : ∀ {hs : List Hd} {vs : List V} {S : List Addr} {ds : List D}, RHs K mg S τ σ H hs vs → hs = ds.map .v → Rfs K mg (hide S H) ds vs
  | _, _, _, [], .nil, _ => .nil
  | _, _, _, d :: ds, .nil, e => by simp at e
  | _, _, _, [], .cons _ _, e => by simp at e
  | _, _, _, d :: ds, .cons h r, e => by
    simp at e
    obtain ⟨rfl, e⟩ := e
    exact .cons h (RHs.vals r e)
end

/-! ### the judgements -/
def tD (X : Cx) (τ : List Ty) (f : Ef) : TE := fun σ H Q => ∃ R ρ fs h ρ', SR X.K X.mg R τ ρ σ H fs ∧ f ρ = some (h, ρ') ∧
  ∀ v H' fs', Step H H' fs fs' → SR X.K X.mg R τ ρ' σ H' fs' → RH X.K X.mg (R ++ fs') τ σ H' h v → Q v H'
def tO (X : Cx) (τ : List Ty) (f : Of) (t : Ty) : TE := fun σ H Q => ∃ R ρ fs d ρ', SR X.K X.mg R τ ρ σ H fs ∧ f ρ = some (d, ρ') ∧
  ∀ v H' fs' fv, Step H H' fs (fv ++ fs') → SR X.K X.mg (fv ++ R) τ ρ' σ H' fs' → Rp X.K X.mg H' (hide (fv ++ R ++ fs') H') t d v fv → Q v H'
def tT (X : Cx) (τ : List Ty) (f : Tf) : TT := fun σ H Q => ∃ R ρ fs b ρ', SR X.K X.mg R τ ρ σ H fs ∧ f ρ = some (b, ρ') ∧
  ∀ H' fs', Step H H' fs fs' → SR X.K X.mg R τ ρ' σ H' fs' → Q b H'
def tA (X : Cx) (τ : List Ty) (f : Af) : TA := fun σ H Q => ∃ R ρ fs hs ρ', SR X.K X.mg R τ ρ σ H fs ∧ f ρ = some (hs, ρ') ∧
  ∀ vs H' fs', Step H H' fs fs' → SR X.K X.mg R τ ρ' σ H' fs' → RHs X.K X.mg (R ++ fs') τ σ H' hs vs → Q vs H'
abbrev DE (X : Cx) (e : Expr) (τ : List Ty) (f : Ef) : Prop := PE X e (tD X τ f)
abbrev DO (X : Cx) (e : Expr) (τ : List Ty) (f : Of) (t : Ty) : Prop := PE X e (tO X τ f t)
abbrev DT (X : Cx) (e : Expr) (τ : List Ty) (f : Tf) : Prop := PT X e (tT X τ f)
abbrev DA (X : Cx) (es : List Expr) (τ : List Ty) (f : Af) : Prop := PA X es (tA X τ f)

theorem pe_imp {X : Cx} {e : Expr} {t t' : TE} (h : PE X e t) (k : ∀ σ H Q, t' σ H Q → t σ H Q) : PE X e t' := ⟨fun pins s σ H Q I q => h.run pins s σ H Q I (k σ H Q q)⟩
theorem pt_imp {X : Cx} {e : Expr} {t t' : TT} (h : PT X e t) (k : ∀ σ H Q, t' σ H Q → t σ H Q) : PT X e t' := ⟨fun pins s σ H Q I q => h.run pins s σ H Q I (k σ H Q q)⟩
theorem pw_imp {X : Cx} {e : Expr} {t t' : TT} (h : PW X e t) (k : ∀ σ H Q, t' σ H Q → t σ H Q) : PW X e t' := ⟨fun wh pins s σ H Q I q => h.run wh pins s σ H Q I (k σ H Q q)⟩
theorem pa_imp {X : Cx} {es : List Expr} {t t' : TA} (h : PA X es t) (k : ∀ σ H Q, t' σ H Q → t σ H Q) : PA X es t' := ⟨fun pos pins s σ H Q I q => h.run pos pins s σ H Q I (k σ H Q q)⟩

/-! ### names, constants -/
def eC (d : D) : Ef := fun ρ => some (.v d, ρ)
def eVar (i : Nat) : Ef := fun ρ => some (.v (ρ.getD i .non), ρ)
def eOwn (i : Nat) : Ef := fun ρ => some (.x i, ρ)
section
variable {X : Cx} {τ : List Ty} {a b c : Expr} {pos : Pos}
theorem de_C {e : Expr} {d : D} {v : V} (h : PE X e (tC v)) (r : ∀ G, Rf X.K X.mg G d v) : DE X e τ (eC d) := pe_imp h fun σ H Q ⟨R, ρ, fs, h, ρ', s, e, q⟩ => by
  cases e
  exact q v H fs (Step.refl H fs) s (r _)
theorem de_int {i j} : DE X (.Constant (.int i) j pos) τ (eC (.int i)) := de_C pe_int fun _ => .int _
theorem de_bl {i j} : DE X (.Constant (.bool i) j pos) τ (eC (.bl i)) := de_C pe_bl fun _ => .bl _
theorem de_non {j} : DE X (.Constant .none j pos) τ (eC .non) := de_C pe_non fun _ => .non
theorem de_str {i j} : DE X (.Constant (.str i) j pos) τ (eC (.str i)) := de_C pe_str fun _ => .str _
theorem de_var {e : Expr} (i : Nat) (h : PE X e (tVar i)) (ht : τ[i]? = some .sh := by rfl) : DE X e τ (eVar i) := pe_imp h fun σ H Q ⟨R, ρ, fs, h, ρ', s, e, q⟩ => by
  cases e
  obtain ⟨v, f, ev, r, _⟩ := s.get ht (by intro z; cases z)
  cases r with
  | sh r => exact ⟨v, ev, q v H fs (Step.refl H fs) s r⟩
theorem de_own {e : Expr} (i : Nat) {t : Ty} (h : PE X e (tVar i)) (ht : τ[i]? = some t := by rfl) (hf : flatT t = true := by rfl) : DE X e τ (eOwn i) := pe_imp h fun σ H Q ⟨R, ρ, fs, h, ρ', s, e, q⟩ => by
  cases e
  obtain ⟨v, f, ev, r, _⟩ := s.get ht (by intro z; rw [z] at hf; cases hf)
  exact ⟨v, ev, q v H fs (Step.refl H fs) s ⟨ev, t, ht, hf⟩⟩

/-! ### operators by values -/
/-- a rule r of HandS does what g says on trees; the result is frozen -/
def OpD (X : Cx) (r : R2) (g : D → D → Option D) : Prop := ∀ (S : List Addr) (H : Hp) (d1 d2 d : D) (v1 v2 : V) (Q : VK), (∀ a ∈ S, ∃ o, H a = some o ∧ Own o) → Rv X.K X.mg S H d1 v1 → Rv X.K X.mg S H d2 v2 → g d1 d2 = some d →
  (∀ v H', Grow H H' → Rf X.K X.mg (hide S H') d v → Q v H') → r v1 v2 H Q
/-- .. the result is a new list -/
def OpO (X : Cx) (r : R2) (g : D → D → Option (List D)) : Prop := ∀ (S : List Addr) (H : Hp) (d1 d2 : D) (ds : List D) (v1 v2 : V) (Q : VK), (∀ a ∈ S, ∃ o, H a = some o ∧ Own o) → Rv X.K X.mg S H d1 v1 → Rv X.K X.mg S H d2 v2 → g d1 d2 = some ds →
  (∀ p vs, H p = none → Rfs X.K X.mg (hide S H) ds vs → Q (.ref p) (upd H p (.lst vs))) → r v1 v2 H Q
def orG {α β γ : Type} (g g' : α → β → Option γ) : α → β → Option γ := fun a b => (g a b).or (g' a b)
theorem OpD.or {r r' : R2} {g g' : D → D → Option D} (h : OpD X r g) (h' : OpD X r' g') : OpD X (fun x y H Q => r x y H Q ∨ r' x y H Q) (orG g g') := fun S H d1 d2 d v1 v2 Q al r1 r2 e q => by
  unfold orG at e
  cases e1 : g d1 d2 with
  | some z =>
    rw [e1] at e
    exact .inl (h S H d1 d2 d v1 v2 Q al r1 r2 (by rw [e1]; exact e) q)
  | none =>
    rw [e1] at e
    exact .inr (h' S H d1 d2 d v1 v2 Q al r1 r2 (by simpa using e) q)
def eBin (g : D → D → Option D) (f1 f2 : Ef) : Ef := fun ρ => (f1 ρ).bind fun p => (f2 p.2).bind fun q => (g (p.1.res q.2) (q.1.res q.2)).bind fun d => some (.v d, q.2)
def eBinO (g : D → D → Option (List D)) (f1 f2 : Ef) : Of := fun ρ => (f1 ρ).bind fun p => (f2 p.2).bind fun q => (g (p.1.res q.2) (q.1.res q.2)).bind fun d => some (.lst d, q.2)
/-- two operands, one after the other -/
theorem two {f1 f2 : Ef} {R : List Addr} {ρ : Rho} {σ : L2.St} {H : Hp} {fs : List Addr} {p q : Hd × Rho} {k : V → V → Hp → Prop} (s : SR X.K X.mg R τ ρ σ H fs) (e1 : f1 ρ = some p) (e2 : f2 p.2 = some q)
    (h : ∀ v1 v2 H' fs', Step H H' fs fs' → SR X.K X.mg R τ q.2 σ H' fs' → RH X.K X.mg (R ++ fs') τ σ H' p.1 v1 → RH X.K X.mg (R ++ fs') τ σ H' q.1 v2 → k v1 v2 H') :
    tD X τ f1 σ H fun x H1 => tD X τ f2 σ H1 fun y H2 => k x y H2 :=
  ⟨R, ρ, fs, p.1, p.2, s, e1, fun v1 H1 fs1 t1 s1 r1 => ⟨R, p.2, fs1, q.1, q.2, s1, e2, fun v2 H2 fs2 t2 s2 r2 => h v1 v2 H2 fs2 (t1.trans t2) s2 (s1.holdH t2 r1) r2⟩⟩
theorem eBin_inv {g : D → D → Option D} {f1 f2 : Ef} {ρ : Rho} {r : Hd × Rho} (e : eBin g f1 f2 ρ = some r) : ∃ p q d, f1 ρ = some p ∧ f2 p.2 = some q ∧ g (p.1.res q.2) (q.1.res q.2) = some d ∧ r = (.v d, q.2) := by
  unfold eBin at e
  cases h1 : f1 ρ with
  | none => rw [h1] at e; cases e
  | some p =>
    rw [h1] at e
    cases h2 : f2 p.2 with
    | none => simp [h2] at e
    | some q =>
      simp only [Option.bind_some, h2] at e
      cases h3 : g (p.1.res q.2) (q.1.res q.2) with
      | none => simp [h3] at e
      | some d =>
        simp only [h3, Option.bind_some, Option.some.injEq] at e
        exact ⟨p, q, d, rfl, h2, h3, e.symm⟩
theorem eBinO_inv {g : D → D → Option (List D)} {f1 f2 : Ef} {ρ : Rho} {r : D × Rho} (e : eBinO g f1 f2 ρ = some r) : ∃ p q d, f1 ρ = some p ∧ f2 p.2 = some q ∧ g (p.1.res q.2) (q.1.res q.2) = some d ∧ r = (.lst d, q.2) := by
  unfold eBinO at e
  cases h1 : f1 ρ with
  | none => rw [h1] at e; cases e
  | some p =>
    rw [h1] at e
    cases h2 : f2 p.2 with
    | none => simp [h2] at e
    | some q =>
      simp only [Option.bind_some, h2] at e
      cases h3 : g (p.1.res q.2) (q.1.res q.2) with
      | none => simp [h3] at e
      | some d =>
        simp only [h3, Option.bind_some, Option.some.injEq] at e
        exact ⟨p, q, d, rfl, h2, h3, e.symm⟩
/-- the reading of a two-place operation -/
theorem tOp_of {r : R2} {g : D → D → Option D} {f1 f2 : Ef} (o : OpD X r g) : ∀ σ H Q, tD X τ (eBin g f1 f2) σ H Q → tOp r (tD X τ f1) (tD X τ f2) σ H Q := fun σ H Q ⟨R, ρ, fs, h, ρ', s, e, k⟩ => by
  obtain ⟨p, q, d, e1, e2, e3, er⟩ := eBin_inv e
  cases er
  refine two s e1 e2 fun v1 v2 H' fs' t s' r1 r2 => ?_
  refine o (R ++ fs') H' _ _ _ v1 v2 Q s'.own (s'.res r1) (s'.res r2) e3 fun v H2 g2 rf => ?_
  exact k v H2 fs' (t.trans (Step.grow g2 _)) (s'.grow g2) rf
theorem de_bin {op : Operator} {r : R2} {g : D → D → Option D} {f1 f2 : Ef} (ho : OpR X (binaryOp op) r) (o : OpD X r g) (ha : DE X a τ f1) (hb : DE X b τ f2) : DE X (.BinOp a op b pos) τ (eBin g f1 f2) := pe_imp (pe_op ho ha hb) (tOp_of o)
theorem de_cmp {op : CmpOp} {r : R2} {g : D → D → Option D} {f1 f2 : Ef} (ho : OpR X (compareOp op) r) (o : OpD X r g) (ha : DE X a τ f1) (hb : DE X b τ f2) (hm : behindInMarks op b = false) : DE X (.Compare a [op] [b] pos) τ (eBin g f1 f2) := pe_imp (pe_cmpR ho ha hb hm) (tOp_of o)
theorem de_ix {r : R2} {g : D → D → Option D} {f1 f2 : Ef} (hr : IxR X r) (o : OpD X r g) (ha : DE X a τ f1) (hb : DE X b τ f2) (hs : PlainIx b) : DE X (.Subscript a b pos) τ (eBin g f1 f2) := pe_imp (pe_ix hr ha hb hs) (tOp_of o)
theorem hide_upd {S : List Addr} {H : Hp} {p : Addr} {o : HO} (h : H p = none) : Le (hide S H) (hide (p :: S) (upd H p o)) := hide_mono fun a u n e => by
  have ne : a ≠ p := ne_of_none e h
  exact ⟨by simp [ne, n], by rw [upd_ne ne]; exact e⟩
theorem hide_upd' {S S' : List Addr} {H : Hp} {p : Addr} {o : HO} (h : H p = none) (k : ∀ a, a ∈ S' → a = p ∨ a ∈ S) : Le (hide S H) (hide S' (upd H p o)) := hide_mono fun a u n e => by
  have ne : a ≠ p := ne_of_none e h
  exact ⟨fun z => (k a z).elim ne n, by rw [upd_ne ne]; exact e⟩
/-- a new list at p: owned by the value -/
theorem SR.newL {R : List Addr} {ρ : Rho} {σ : L2.St} {H : Hp} {fs : List Addr} {p : Addr} {vs : List V} {ds : List D} (s : SR X.K X.mg R τ ρ σ H fs) (hp : H p = none) (r : Rfs X.K X.mg (hide (R ++ fs) H) ds vs) :
    SR X.K X.mg ([p] ++ R) τ ρ σ (upd H p (.lst vs)) fs ∧ Rp X.K X.mg (upd H p (.lst vs)) (hide ([p] ++ R ++ fs) (upd H p (.lst vs))) (.oL .sh) (.lst ds) (.ref p) [p] ∧ Step H (upd H p (.lst vs)) fs ([p] ++ fs) := by
  have hf := s.fresh hp
  have le : Le (hide (R ++ fs) H) (hide ([p] ++ R ++ fs) (upd H p (.lst vs))) := hide_upd' hp fun a z => by simpa using z
  have np : ∀ a ∈ R ++ fs, a ≠ p := fun a ha e => hf (e ▸ ha)
  refine ⟨⟨s.sl.mono le fun a ha => upd_ne (np a (List.mem_append_right _ ha)), ?_, fun a ha => ?_⟩, ?_, ⟨fun a o _ e => ?_, fun a ha => ?_, fun a o e => ?_⟩⟩
  · have := s.nd
    simpa [hf] using this
  · rcases List.mem_append.mp ha with ha | ha
    · have e : a = p := by simpa using ha
      exact ⟨.lst vs, by rw [e, upd_same], trivial⟩
    · obtain ⟨o, e, w⟩ := s.al a ha
      exact ⟨o, by rw [upd_ne (np a (List.mem_append_left _ ha))]; exact e, w⟩
  · exact Rp.oL upd_same (Rps.of_sh (r.mono le))
  · rw [upd_ne (ne_of_none e hp)]; exact e
  · rcases List.mem_append.mp ha with ha | ha
    · have e : a = p := by simpa using ha
      exact .inr (e ▸ hp)
    · exact .inl ha
  · exact ⟨o, by rw [upd_ne (ne_of_none e hp)]; exact e⟩
theorem tOpO_of {r : R2} {g : D → D → Option (List D)} {f1 f2 : Ef} (o : OpO X r g) : ∀ σ H Q, tO X τ (eBinO g f1 f2) (.oL .sh) σ H Q → tOp r (tD X τ f1) (tD X τ f2) σ H Q := fun σ H Q ⟨R, ρ, fs, h, ρ', s, e, k⟩ => by
  obtain ⟨p, q, d, e1, e2, e3, er⟩ := eBinO_inv e
  cases er
  refine two s e1 e2 fun v1 v2 H' fs' t s' r1 r2 => ?_
  refine o (R ++ fs') H' _ _ _ v1 v2 Q s'.own (s'.res r1) (s'.res r2) e3 fun a vs ha rf => ?_
  obtain ⟨n1, n2, n3⟩ := s'.newL ha rf
  exact k _ _ fs' [a] (t.trans n3) n1 n2
theorem do_bin {op : Operator} {r : R2} {g : D → D → Option (List D)} {f1 f2 : Ef} (ho : OpR X (binaryOp op) r) (o : OpO X r g) (ha : DE X a τ f1) (hb : DE X b τ f2) : DO X (.BinOp a op b pos) τ (eBinO g f1 f2) (.oL .sh) := pe_imp (pe_op ho ha hb) (tOpO_of o)

/-! ### an owned result given away -/
def eF (f : Of) : Ef := fun ρ => (f ρ).bind fun p => some (.v p.1, p.2)
theorem SR.drop {K : PySem.W.Frag} {mg : Str → Option Value} {fv R : List Addr} {ρ : Rho} {σ : L2.St} {H : Hp} {fs : List Addr} (s : SR K mg (fv ++ R) τ ρ σ H fs) : SR K mg R τ ρ σ H fs := by
  refine ⟨s.sl.mono (hide_mono fun a o n e => ⟨fun z => n ?_, e⟩) fun _ _ => rfl, ?_, fun a ha => s.al a (List.mem_append_right _ ha)⟩
  · rw [List.append_assoc]; exact List.mem_append_right _ z
  · have := s.nd
    rw [List.append_assoc] at this
    exact (List.nodup_append.mp this).2.1
theorem Rp.give {K : PySem.W.Frag} {mg : Str → Option Value} {fv R : List Addr} {ρ : Rho} {σ : L2.St} {H : Hp} {fs : List Addr} {t : Ty} {d : D} {v : V} (s : SR K mg (fv ++ R) τ ρ σ H fs) (r : Rp K mg H (hide (fv ++ R ++ fs) H) t d v fv) : Rf K mg (hide (R ++ fs) H) d v := by
  refine r.frz (hide_mono fun a o n e => ⟨fun z => n ?_, e⟩) fun a ha o e => hide_some.mpr ⟨fun z => ?_, e⟩
  · rw [List.append_assoc]; exact List.mem_append_right _ z
  · have := s.nd
    rw [List.append_assoc] at this
    exact (List.nodup_append.mp this).2.2 a ha a z rfl
theorem de_F {e : Expr} {f : Of} {t : Ty} (h : DO X e τ f t) : DE X e τ (eF f) := pe_imp h fun σ H Q ⟨R, ρ, fs, hd, ρ', s, e, k⟩ => by
  unfold eF at e
  cases h1 : f ρ with
  | none => rw [h1] at e; cases e
  | some p =>
    rw [h1] at e
    cases e
    exact ⟨R, ρ, fs, p.1, p.2, s, h1, fun v H' fs' fv t s' r => k v H' fs' (t.less fun a ha => List.mem_append_right _ ha) s'.drop (r.give s')⟩
end
end TL

namespace TL
open PySem PySem.Spec PyProof.Rows L2

def okLen (n : Nat) : Bool := Nat.ble n 16777216
theorem okLen_le {n : Nat} (h : okLen n = true) : n ≤ sizeLine := Nat.le_of_ble_eq_true h

section
variable {K : PySem.W.Frag} {mg : Str → Option Value} {S : List Addr} {H : Hp}
/-! ### what a seen tree is -/
theorem Rv.int_inv {i : Int} {v : V} (r : Rv K mg S H (.int i) v) : v = .int i := by
  cases r with
  | rf r => cases r; rfl
theorem Rv.bl_inv {i : Bool} {v : V} (r : Rv K mg S H (.bl i) v) : v = .bl i := by
  cases r with
  | rf r => cases r; rfl
theorem Rv.non_inv {v : V} (r : Rv K mg S H .non v) : v = .non := by
  cases r with
  | rf r => cases r; rfl
theorem Rv.str_inv {i : Str} {v : V} (r : Rv K mg S H (.str i) v) : v = .str i := by
  cases r with
  | rf r => cases r; rfl
theorem Rv.lst_inv {ds : List D} {v : V} (r : Rv K mg S H (.lst ds) v) : ∃ a vs, v = .ref a ∧ H a = some (.lst vs) ∧ Rfs K mg (hide S H) ds vs := by
  cases r with
  | rf r =>
    cases r with
    | lst h r => exact ⟨_, _, rfl, hide_le _ _ _ _ h, r⟩
  | lst h r => exact ⟨_, _, rfl, h, r⟩
theorem Rv.tup_inv {ds : List D} {v : V} (r : Rv K mg S H (.tup ds) v) : ∃ a vs, v = .ref a ∧ SqT K H a vs ∧ SqT K (hide S H) a vs ∧ Rfs K mg (hide S H) ds vs := by
  cases r with
  | rf r =>
    cases r with
    | tup h r => exact ⟨_, _, rfl, (hide_le _ _).seqT h, h, r⟩
theorem ifSome' {α : Type} {c : Bool} {x r : α} (e : (if c then some x else none) = some r) : c = true ∧ x = r := by
  cases c with
  | true => exact ⟨rfl, by simpa using e⟩
  | false => cases e
def truthD : D → Option Bool
  | .non => some false
  | .bl b => some b
  | .int i => some (i != 0)
  | .str s => if okLen s.length then some ((s.length : Int) != 0) else none
  | .tup l => some (!l.isEmpty)
  | .lst l => some (!l.isEmpty)
  | _ => none
theorem Rfs.isEmpty {G : Hp} {ds : List D} {vs : List V} (r : Rfs K mg G ds vs) : ds.isEmpty = vs.isEmpty := by
  cases r <;> rfl
theorem Rv.tru {d : D} {v : V} {k : Bool} (r : Rv K mg S H d v) (e : truthD d = some k) : TruV K v H k := by
  cases d with
  | non => rw [r.non_inv]; cases e; rfl
  | bl b => rw [r.bl_inv]; cases e; rfl
  | int i => rw [r.int_inv]; cases e; rfl
  | str s =>
    rw [r.str_inv]
    obtain ⟨h, e⟩ := ifSome' e
    subst e
    exact ⟨okLen_le h, rfl⟩
  | tup l =>
    obtain ⟨a, vs, rfl, h, _, q⟩ := r.tup_inv
    cases e
    exact .inr (.inl ⟨vs, h, by rw [q.isEmpty]⟩)
  | lst l =>
    obtain ⟨a, vs, rfl, h, q⟩ := r.lst_inv
    cases e
    exact .inl ⟨vs, .of h, by rw [q.isEmpty]⟩
  | dct l => cases e
  | set l => cases e
  | obj c l => cases e
  | scr l => cases e
end

section
variable {X : Cx} {τ : List Ty} {a b c e : Expr} {es : List Expr} {pos : Pos}
/-! ### tests -/
def tB (f : Ef) : Tf := fun ρ => (f ρ).bind fun p => (truthD (p.1.res p.2)).bind fun k => some (k, p.2)
theorem tB_inv {f : Ef} {ρ : Rho} {r : Bool × Rho} (e : tB f ρ = some r) : ∃ p k, f ρ = some p ∧ truthD (p.1.res p.2) = some k ∧ r = (k, p.2) := by
  unfold tB at e
  cases h1 : f ρ with
  | none => rw [h1] at e; cases e
  | some p =>
    rw [h1] at e
    simp only [Option.bind_some] at e
    cases h2 : truthD (p.1.res p.2) with
    | none => rw [h2] at e; cases e
    | some k => rw [h2] at e; cases e; exact ⟨p, k, rfl, h2, rfl⟩
theorem dt_truth {f : Ef} (h : DE X e τ f) (he : ∀ whole, isTrue e X.env whole = (do let v ← whole; standAt e.pos; holding [v] (truthy v)) := by intro _; rfl) : DT X e τ (tB f) := pt_imp (pt_truth h he) fun σ H Q ⟨R, ρ, fs, b, ρ', s, e, k⟩ => by
  obtain ⟨p, kk, e1, e2, er⟩ := tB_inv e
  cases er
  exact ⟨R, ρ, fs, p.1, p.2, s, e1, fun v H' fs' t s' r => ⟨_, (s'.res r).tru e2, k H' fs' t s'⟩⟩
/-- a comparison as a test -/
def tBl (f : Ef) : Tf := fun ρ => (f ρ).bind fun p => match p.1 with
  | .v (.bl k) => some (k, p.2)
  | _ => none
theorem tBl_inv {f : Ef} {ρ : Rho} {r : Bool × Rho} (e : tBl f ρ = some r) : ∃ k ρ', f ρ = some (.v (.bl k), ρ') ∧ r = (k, ρ') := by
  unfold tBl at e
  cases h1 : f ρ with
  | none => rw [h1] at e; cases e
  | some p =>
    rw [h1] at e
    obtain ⟨p1, p2⟩ := p
    cases p1 with
    | x i => cases e
    | v d => cases d <;> first | (cases e; done) | (cases e; exact ⟨_, _, rfl, rfl⟩)
theorem tTest_of {t : TE} {f : Ef} (h : ∀ σ H Q, tD X τ f σ H Q → t σ H Q) : ∀ σ H Q, tT X τ (tBl f) σ H Q → tTest t σ H Q := fun σ H Q ⟨R, ρ, fs, b, ρ', s, e, k⟩ => by
  obtain ⟨k1, ρ1, e1, er⟩ := tBl_inv e
  cases er
  refine h σ H _ ⟨R, ρ, fs, _, _, s, e1, fun v H' fs' t s' r => ?_⟩
  cases r
  exact ⟨_, rfl, k H' fs' t s'⟩
theorem dt_cmp {op : CmpOp} {r : R2} {g : D → D → Option D} {f1 f2 : Ef} (ho : OpR X (compareOp op) r) (o : OpD X r g) (ha : DE X a τ f1) (hb : DE X b τ f2) (hm : behindInMarks op b = false) : DT X (.Compare a [op] [b] pos) τ (tBl (eBin g f1 f2)) :=
  pt_imp (pt_cmpR ho ha hb hm) (tTest_of (tOp_of o))
/-! a op1 b op2 c -/
def eChain (g g' : D → D → Option D) (f1 f2 f3 : Ef) : Ef := fun ρ => (f1 ρ).bind fun p => (f2 p.2).bind fun q => (g (p.1.res q.2) (q.1.res q.2)).bind fun d => match d with
  | .bl true => (f3 q.2).bind fun r => (g' (q.1.res r.2) (r.1.res r.2)).bind fun d' => some (.v d', r.2)
  | .bl false => some (.v (.bl false), q.2)
  | _ => none
theorem tChain_of {r r' : R2} {g g' : D → D → Option D} {f1 f2 f3 : Ef} (o : OpD X r g) (o' : OpD X r' g') : ∀ σ H Q, tD X τ (eChain g g' f1 f2 f3) σ H Q → tChain r r' (tD X τ f1) (tD X τ f2) (tD X τ f3) σ H Q := fun σ H Q ⟨R, ρ, fs, h, ρ', s, e, k⟩ => by
  unfold eChain at e
  cases h1 : f1 ρ with
  | none => rw [h1] at e; cases e
  | some p =>
    rw [h1] at e
    simp only [Option.bind_some] at e
    cases h2 : f2 p.2 with
    | none => rw [h2] at e; cases e
    | some q =>
      rw [h2] at e
      simp only [Option.bind_some] at e
      cases h3 : g (p.1.res q.2) (q.1.res q.2) with
      | none => rw [h3] at e; cases e
      | some d =>
        rw [h3] at e
        simp only [Option.bind_some] at e
        refine two s h1 h2 fun v1 v2 H' fs' t s' r1 r2 => ?_
        refine o (R ++ fs') H' _ _ _ v1 v2 _ s'.own (s'.res r1) (s'.res r2) h3 fun v H2 g2 rf => ?_
        cases d with
        | bl kk =>
          cases rf
          cases kk with
          | false =>
            cases e
            exact ⟨false, rfl, iteF (k _ H2 fs' (t.trans (Step.grow g2 _)) (s'.grow g2) (.bl _))⟩
          | true =>
            simp only at e
            cases h4 : f3 q.2 with
            | none => rw [h4] at e; cases e
            | some w =>
              rw [h4] at e
              simp only [Option.bind_some] at e
              cases h5 : g' (q.1.res w.2) (w.1.res w.2) with
              | none => rw [h5] at e; cases e
              | some d' =>
                rw [h5] at e
                cases e
                refine ⟨true, rfl, iteT ⟨R, q.2, fs', w.1, w.2, s'.grow g2, h4, fun v3 H3 fs3 t3 s3 r3 => ?_⟩⟩
                have r2' := s3.res ((s'.grow g2).holdH t3 (s'.holdH (Step.grow g2 fs') r2))
                refine o' (R ++ fs3) H3 _ _ _ v2 v3 Q s3.own r2' (s3.res r3) h5 fun v4 H4 g4 rf4 => ?_
                exact k v4 H4 fs3 ((t.trans (Step.grow g2 _)).trans (t3.trans (Step.grow g4 _))) (s3.grow g4) rf4
        | _ => cases e
theorem de_chain {op op' : CmpOp} {r r' : R2} {g g' : D → D → Option D} {f1 f2 f3 : Ef} (ho : OpR X (compareOp op) r) (o : OpD X r g) (ho' : OpR X (compareOp op') r') (o' : OpD X r' g') (ha : DE X a τ f1) (hb : DE X b τ f2) (hc : DE X c τ f3)
    (hm : lastMarks [op, op'] [b, c] = false := by with_unfolding_all rfl) : DE X (.Compare a [op, op'] [b, c] pos) τ (eChain g g' f1 f2 f3) := pe_imp (pe_chain ho ho' ha hb hc hm) (tChain_of o o')
theorem dt_chain {op op' : CmpOp} {r r' : R2} {g g' : D → D → Option D} {f1 f2 f3 : Ef} (ho : OpR X (compareOp op) r) (o : OpD X r g) (ho' : OpR X (compareOp op') r') (o' : OpD X r' g') (ha : DE X a τ f1) (hb : DE X b τ f2) (hc : DE X c τ f3)
    (hm : lastMarks [op, op'] [b, c] = false := by with_unfolding_all rfl) : DT X (.Compare a [op, op'] [b, c] pos) τ (tBl (eChain g g' f1 f2 f3)) := pt_imp (pt_chain ho ho' ha hb hc hm) (tTest_of (tChain_of o o'))

/-! ### and, or, not as tests -/
def tAnd' (f g : Tf) : Tf := fun ρ => (f ρ).bind fun p => if p.1 then g p.2 else some (false, p.2)
def tOr' (f g : Tf) : Tf := fun ρ => (f ρ).bind fun p => if p.1 then some (true, p.2) else g p.2
def tNot' (f : Tf) : Tf := fun ρ => (f ρ).bind fun p => some (!p.1, p.2)
abbrev DW (X : Cx) (e : Expr) (τ : List Ty) (f : Tf) : Prop := PW X e (tT X τ f)
theorem dw_and1 {f : Tf} (h : DT X a τ f) : DW X (.BoolOp .And [a] pos) τ f := pw_and1 h
theorem dw_or1 {f : Tf} (h : DT X a τ f) : DW X (.BoolOp .Or [a] pos) τ f := pw_or1 h
theorem bindT {f : Tf} {ρ : Rho} {β : Type} {k : Bool × Rho → Option β} {r : β} (e : (f ρ).bind k = some r) : ∃ p, f ρ = some p ∧ k p = some r := by
  cases h : f ρ with
  | none => rw [h] at e; cases e
  | some p => rw [h] at e; exact ⟨p, rfl, e⟩
theorem bindO {α β : Type} {x : Option α} {k : α → Option β} {r : β} (e : x.bind k = some r) : ∃ p, x = some p ∧ k p = some r := by
  cases h : x with
  | none => rw [h] at e; cases e
  | some p => rw [h] at e; exact ⟨p, rfl, e⟩
theorem dw_and {f g : Tf} {rest : List Expr} (ha : DT X a τ f) (hb : DW X (.BoolOp .And (b :: rest) pos) τ g) : DW X (.BoolOp .And (a :: b :: rest) pos) τ (tAnd' f g) := pw_imp (pw_and ha hb) fun σ H Q ⟨R, ρ, fs, k, ρ', s, e, q⟩ => by
  obtain ⟨p, e1, e2⟩ := bindO e
  refine ⟨R, ρ, fs, p.1, p.2, s, e1, fun H' fs' t s' => ?_⟩
  cases hp : p.1 with
  | true =>
    rw [hp] at e2
    exact iteT ⟨R, p.2, fs', k, ρ', s', e2, fun H2 fs2 t2 s2 => q H2 fs2 (t.trans t2) s2⟩
  | false =>
    rw [hp] at e2
    cases e2
    exact iteF (q H' fs' t s')
theorem dw_or {f g : Tf} {rest : List Expr} (ha : DT X a τ f) (hb : DW X (.BoolOp .Or (b :: rest) pos) τ g) : DW X (.BoolOp .Or (a :: b :: rest) pos) τ (tOr' f g) := pw_imp (pw_or ha hb) fun σ H Q ⟨R, ρ, fs, k, ρ', s, e, q⟩ => by
  obtain ⟨p, e1, e2⟩ := bindO e
  refine ⟨R, ρ, fs, p.1, p.2, s, e1, fun H' fs' t s' => ?_⟩
  cases hp : p.1 with
  | false =>
    rw [hp] at e2
    exact iteF ⟨R, p.2, fs', k, ρ', s', e2, fun H2 fs2 t2 s2 => q H2 fs2 (t.trans t2) s2⟩
  | true =>
    rw [hp] at e2
    cases e2
    exact iteT (q H' fs' t s')
theorem dt_w {f : Tf} (h : DW X e τ f) : DT X e τ f := h.pt
theorem dt_not {f : Tf} (h : DT X a τ f) : DT X (.UnaryOp .Not a pos) τ (tNot' f) := pt_imp (pt_not h) fun σ H Q ⟨R, ρ, fs, k, ρ', s, e, q⟩ => by
  obtain ⟨p, e1, e2⟩ := bindO e
  cases e2
  exact ⟨R, ρ, fs, p.1, p.2, s, e1, fun H' fs' t s' => q H' fs' t s'⟩
/-! ### and, or, not, if as values -/
def eAnd (f g : Ef) : Ef := fun ρ => (f ρ).bind fun p => (truthD (p.1.res p.2)).bind fun k => if k then g p.2 else some p
def eOr (f g : Ef) : Ef := fun ρ => (f ρ).bind fun p => (truthD (p.1.res p.2)).bind fun k => if k then some p else g p.2
def eNot (f : Ef) : Ef := fun ρ => (f ρ).bind fun p => (truthD (p.1.res p.2)).bind fun k => some (.v (.bl (!k)), p.2)
def eIf (t : Tf) (f g : Ef) : Ef := fun ρ => (t ρ).bind fun p => if p.1 then f p.2 else g p.2
theorem de_one {op} {f : Ef} (h : DE X a τ f) : DE X (.BoolOp op [a] pos) τ f := pe_one h
theorem de_and {f g : Ef} {rest : List Expr} (ha : DE X a τ f) (hb : DE X (.BoolOp .And (b :: rest) pos) τ g) : DE X (.BoolOp .And (a :: b :: rest) pos) τ (eAnd f g) := pe_imp (pe_andT ha hb) fun σ H Q ⟨R, ρ, fs, h, ρ', s, e, q⟩ => by
  obtain ⟨p, e1, e2⟩ := bindO e
  obtain ⟨k, e3, e4⟩ := bindO e2
  refine ⟨R, ρ, fs, p.1, p.2, s, e1, fun v H' fs' t s' r => ⟨k, (s'.res r).tru e3, ?_⟩⟩
  cases k with
  | true => exact iteT ⟨R, p.2, fs', h, ρ', s', e4, fun v H2 fs2 t2 s2 r2 => q v H2 fs2 (t.trans t2) s2 r2⟩
  | false => cases e4; exact iteF (q v H' fs' t s' r)
theorem de_or {f g : Ef} {rest : List Expr} (ha : DE X a τ f) (hb : DE X (.BoolOp .Or (b :: rest) pos) τ g) : DE X (.BoolOp .Or (a :: b :: rest) pos) τ (eOr f g) := pe_imp (pe_orT ha hb) fun σ H Q ⟨R, ρ, fs, h, ρ', s, e, q⟩ => by
  obtain ⟨p, e1, e2⟩ := bindO e
  obtain ⟨k, e3, e4⟩ := bindO e2
  refine ⟨R, ρ, fs, p.1, p.2, s, e1, fun v H' fs' t s' r => ⟨k, (s'.res r).tru e3, ?_⟩⟩
  cases k with
  | false => exact iteF ⟨R, p.2, fs', h, ρ', s', e4, fun v H2 fs2 t2 s2 r2 => q v H2 fs2 (t.trans t2) s2 r2⟩
  | true => cases e4; exact iteT (q v H' fs' t s' r)
theorem de_not {f : Ef} (ha : DE X a τ f) : DE X (.UnaryOp .Not a pos) τ (eNot f) := pe_imp (pe_notT ha) fun σ H Q ⟨R, ρ, fs, h, ρ', s, e, q⟩ => by
  obtain ⟨p, e1, e2⟩ := bindO e
  obtain ⟨k, e3, e4⟩ := bindO e2
  cases e4
  exact ⟨R, ρ, fs, p.1, p.2, s, e1, fun v H' fs' t s' r => ⟨k, (s'.res r).tru e3, q _ H' fs' t s' (.bl _)⟩⟩
theorem de_if {t : Tf} {f g : Ef} (hc : DT X c τ t) (ha : DE X a τ f) (hb : DE X b τ g) : DE X (.IfExp c a b pos) τ (eIf t f g) := pe_imp (pe_ifExp hc ha hb) fun σ H Q ⟨R, ρ, fs, h, ρ', s, e, q⟩ => by
  obtain ⟨p, e1, e2⟩ := bindO e
  refine ⟨R, ρ, fs, p.1, p.2, s, e1, fun H' fs' t s' => ?_⟩
  cases hp : p.1 with
  | true => rw [hp] at e2; exact iteT ⟨R, p.2, fs', h, ρ', s', e2, fun v H2 fs2 t2 s2 r2 => q v H2 fs2 (t.trans t2) s2 r2⟩
  | false => rw [hp] at e2; exact iteF ⟨R, p.2, fs', h, ρ', s', e2, fun v H2 fs2 t2 s2 r2 => q v H2 fs2 (t.trans t2) s2 r2⟩

/-! ### argument lists: handles -/
def aNil : Af := fun ρ => some ([], ρ)
def aCons (f : Ef) (g : Af) : Af := fun ρ => (f ρ).bind fun p => (g p.2).bind fun q => some (p.1 :: q.1, q.2)
theorem SR.holdHs {K : PySem.W.Frag} {mg : Str → Option Value} {R : List Addr} {ρ : Rho} {σ : L2.St} {H H' : Hp} {fs fs' : List Addr} (s : SR K mg R τ ρ σ H fs) (t : Step H H' fs fs') : ∀ {hs : List Hd} {vs : List V}, RHs K mg (R ++ fs) τ σ H hs vs → RHs K mg (R ++ fs') τ σ H' hs vs
  | _, _, .nil => .nil
  | _, _, .cons h r => .cons (s.holdH t h) (SR.holdHs s t r)
theorem da_nil : DA X [] τ aNil := pa_imp pa_nil fun σ H Q ⟨R, ρ, fs, h, ρ', s, e, q⟩ => by
  cases e
  exact q [] H fs (Step.refl H fs) s .nil
theorem da_cons {f : Ef} {g : Af} (ha : DE X e τ f) (hr : DA X es τ g) (hs : starEach (e :: es) X.env = (false, eval e X.env) :: starEach es X.env := by rfl) : DA X (e :: es) τ (aCons f g) := pa_imp (pa_cons ha hr hs) fun σ H Q ⟨R, ρ, fs, h, ρ', s, e, q⟩ => by
  obtain ⟨p, e1, e2⟩ := bindO e
  obtain ⟨w, e3, e4⟩ := bindO e2
  cases e4
  exact ⟨R, ρ, fs, p.1, p.2, s, e1, fun v H' fs' t s' r => ⟨R, p.2, fs', w.1, w.2, s', e3, fun vs H2 fs2 t2 s2 r2 => q (v :: vs) H2 fs2 (t.trans t2) s2 (.cons (s'.holdH t2 r) r2)⟩⟩
def hvals : List Hd → Option (List D)
  | [] => some []
  | .v d :: r => (hvals r).bind fun ds => some (d :: ds)
  | .x _ :: _ => none
theorem RHs.valsOf {K : PySem.W.Frag} {mg : Str → Option Value} {S : List Addr} {σ : L2.St} {H : Hp} : ∀ {hs : List Hd} {vs : List V} {ds : List D}, RHs K mg S τ σ H hs vs → hvals hs = some ds → Rfs K mg (hide S H) ds vs
  | _, _, _, .nil, e => by cases e; exact .nil
  | _, _, _, .cons (h := h) (hs := hs) r rs, e => by
    cases h with
    | x i => cases e
    | v d =>
      unfold hvals at e
      obtain ⟨ds', e1, e2⟩ := bindO e
      cases e2
      exact .cons r (RHs.valsOf rs e1)
/-! ### displays -/
def eTup (f : Af) : Ef := fun ρ => (f ρ).bind fun p => (hvals p.1).bind fun ds => if okLen ds.length then some (.v (.tup ds), p.2) else none
def oLst (f : Af) : Of := fun ρ => (f ρ).bind fun p => (hvals p.1).bind fun ds => if okLen ds.length then some (.lst ds, p.2) else none
theorem SR.newT {R : List Addr} {ρ : Rho} {σ : L2.St} {H : Hp} {fs : List Addr} {p : Addr} {vs : List V} {ds : List D} (s : SR X.K X.mg R τ ρ σ H fs) (hp : H p = none) (r : Rfs X.K X.mg (hide (R ++ fs) H) ds vs) :
    Rf X.K X.mg (hide (R ++ fs) (upd H p (.tup vs))) (.tup ds) (.ref p) := by
  have hf := s.fresh hp
  refine .tup (.of (hide_some.mpr ⟨hf, upd_same⟩)) (r.mono (hide_grow _ (Grow.upd hp)))
theorem ifSome {α : Type} {c : Bool} {x r : α} (e : (if c then some x else none) = some r) : c = true ∧ x = r := by
  cases c with
  | true => exact ⟨rfl, by simpa using e⟩
  | false => cases e
theorem de_tup {f : Af} {x1} (h : DA X es τ f) : DE X (.Tuple es x1 pos) τ (eTup f) := pe_imp (pe_tup h) fun σ H Q ⟨R, ρ, fs, hh, ρ', s, e, q⟩ => by
  obtain ⟨p, e1, e2⟩ := bindO e
  obtain ⟨ds, e3, e4⟩ := bindO e2
  obtain ⟨e5, e6⟩ := ifSome e4
  cases e6
  refine ⟨R, ρ, fs, p.1, p.2, s, e1, fun vs H' fs' t s' r => ?_⟩
  have rf := r.valsOf e3
  refine ⟨by rw [← rf.length]; exact okLen_le e5, fun a ha => ?_⟩
  exact q _ _ fs' (t.trans (Step.grow (Grow.upd ha) _)) (s'.grow (Grow.upd ha)) (s'.newT ha rf)
theorem do_lst {f : Af} (h : DA X es τ f) : DO X (.List es pos) τ (oLst f) (.oL .sh) := pe_imp (pe_lst h) fun σ H Q ⟨R, ρ, fs, hh, ρ', s, e, q⟩ => by
  obtain ⟨p, e1, e2⟩ := bindO e
  obtain ⟨ds, e3, e4⟩ := bindO e2
  obtain ⟨e5, e6⟩ := ifSome e4
  cases e6
  refine ⟨R, ρ, fs, p.1, p.2, s, e1, fun vs H' fs' t s' r => ?_⟩
  have rf := r.valsOf e3
  refine ⟨by rw [← rf.length]; exact okLen_le e5, fun a ha => ?_⟩
  obtain ⟨n1, n2, n3⟩ := s'.newL ha rf
  exact q _ _ fs' [a] (t.trans n3) n1 n2

/-! ### one-place operators -/
def UnD (X : Cx) (r : V → Hp → VK → Prop) (g : D → Option D) : Prop := ∀ (S : List Addr) (H : Hp) (d1 d : D) (v1 : V) (Q : VK), (∀ a ∈ S, ∃ o, H a = some o ∧ Own o) → Rv X.K X.mg S H d1 v1 → g d1 = some d →
  (∀ v H', Grow H H' → Rf X.K X.mg (hide S H') d v → Q v H') → r v1 H Q
def eUn (g : D → Option D) (f : Ef) : Ef := fun ρ => (f ρ).bind fun p => (g (p.1.res p.2)).bind fun d => some (.v d, p.2)
theorem de_un {op : UnaryOp} {r : V → Hp → VK → Prop} {g : D → Option D} {f : Ef} (ho : UnR X (unaryOp op) r) (o : UnD X r g) (ha : DE X a τ f) : DE X (.UnaryOp op a pos) τ (eUn g f) := pe_imp (pe_un ho ha) fun σ H Q ⟨R, ρ, fs, h, ρ', s, e, q⟩ => by
  obtain ⟨p, e1, e2⟩ := bindO e
  obtain ⟨d, e3, e4⟩ := bindO e2
  cases e4
  exact ⟨R, ρ, fs, p.1, p.2, s, e1, fun v H' fs' t s' r => o (R ++ fs') H' _ _ v Q s'.own (s'.res r) e3 fun v2 H2 g2 rf => q v2 H2 fs' (t.trans (Step.grow g2 _)) (s'.grow g2) rf⟩
/-! ### calls of built-ins -/
inductive Rvs (K : PySem.W.Frag) (mg : Str → Option Value) (S : List Addr) (H : Hp) : List D → List V → Prop
  | nil : Rvs K mg S H [] []
  | cons {d : D} {v : V} {ds : List D} {vs : List V} : Rv K mg S H d v → Rvs K mg S H ds vs → Rvs K mg S H (d :: ds) (v :: vs)
theorem SR.ress {K : PySem.W.Frag} {mg : Str → Option Value} {R : List Addr} {ρ : Rho} {σ : L2.St} {H : Hp} {fs : List Addr} (s : SR K mg R τ ρ σ H fs) : ∀ {hs : List Hd} {vs : List V}, RHs K mg (R ++ fs) τ σ H hs vs → Rvs K mg (R ++ fs) H (hs.map fun h => h.res ρ) vs
  | _, _, .nil => .nil
  | _, _, .cons h r => .cons (s.res h) (SR.ress s r)
def CaD (X : Cx) (r : List V → Hp → VK → Prop) (g : List D → Option D) : Prop := ∀ (S : List Addr) (H : Hp) (ds : List D) (d : D) (vs : List V) (Q : VK), (∀ a ∈ S, ∃ o, H a = some o ∧ Own o) → Rvs X.K X.mg S H ds vs → g ds = some d →
  (∀ v H', Grow H H' → Rf X.K X.mg (hide S H') d v → Q v H') → r vs H Q
def CaO (X : Cx) (r : List V → Hp → VK → Prop) (g : List D → Option (List D)) : Prop := ∀ (S : List Addr) (H : Hp) (ds : List D) (d : List D) (vs : List V) (Q : VK), (∀ a ∈ S, ∃ o, H a = some o ∧ Own o) → Rvs X.K X.mg S H ds vs → g ds = some d →
  (∀ p H1 vs, Grow H H1 → H1 p = none → Rfs X.K X.mg (hide S H1) d vs → Q (.ref p) (upd H1 p (.lst vs))) → r vs H Q
theorem CaD.or {r r' : List V → Hp → VK → Prop} {g g' : List D → Option D} (h : CaD X r g) (h' : CaD X r' g') : CaD X (fun x H Q => r x H Q ∨ r' x H Q) (fun ds => (g ds).or (g' ds)) := fun S H ds d vs Q al r1 e q => by
  cases e1 : g ds with
  | some z => simp only [e1] at e; exact .inl (h S H ds d vs Q al r1 (by rw [e1]; exact e) q)
  | none => simp only [e1] at e; exact .inr (h' S H ds d vs Q al r1 (by simpa using e) q)
def eCa (g : List D → Option D) (f : Af) : Ef := fun ρ => (f ρ).bind fun p => (g (p.1.map fun h => h.res p.2)).bind fun d => some (.v d, p.2)
def oCa (g : List D → Option (List D)) (f : Af) : Of := fun ρ => (f ρ).bind fun p => (g (p.1.map fun h => h.res p.2)).bind fun d => some (.lst d, p.2)
theorem tCB_of {r : List V → Hp → VK → Prop} {g : List D → Option D} {f : Af} (o : CaD X r g) : ∀ σ H Q, tD X τ (eCa g f) σ H Q → tCB r (tA X τ f) σ H Q := fun σ H Q ⟨R, ρ, fs, h, ρ', s, e, q⟩ => by
  obtain ⟨p, e1, e2⟩ := bindO e
  obtain ⟨d, e3, e4⟩ := bindO e2
  cases e4
  exact ⟨R, ρ, fs, p.1, p.2, s, e1, fun v H' fs' t s' r => o (R ++ fs') H' _ _ v Q s'.own (s'.ress r) e3 fun v2 H2 g2 rf => q v2 H2 fs' (t.trans (Step.grow g2 _)) (s'.grow g2) rf⟩
theorem tCBO_of {r : List V → Hp → VK → Prop} {g : List D → Option (List D)} {f : Af} (o : CaO X r g) : ∀ σ H Q, tO X τ (oCa g f) (.oL .sh) σ H Q → tCB r (tA X τ f) σ H Q := fun σ H Q ⟨R, ρ, fs, h, ρ', s, e, q⟩ => by
  obtain ⟨p, e1, e2⟩ := bindO e
  obtain ⟨d, e3, e4⟩ := bindO e2
  cases e4
  refine ⟨R, ρ, fs, p.1, p.2, s, e1, fun v H' fs' t s' r => o (R ++ fs') H' _ _ v Q s'.own (s'.ress r) e3 fun a H1 vs g1 ha rf => ?_⟩
  obtain ⟨n1, n2, n3⟩ := (s'.grow g1).newL ha rf
  exact q _ _ fs' [a] (t.trans ((Step.grow g1 _).trans n3)) n1 n2
variable {x : Str} {p : Pos} {id T : String}
theorem de_callB {r : List V → Hp → VK → Prop} {g : List D → Option D} {f : Af} (hc : CallR X (.builtin id) r) (o : CaD X r g) (hg : Gl X x) (hm : X.mg x = none) (hv : bootBuiltins x = some (.builtin id)) (ha : DA X (e :: es) τ f) (hn : x ≠ "__name__" := by decide) (hdb : (x == ("__debug__" : Str)) = false := by decide)
    (he : starEach (e :: es) X.env = (false, eval e X.env) :: starEach es X.env := by rfl) (hpl : (backTo pos (starEach es X.env)).any (·.1) = false := by rfl) : DE X (.Call (.Name x p) (e :: es) [] pos) τ (eCa g f) := pe_imp (pe_callB hc hg hm hv ha hn hdb he hpl) (tCB_of o)
theorem de_callTy {r : List V → Hp → VK → Prop} {g : List D → Option D} {f : Af} (hc : CallR X (.type T) r) (o : CaD X r g) (hg : Gl X x) (hm : X.mg x = none) (hv : bootBuiltins x = some (.type T)) (ha : DA X (e :: es) τ f) (hn : x ≠ "__name__" := by decide) (hdb : (x == ("__debug__" : Str)) = false := by decide)
    (he : starEach (e :: es) X.env = (false, eval e X.env) :: starEach es X.env := by rfl) (hpl : (backTo pos (starEach es X.env)).any (·.1) = false := by rfl) : DE X (.Call (.Name x p) (e :: es) [] pos) τ (eCa g f) := pe_imp (pe_callTy hc hg hm hv ha hn hdb he hpl) (tCB_of o)
theorem do_callB {r : List V → Hp → VK → Prop} {g : List D → Option (List D)} {f : Af} (hc : CallR X (.builtin id) r) (o : CaO X r g) (hg : Gl X x) (hm : X.mg x = none) (hv : bootBuiltins x = some (.builtin id)) (ha : DA X (e :: es) τ f) (hn : x ≠ "__name__" := by decide) (hdb : (x == ("__debug__" : Str)) = false := by decide)
    (he : starEach (e :: es) X.env = (false, eval e X.env) :: starEach es X.env := by rfl) (hpl : (backTo pos (starEach es X.env)).any (·.1) = false := by rfl) : DO X (.Call (.Name x p) (e :: es) [] pos) τ (oCa g f) (.oL .sh) := pe_imp (pe_callB hc hg hm hv ha hn hdb he hpl) (tCBO_of o)
theorem do_callTy {r : List V → Hp → VK → Prop} {g : List D → Option (List D)} {f : Af} (hc : CallR X (.type T) r) (o : CaO X r g) (hg : Gl X x) (hm : X.mg x = none) (hv : bootBuiltins x = some (.type T)) (ha : DA X (e :: es) τ f) (hn : x ≠ "__name__" := by decide) (hdb : (x == ("__debug__" : Str)) = false := by decide)
    (he : starEach (e :: es) X.env = (false, eval e X.env) :: starEach es X.env := by rfl) (hpl : (backTo pos (starEach es X.env)).any (·.1) = false := by rfl) : DO X (.Call (.Name x p) (e :: es) [] pos) τ (oCa g f) (.oL .sh) := pe_imp (pe_callTy hc hg hm hv ha hn hdb he hpl) (tCBO_of o)
/-! ### slices -/
def SlD (X : Cx) (r : V → Option Int → Option Int → Hp → VK → Prop) (g : D → Option Int → Option Int → Option D) : Prop := ∀ (S : List Addr) (H : Hp) (d1 d : D) (lo hi : Option Int) (v1 : V) (Q : VK), (∀ a ∈ S, ∃ o, H a = some o ∧ Own o) → Rv X.K X.mg S H d1 v1 → g d1 lo hi = some d →
  (∀ v H', Grow H H' → Rf X.K X.mg (hide S H') d v → Q v H') → r v1 lo hi H Q
def SlO (X : Cx) (r : V → Option Int → Option Int → Hp → VK → Prop) (g : D → Option Int → Option Int → Option (List D)) : Prop := ∀ (S : List Addr) (H : Hp) (d1 : D) (d : List D) (lo hi : Option Int) (v1 : V) (Q : VK), (∀ a ∈ S, ∃ o, H a = some o ∧ Own o) → Rv X.K X.mg S H d1 v1 → g d1 lo hi = some d →
  (∀ p vs, H p = none → Rfs X.K X.mg (hide S H) d vs → Q (.ref p) (upd H p (.lst vs))) → r v1 lo hi H Q
abbrev Pf := Rho → Option (Option Int × Rho)
def tP (X : Cx) (τ : List Ty) (f : Pf) : TO := fun σ H Q => ∃ R ρ fs b ρ', SR X.K X.mg R τ ρ σ H fs ∧ f ρ = some (b, ρ') ∧ ∀ H' fs', Step H H' fs fs' → SR X.K X.mg R τ ρ' σ H' fs' → Q b H'
abbrev DP (X : Cx) (e : Option Expr) (τ : List Ty) (f : Pf) : Prop := PO X e (tP X τ f)
theorem po_imp {X : Cx} {e : Option Expr} {t t' : TO} (h : PO X e t) (k : ∀ σ H Q, t' σ H Q → t σ H Q) : PO X e t' := ⟨fun pins s σ H Q I q => h.run pins s σ H Q I (k σ H Q q)⟩
def pNo : Pf := fun ρ => some (none, ρ)
def pSome (f : Ef) : Pf := fun ρ => (f ρ).bind fun p => match p.1 with
  | .v (.int i) => some (some i, p.2)
  | _ => none
theorem dp_no : DP X none τ pNo := po_imp po_none fun σ H Q ⟨R, ρ, fs, h, ρ', s, e, q⟩ => by
  cases e
  exact q H fs (Step.refl H fs) s
theorem dp_some {f : Ef} (h : DE X e τ f) : DP X (some e) τ (pSome f) := po_imp (po_some h) fun σ H Q ⟨R, ρ, fs, h, ρ', s, e, q⟩ => by
  obtain ⟨p, e1, e2⟩ := bindO e
  obtain ⟨p1, p2⟩ := p
  cases p1 with
  | x i => cases e2
  | v d =>
    cases d with
    | int i =>
      cases e2
      refine ⟨R, ρ, fs, _, _, s, e1, fun v H' fs' t s' r => ?_⟩
      cases r
      exact ⟨i, rfl, q H' fs' t s'⟩
    | _ => cases e2
def eSl (g : D → Option Int → Option Int → Option D) (f : Ef) (lo hi : Pf) : Ef := fun ρ => (f ρ).bind fun p => (lo p.2).bind fun l => (hi l.2).bind fun h => (g (p.1.res h.2) l.1 h.1).bind fun d => some (.v d, h.2)
def oSl (g : D → Option Int → Option Int → Option (List D)) (f : Ef) (lo hi : Pf) : Of := fun ρ => (f ρ).bind fun p => (lo p.2).bind fun l => (hi l.2).bind fun h => (g (p.1.res h.2) l.1 h.1).bind fun d => some (.lst d, h.2)
theorem de_slice {r : V → Option Int → Option Int → Hp → VK → Prop} {g : D → Option Int → Option Int → Option D} {f : Ef} {lo hi : Pf} {l u : Option Expr} {p2 : Pos} (hr : SlR X r) (o : SlD X r g) (he : DE X e τ f) (hl : DP X l τ lo) (hu : DP X u τ hi) :
    DE X (.Subscript e (.Slice l u none p2) pos) τ (eSl g f lo hi) := pe_imp (pe_slice hr he hl hu) fun σ H Q ⟨R, ρ, fs, h, ρ', s, e, q⟩ => by
  obtain ⟨p, e1, e2⟩ := bindO e
  obtain ⟨w, e3, e4⟩ := bindO e2
  obtain ⟨z, e5, e6⟩ := bindO e4
  obtain ⟨d, e7, e8⟩ := bindO e6
  cases e8
  refine ⟨R, ρ, fs, p.1, p.2, s, e1, fun v H' fs' t s' r => ⟨R, p.2, fs', w.1, w.2, s', e3, fun H2 fs2 t2 s2 => ⟨R, w.2, fs2, z.1, z.2, s2, e5, fun H3 fs3 t3 s3 => ?_⟩⟩⟩
  exact o (R ++ fs3) H3 _ _ _ _ v Q s3.own (s3.res (s2.holdH t3 (s'.holdH t2 r))) e7 fun v4 H4 g4 rf => q v4 H4 fs3 ((t.trans t2).trans (t3.trans (Step.grow g4 _))) (s3.grow g4) rf
theorem do_slice {r : V → Option Int → Option Int → Hp → VK → Prop} {g : D → Option Int → Option Int → Option (List D)} {f : Ef} {lo hi : Pf} {l u : Option Expr} {p2 : Pos} (hr : SlR X r) (o : SlO X r g) (he : DE X e τ f) (hl : DP X l τ lo) (hu : DP X u τ hi) :
    DO X (.Subscript e (.Slice l u none p2) pos) τ (oSl g f lo hi) (.oL .sh) := pe_imp (pe_slice hr he hl hu) fun σ H Q ⟨R, ρ, fs, h, ρ', s, e, q⟩ => by
  obtain ⟨p, e1, e2⟩ := bindO e
  obtain ⟨w, e3, e4⟩ := bindO e2
  obtain ⟨z, e5, e6⟩ := bindO e4
  obtain ⟨d, e7, e8⟩ := bindO e6
  cases e8
  refine ⟨R, ρ, fs, p.1, p.2, s, e1, fun v H' fs' t s' r => ⟨R, p.2, fs', w.1, w.2, s', e3, fun H2 fs2 t2 s2 => ⟨R, w.2, fs2, z.1, z.2, s2, e5, fun H3 fs3 t3 s3 => ?_⟩⟩⟩
  refine o (R ++ fs3) H3 _ _ _ _ v Q s3.own (s3.res (s2.holdH t3 (s'.holdH t2 r))) e7 fun a vs ha rf => ?_
  obtain ⟨n1, n2, n3⟩ := s3.newL ha rf
  exact q _ _ fs3 [a] (((t.trans t2).trans t3).trans n3) n1 n2
/-! ### methods of built-in types that change nothing -/
def MtD (X : Cx) (T : String) (r : V → List V → Hp → VK → Prop) (g : D → List D → Option D) : Prop := ∀ (S : List Addr) (H : Hp) (d1 : D) (ds : List D) (d : D) (v1 : V) (vs : List V) (Q : VK), (∀ a ∈ S, ∃ o, H a = some o ∧ Own o) → Rv X.K X.mg S H d1 v1 → Rvs X.K X.mg S H ds vs → g d1 ds = some d →
  (∀ v H', Grow H H' → Rf X.K X.mg (hide S H') d v → Q v H') → r v1 vs H Q
end
end TL

namespace TL
open PySem PySem.Spec PyProof.Rows L2

/-! ### slots changed -/
def kill (ks : List Nat) (ρ : Rho) : Rho := ks.foldl (fun r i => r.set i .non) ρ
def killT (ks : List Nat) (τ : List Ty) : List Ty := ks.foldl (fun r i => r.set i .no) τ
section
variable {K : PySem.W.Frag} {mg : Str → Option Value} {R : List Addr} {τ : List Ty} {ρ : Rho} {σ : L2.St} {H H' : Hp} {fs fs' : List Addr}
theorem hide_sub {S S' : List Addr} {H : Hp} (k : ∀ a ∈ S', a ∈ S) : Le (hide S H) (hide S' H) := hide_mono fun a o n e => ⟨fun z => n (k a z), e⟩
theorem nodup_mid {A f1 fo f2 f' : List Addr} (h : (A ++ (f1 ++ fo ++ f2)).Nodup) (k : ∀ a ∈ f', a ∉ A ++ (f1 ++ f2)) (n : f'.Nodup) : (A ++ (f1 ++ f' ++ f2)).Nodup := by
  simp only [List.nodup_append, List.mem_append, not_or] at h k ⊢
  obtain ⟨hA, ⟨⟨h1, ho, h1o⟩, h2, h12⟩, hx⟩ := h
  refine ⟨hA, ⟨⟨h1, n, fun a ha b hb e => ?_⟩, h2, fun a ha b hb e => ?_⟩, fun a ha b hb e => ?_⟩
  · subst e; exact (k _ hb).2.1 ha
  · subst e
    rcases ha with ha | ha
    · exact h12 _ (.inl ha) _ hb rfl
    · exact (k _ ha).2.2 hb
  · subst e
    rcases hb with (hb | hb) | hb
    · exact hx _ ha _ (.inl (.inl hb)) rfl
    · exact (k _ hb).1 ha
    · exact hx _ ha _ (.inr hb) rfl
/-- a value goes into a slot -/
theorem SR.put {fv : List Addr} {i : Nat} {t : Ty} {d : D} {v : V} (s : SR K mg (fv ++ R) τ ρ σ H fs) (hi : i < τ.length) (r : Rp K mg H (hide (fv ++ R ++ fs) H) t d v fv) :
    ∃ fs', SR K mg R (τ.set i t) (ρ.set i d) (σ.set i (some v)) H fs' ∧ ∀ a ∈ fs', a ∈ fv ++ fs := by
  obtain ⟨f1, fo, f2, ef, ho, hl, h1, h2, h3⟩ := s.sl.split (List.getElem?_eq_getElem hi)
  have nd := s.nd
  subst ef
  have sub : ∀ a ∈ R ++ (f1 ++ fv ++ f2), a ∈ fv ++ R ++ (f1 ++ fo ++ f2) := by
    intro a ha
    simp only [List.mem_append] at ha ⊢
    rcases ha with h | (h | h) | h <;> simp [h]
  have le : Le (hide (fv ++ R ++ (f1 ++ fo ++ f2)) H) (hide (R ++ (f1 ++ fv ++ f2)) H) := hide_sub sub
  refine ⟨f1 ++ fv ++ f2, ⟨h1 (fun _ _ => rfl) le (r.mono le fun _ _ => rfl), ?_, fun a ha => s.al a (List.mem_append_right _ ha)⟩, fun a ha => ?_⟩
  · have nd' : (R ++ (f1 ++ fo ++ f2)).Nodup := by
      rw [List.append_assoc] at nd
      exact (List.nodup_append.mp nd).2.1
    refine nodup_mid nd' (fun a ha z => ?_) ?_
    · rw [List.append_assoc] at nd
      exact (List.nodup_append.mp nd).2.2 a ha a (by
        simp only [List.mem_append] at z ⊢
        rcases z with h | h | h <;> simp [h]) rfl
    · rw [List.append_assoc] at nd
      exact (List.nodup_append.mp nd).1
  · simp only [List.mem_append] at ha ⊢
    rcases ha with (h | h) | h <;> simp [h]
theorem set_getD {α : Type} (d : α) : ∀ (l : List α) (i : Nat), l.set i (l.getD i d) = l
  | [], _ => rfl
  | a :: r, 0 => rfl
  | a :: r, i + 1 => by simpa using set_getD d r i
theorem set_at {α : Type} : ∀ {l : List α} {i : Nat} {t : α}, l[i]? = some t → l.set i t = l
  | [], _, _, e => by simp at e
  | a :: r, 0, t, e => by simp at e; simp [e]
  | a :: r, i + 1, t, e => by simpa using set_at (l := r) (i := i) (by simpa using e)
theorem SR.frz {i : Nat} {t : Ty} (s : SR K mg R τ ρ σ H fs) (e : τ[i]? = some t) (n : t ≠ .no) : ∃ fs', SR K mg R (τ.set i .sh) ρ σ H fs' ∧ ∀ a ∈ fs', a ∈ fs := by
  obtain ⟨f1, fo, f2, ef, ho, hl, h1, h2, h3⟩ := s.sl.split e
  subst ef
  rcases ho with ⟨z, _⟩ | ⟨v, ev, r⟩
  · exact absurd z n
  · have le : Le (hide (R ++ (f1 ++ fo ++ f2)) H) (hide (R ++ (f1 ++ [] ++ f2)) H) := hide_sub fun a ha => by
      simp only [List.mem_append] at ha ⊢
      rcases ha with h | (h | h) | h
      · simp [h]
      · simp [h]
      · simp at h
      · simp [h]
    have nd := s.nd
    have rf : Rf K mg (hide (R ++ (f1 ++ [] ++ f2)) H) (ρ.getD i .non) v := r.frz le fun a ha o eo => hide_some.mpr ⟨fun z => ?_, eo⟩
    · have q := h2 (fun _ _ => rfl) le ev (.sh rf)
      rw [set_getD] at q
      refine ⟨f1 ++ [] ++ f2, ⟨q, nodup_mid nd (fun a ha => nomatch ha) List.nodup_nil, s.al⟩, fun a ha => ?_⟩
      simp only [List.mem_append] at ha ⊢
      rcases ha with (h | h) | h
      · simp [h]
      · simp at h
      · simp [h]
    · simp only [List.nodup_append, List.mem_append] at nd
      simp only [List.mem_append] at z
      rcases z with z | (z | z) | z
      · exact nd.2.2 a z a (.inl (.inr ha)) rfl
      · exact nd.2.1.1.2.2 a z a ha rfl
      · simp at z
      · exact nd.2.1.2.2 a (.inr ha) a z rfl
theorem SR.kill1 (s : SR K mg R τ ρ σ H fs) (i : Nat) (d : D) : ∃ fs', SR K mg R (τ.set i .no) (ρ.set i d) σ H fs' ∧ ∀ a ∈ fs', a ∈ fs := by
  by_cases hi : i < τ.length
  · obtain ⟨f1, fo, f2, ef, ho, hl, h1, h2, h3⟩ := s.sl.split (List.getElem?_eq_getElem hi)
    subst ef
    have nd := s.nd
    refine ⟨f1 ++ f2, ⟨h3 (fun _ _ => rfl) (hide_sub fun a ha => ?_), ?_, s.al⟩, fun a ha => ?_⟩
    · simp only [List.mem_append] at ha ⊢
      rcases ha with h | h | h <;> simp [h]
    · have := nodup_mid nd (f' := []) (fun a ha => nomatch ha) List.nodup_nil
      simpa using this
    · simp only [List.mem_append] at ha ⊢
      rcases ha with h | h <;> simp [h]
  · have hl := s.sl.len
    rw [List.set_eq_of_length_le (by omega), List.set_eq_of_length_le (by omega)]
    exact ⟨fs, s, fun _ h => h⟩
theorem SR.killS : ∀ (ks : List Nat) {τ : List Ty} {ρ : Rho} {fs : List Addr}, SR K mg R τ ρ σ H fs → ∃ fs', SR K mg R (killT ks τ) (kill ks ρ) σ H fs' ∧ ∀ a ∈ fs', a ∈ fs
  | [], _, _, fs, s => ⟨fs, s, fun _ h => h⟩
  | i :: ks, _, _, _, s => by
    obtain ⟨f1, s1, k1⟩ := s.kill1 i .non
    obtain ⟨f2, s2, k2⟩ := SR.killS ks s1
    exact ⟨f2, s2, fun a ha => k1 a (k2 a ha)⟩
end

/-! ### a def's promise -/
structure Sg where
  ps : List Ty
  ret : Ty
def Ty.io : Ty → Ty
  | .sh => .no
  | t => t
/-- the result, and the parameters' trees behind the call -/
abbrev Fm := List D → Option (D × List D)
def spD (K : PySem.W.Frag) (mg : Str → Option Value) (sg : Sg) (F : Fm) : Sp := fun vs H Q _ => ∃ R ds fs d ds', SR K mg R sg.ps ds (vs.map some) H fs ∧ F ds = some (d, ds') ∧
  ∀ v H' fs' fv, Step H H' fs (fv ++ fs') → SR K mg (fv ++ R) (sg.ps.map Ty.io) ds' (vs.map some) H' fs' → Rp K mg H' (hide (fv ++ R ++ fs') H') sg.ret d v fv → Q v H'
abbrev FnD (P : Program) (w : World) (K : PySem.W.Frag) (mg : Str → Option Value) (base : Heap) (k : Nat) (f : Addr) (fd : FuncData) (ps : List Str) (sg : Sg) (F : Fm) : Prop := FnOk P w K mg base CX0 k f fd ps (spD K mg sg F)
theorem Sl.of_sh {K : PySem.W.Frag} {mg : Str → Option Value} {H G : Hp} : ∀ {ds : List D} {vs : List V}, Rfs K mg G ds vs → Sl K mg H G (List.replicate ds.length .sh) ds (vs.map some) []
  | _, _, .nil => .nil
  | _, _, .cons h r => by
    have q := Sl.cons (Rp.sh (K := K) (mg := mg) (H := H) h) (Sl.of_sh r)
    exact q
theorem SR.args {K : PySem.W.Frag} {mg : Str → Option Value} {S : List Addr} {H : Hp} {ds : List D} {vs : List V} (r : Rfs K mg (hide S H) ds vs) (nd : S.Nodup) (al : ∀ a ∈ S, ∃ o, H a = some o ∧ Own o) : SR K mg S (List.replicate ds.length .sh) ds (vs.map some) H [] := by
  refine ⟨?_, by simpa using nd, al⟩
  rw [List.append_nil]
  exact Sl.of_sh r

section
variable {X : Cx} {τ : List Ty} {a b c e : Expr} {es : List Expr} {pos p : Pos} {x : Str} {k : Nat} {f : Addr} {fd : FuncData} {ps : List Str} {sg : Sg} {F : Fm}
/-! ### a call: all arguments frozen -/
def oCall (F : Fm) (g : Af) : Of := fun ρ => (g ρ).bind fun p => (hvals p.1).bind fun ds => (F ds).bind fun r => some (r.1, p.2)
theorem hvals_len : ∀ {hs : List Hd} {ds : List D}, hvals hs = some ds → ds.length = hs.length
  | [], _, e => by cases e; rfl
  | .v d :: r, _, e => by
    obtain ⟨ds, e1, e2⟩ := bindO (show (hvals r).bind _ = _ from e)
    cases e2
    simp [hvals_len e1]
  | .x i :: r, _, e => by cases e
theorem do_call {g : Af} (Fo : FnD X.prog X.w X.K X.mg X.base k f fd ps sg F) (hr : Room k X.A) (hg : Gl X x) (hm : X.mg x = some (.ref f)) (hk : PySem.W.keepIn X.K (.ref f) = true) (hb : Binds X.K fd ps [])
    (ha : DA X (e :: es) τ g) (n : Nat) (hps : sg.ps = List.replicate n .sh) (hn : ∀ ds r, F ds = some r → ds.length = n) (hdb : (x == ("__debug__" : Str)) = false := by decide) (he : starEach (e :: es) X.env = (false, eval e X.env) :: starEach es X.env := by rfl) (hpl : (backTo pos (starEach es X.env)).any (·.1) = false := by rfl) :
    DO X (.Call (.Name x p) (e :: es) [] pos) τ (oCall F g) sg.ret := pe_imp (pe_call Fo hr hg hm hk hb .nil (pass0 (X := X)) ha hdb he hpl) fun σ H Q ⟨R, ρ, fs, d, ρ', s, eq, q⟩ => by
  obtain ⟨w, e1, e2⟩ := bindO eq
  obtain ⟨ds, e3, e4⟩ := bindO e2
  obtain ⟨r, e5, e6⟩ := bindO e4
  cases e6
  refine ⟨R, ρ, fs, w.1, w.2, s, e1, fun vs H1 fs1 t1 s1 r1 => ?_⟩
  have rf := r1.valsOf e3
  show spD X.K X.mg sg F (vs ++ []) H1 Q E0
  rw [List.append_nil]
  have sa := SR.args rf s1.nd s1.own
  rw [hn _ _ e5, ← hps] at sa
  refine ⟨R ++ fs1, ds, [], r.1, r.2, sa, e5, fun v H2 fs2 fv t2 s2 rp => ?_⟩
  have gr : Grow H1 H2 := fun a o e => t2.ext a o (by simp) e
  have fr : ∀ a ∈ fv, H1 a = none := fun a ha => (t2.sub a (List.mem_append_left _ ha)).elim (fun z => by simp at z) id
  have nd2 := s2.nd
  refine q v H2 fs1 fv (t1.trans ⟨fun a o _ e => gr a o e, fun a ha => (List.mem_append.mp ha).elim (fun z => .inr (fr a z)) .inl, fun a o e => ⟨o, gr a o e⟩⟩) ⟨s1.sl.mono ?_ ?_, ?_, fun a ha => ?_⟩ (rp.mono ?_ fun _ _ => rfl)
  · refine hide_mono fun a o n e => ⟨fun z => ?_, gr a o e⟩
    simp only [List.mem_append] at z n
    rcases z with (z | z) | z
    · rw [fr a z] at e; cases e
    · exact n (.inl z)
    · exact n (.inr z)
  · intro a ha
    obtain ⟨o, e, _⟩ := s1.sl.there a ha
    rw [e, gr a o e]
  · rw [List.append_assoc] at nd2
    have := List.nodup_append.mp nd2
    rw [List.append_assoc, List.nodup_append]
    refine ⟨this.1, s1.nd, fun a ha b hb => this.2.2 a ha b (List.mem_append_left _ hb)⟩
  · rcases List.mem_append.mp ha with z | z
    · exact s2.own a (List.mem_append_left _ (List.mem_append_left _ z))
    · obtain ⟨o, e, w⟩ := s1.al a z
      exact ⟨o, gr a o e, w⟩
  · exact hide_sub fun a ha => by
      simp only [List.mem_append] at ha ⊢
      rcases ha with (z | z) | z <;> simp [z]

/-! ### a call with borrowed lists: what comes back holds none -/
def immL (l : List D) (f : D → Bool) : Bool := l.all f
mutual
def imm : D → Bool
  | .tup l => imms l
  | .lst _ => false
  | .dct _ => false
  | .set _ => false
  | .obj _ _ => false
  | .scr _ => false
  | _ => true
def imms : List D → Bool
  | [] => true
  | d :: r => imm d && imms r
end
def immR : Ty → D → Bool
  | .sh, d => imm d
  | .oL .sh, .lst l => imms l
  | _, _ => false
mutual
theorem Rf.imm {K : PySem.W.Frag} {mg : Str → Option Value} {G G' : Hp} (h : ∀ a xs, G a = some (.tup xs) → G' a = some (.tup xs)) (hf : ∀ a o u, G a = some (.frz o u) → G' a = some (.frz o u)) : ∀ {d : D} {v : V}, imm d = true → Rf K mg G d v → Rf K mg G' d v
  | _, _, _, .non => .non
  | _, _, _, .bl b => .bl b
  | _, _, _, .int i => .int i
  | _, _, _, .str s => .str s
  | _, _, e, .tup q r => .tup (by
      rcases q with (q | ⟨o, q⟩) | q
      · exact .inl (.inl (h _ _ q))
      · exact .inl (.inr ⟨o, hf _ _ _ q⟩)
      · exact .inr q) (Rfs.imm h hf (by simpa [TL.imm] using e) r)
  | _, _, e, .lst _ _ => by simp [TL.imm] at e
  | _, _, e, .dK _ _ _ => by simp [TL.imm] at e
  | _, _, e, .dT _ _ _ => by simp [TL.imm] at e
  | _, _, e, .obj _ _ _ _ => by simp [TL.imm] at e
  | _, _, e, .scr _ => by simp [TL.imm] at e
theorem Rfs.imm {K : PySem.W.Frag} {mg : Str → Option Value} {G G' : Hp} (h : ∀ a xs, G a = some (.tup xs) → G' a = some (.tup xs)) (hf : ∀ a o u, G a = some (.frz o u) → G' a = some (.frz o u)) : ∀ {d : List D} {v : List V}, imms d = true → Rfs K mg G d v → Rfs K mg G' d v
  | _, _, _, .nil => .nil
  | _, _, e, .cons q r => .cons (Rf.imm h hf (by simp [imms] at e; exact e.1) q) (Rfs.imm h hf (by simp [imms] at e; exact e.2) r)
end
theorem Rv.whole {K : PySem.W.Frag} {mg : Str → Option Value} {S : List Addr} {H : Hp} {d : D} {v : V} (r : Rv K mg S H d v) : Rf K mg (hide [] H) d v := by
  have le : Le (hide S H) (hide [] H) := hide_sub fun a ha => by simp at ha
  have eq : hide [] H = H := by funext a; simp [hide]
  rw [eq] at le ⊢
  cases r with
  | rf r => exact r.mono le
  | lst h r => exact .lst h (r.mono le)
  | dK h n r => exact .dK h n (r.mono le)
  | dT h n r => exact .dT h n (r.mono le)
theorem Rvs.whole {K : PySem.W.Frag} {mg : Str → Option Value} {S : List Addr} {H : Hp} : ∀ {d : List D} {v : List V}, Rvs K mg S H d v → Rfs K mg (hide [] H) d v
  | _, _, .nil => .nil
  | _, _, .cons h r => .cons h.whole (Rvs.whole r)
def oCallB (t : Ty) (F : Fm) (g : Af) : Of := fun ρ => (g ρ).bind fun p => (F (p.1.map fun h => h.res p.2)).bind fun r => if immR t r.1 then some (r.1, p.2) else none
theorem do_callB' {g : Af} (Fo : FnD X.prog X.w X.K X.mg X.base k f fd ps sg F) (hr : Room k X.A) (hg : Gl X x) (hm : X.mg x = some (.ref f)) (hk : PySem.W.keepIn X.K (.ref f) = true) (hb : Binds X.K fd ps [])
    (ha : DA X (e :: es) τ g) (n : Nat) (hps : sg.ps = List.replicate n .sh) (hn : ∀ ds r, F ds = some r → ds.length = n) (hdb : (x == ("__debug__" : Str)) = false := by decide) (he : starEach (e :: es) X.env = (false, eval e X.env) :: starEach es X.env := by rfl) (hpl : (backTo pos (starEach es X.env)).any (·.1) = false := by rfl) :
    DO X (.Call (.Name x p) (e :: es) [] pos) τ (oCallB sg.ret F g) sg.ret := pe_imp (pe_call Fo hr hg hm hk hb .nil (pass0 (X := X)) ha hdb he hpl) fun σ H Q ⟨R, ρ, fs, d, ρ', s, eq, q⟩ => by
  obtain ⟨w, e1, e2⟩ := bindO eq
  obtain ⟨r, e5, e6⟩ := bindO e2
  obtain ⟨e7, e8⟩ := ifSome e6
  cases e8
  refine ⟨R, ρ, fs, w.1, w.2, s, e1, fun vs H1 fs1 t1 s1 r1 => ?_⟩
  have rf := (s1.ress r1).whole
  show spD X.K X.mg sg F (vs ++ []) H1 Q E0
  rw [List.append_nil]
  have sa := SR.args rf List.nodup_nil (fun a ha => nomatch ha)
  rw [hn _ _ e5, ← hps] at sa
  refine ⟨[], _, [], r.1, r.2, sa, e5, fun v H2 fs2 fv t2 s2 rp => ?_⟩
  have gr : Grow H1 H2 := fun a o e => t2.ext a o (by simp) e
  have fr : ∀ a ∈ fv, H1 a = none := fun a ha => (t2.sub a (List.mem_append_left _ ha)).elim (fun z => by simp at z) id
  have nd2 := s2.nd
  have nfv : fv.Nodup := by
    simp only [List.append_nil] at nd2
    exact (List.nodup_append.mp nd2).1
  have own2 : ∀ a ∈ R ++ fs1, ∃ o, H2 a = some o ∧ Own o := fun a ha => by
    obtain ⟨o, e, w⟩ := s1.own a ha
    exact ⟨o, gr a o e, w⟩
  have dis : ∀ a ∈ fv, a ∉ R ++ fs1 := fun a ha z => by
    obtain ⟨o, e, _⟩ := s1.own a z
    rw [fr a ha] at e; cases e
  have immk : ∀ a xs, hide (fv ++ [] ++ fs2) H2 a = some (.tup xs) → hide (fv ++ R ++ fs1) H2 a = some (.tup xs) := fun a xs e => by
    rw [hide_some] at e ⊢
    refine ⟨fun z => ?_, e.2⟩
    rw [List.append_assoc] at z
    rcases List.mem_append.mp z with z | z
    · exact e.1 (by simp [z])
    · obtain ⟨o, e', w⟩ := own2 a z
      rw [e.2] at e'; cases e'; exact w
  have immf : ∀ a o u, hide (fv ++ [] ++ fs2) H2 a = some (.frz o u) → hide (fv ++ R ++ fs1) H2 a = some (.frz o u) := fun a o u e => by
    rw [hide_some] at e ⊢
    refine ⟨fun z => ?_, e.2⟩
    rw [List.append_assoc] at z
    rcases List.mem_append.mp z with z | z
    · exact e.1 (by simp [z])
    · obtain ⟨o, e', w⟩ := own2 a z
      rw [e.2] at e'; cases e'; exact w
  refine q v H2 fs1 fv (t1.trans ⟨fun a o _ e => gr a o e, fun a ha => (List.mem_append.mp ha).elim (fun z => .inr (fr a z)) .inl, fun a o e => ⟨o, gr a o e⟩⟩) ⟨s1.sl.mono ?_ ?_, ?_, fun a ha => ?_⟩ ?_
  · refine hide_mono fun a o n e => ⟨fun z => ?_, gr a o e⟩
    simp only [List.mem_append] at z n
    rcases z with (z | z) | z
    · rw [fr a z] at e; cases e
    · exact n (.inl z)
    · exact n (.inr z)
  · intro a ha
    obtain ⟨o, e, _⟩ := s1.sl.there a ha
    rw [e, gr a o e]
  · rw [List.append_assoc, List.nodup_append]
    exact ⟨nfv, s1.nd, fun a ha b hb e => dis a ha (e ▸ hb)⟩
  · rcases List.mem_append.mp ha with z | z
    · exact s2.own a (by simp [z])
    · obtain ⟨o, e, w⟩ := s1.al a z
      exact ⟨o, gr a o e, w⟩
  · revert rp e7
    cases hret : sg.ret with
    | sh =>
      intro e7 rp
      cases rp with
      | sh rp => exact .sh (rp.imm immk immf e7)
    | oL t =>
      cases t with
      | sh =>
        intro e7 rp
        generalize r.1 = dd at e7 rp
        cases rp with
        | oL h rp =>
          have z := rp.to_sh
          have z2 := z.2
          subst z2
          exact .oL h (Rps.of_sh (z.1.imm immk immf e7))
      | _ => intro e7; simp [immR] at e7
    | _ => intro e7; simp [immR] at e7

/-! ### a call that changes one of its arguments -/
inductive RHi (K : PySem.W.Frag) (mg : Str → Option Value) (S : List Addr) (τ : List Ty) (σ : L2.St) (H : Hp) : Hd → V → Prop
  | rh {h : Hd} {v : V} : RH K mg S τ σ H h v → RHi K mg S τ σ H h v
  | io {i : Nat} {v : V} : σ[i]? = some (some v) → RHi K mg S τ σ H (.x i) v
inductive RHis (K : PySem.W.Frag) (mg : Str → Option Value) (S : List Addr) (τ : List Ty) (σ : L2.St) (H : Hp) : List Hd → List V → Prop
  | nil : RHis K mg S τ σ H [] []
  | cons {h : Hd} {v : V} {hs : List Hd} {vs : List V} : RHi K mg S τ σ H h v → RHis K mg S τ σ H hs vs → RHis K mg S τ σ H (h :: hs) (v :: vs)
def tAi (X : Cx) (τ : List Ty) (f : Af) : TA := fun σ H Q => ∃ R ρ fs hs ρ', SR X.K X.mg R τ ρ σ H fs ∧ f ρ = some (hs, ρ') ∧
  ∀ vs H' fs', Step H H' fs fs' → SR X.K X.mg R τ ρ' σ H' fs' → RHis X.K X.mg (R ++ fs') τ σ H' hs vs → Q vs H'
abbrev DAi (X : Cx) (es : List Expr) (τ : List Ty) (f : Af) : Prop := PA X es (tAi X τ f)
theorem SR.holdHi {K : PySem.W.Frag} {mg : Str → Option Value} {R : List Addr} {ρ : Rho} {σ : L2.St} {H H' : Hp} {fs fs' : List Addr} (s : SR K mg R τ ρ σ H fs) (t : Step H H' fs fs') {h : Hd} {v : V} (r : RHi K mg (R ++ fs) τ σ H h v) : RHi K mg (R ++ fs') τ σ H' h v := by
  cases r with
  | rh r => exact .rh (s.holdH t r)
  | io e => exact .io e
theorem dai_nil : DAi X [] τ aNil := pa_imp pa_nil fun σ H Q ⟨R, ρ, fs, h, ρ', s, e, q⟩ => by
  cases e
  exact q [] H fs (Step.refl H fs) s .nil
theorem dai_cons {f : Ef} {g : Af} (ha : DE X e τ f) (hr : DAi X es τ g) (hs : starEach (e :: es) X.env = (false, eval e X.env) :: starEach es X.env := by rfl) : DAi X (e :: es) τ (aCons f g) := pa_imp (pa_cons ha hr hs) fun σ H Q ⟨R, ρ, fs, h, ρ', s, e, q⟩ => by
  obtain ⟨p, e1, e2⟩ := bindO e
  obtain ⟨w, e3, e4⟩ := bindO e2
  cases e4
  exact ⟨R, ρ, fs, p.1, p.2, s, e1, fun v H' fs' t s' r => ⟨R, p.2, fs', w.1, w.2, s', e3, fun vs H2 fs2 t2 s2 r2 => q (v :: vs) H2 fs2 (t.trans t2) s2 (.cons (s'.holdHi t2 (.rh r)) r2)⟩⟩
theorem dai_io {g : Af} (i : Nat) {t : Ty} (ha : PE X e (tVar i)) (hr : DAi X es τ g) (ht : τ[i]? = some t := by rfl) (hn : t ≠ .no := by intro z; cases z) (hs : starEach (e :: es) X.env = (false, eval e X.env) :: starEach es X.env := by rfl) : DAi X (e :: es) τ (aCons (eOwn i) g) := pa_imp (pa_cons ha hr hs) fun σ H Q ⟨R, ρ, fs, h, ρ', s, e, q⟩ => by
  obtain ⟨p, e1, e2⟩ := bindO e
  obtain ⟨w, e3, e4⟩ := bindO e2
  cases e4
  cases e1
  obtain ⟨v, f, ev, _, _⟩ := s.get ht hn
  exact ⟨v, ev, R, ρ, fs, w.1, w.2, s, e3, fun vs H2 fs2 t2 s2 r2 => q (v :: vs) H2 fs2 t2 s2 (.cons (.io ev) r2)⟩
/-- the parameters' kinds: all frozen but the j-th -/
def ioPs (n j : Nat) (t : Ty) : List Ty := (List.replicate n .sh).set j t
/-- the handles: all values but the j-th, which is the slot i -/
def hvI (i : Nat) : List Hd → Nat → Rho → Option (List D)
  | [], _, _ => none
  | .x m :: r, 0, ρ => if m == i then (hvals r).bind fun ds => some (ρ.getD i .non :: ds) else none
  | .v _ :: _, 0, _ => none
  | .v d :: r, j + 1, ρ => (hvI i r j ρ).bind fun ds => some (d :: ds)
  | .x _ :: _, _ + 1, _ => none
def oCallI (F : Fm) (i j : Nat) (g : Af) : Of := fun ρ => (g ρ).bind fun p => (hvI i p.1 j p.2).bind fun ds => (F ds).bind fun r => some (r.1, p.2.set i (r.2.getD j .non))
theorem RHis.valsOf {K : PySem.W.Frag} {mg : Str → Option Value} {S : List Addr} {σ : L2.St} {H : Hp} : ∀ {hs : List Hd} {vs : List V} {ds : List D}, RHis K mg S τ σ H hs vs → hvals hs = some ds → Rfs K mg (hide S H) ds vs
  | _, _, _, .nil, e => by cases e; exact .nil
  | _, _, _, .cons (h := h) (hs := hs) r rs, e => by
    cases h with
    | x i => cases e
    | v d =>
      obtain ⟨ds', e1, e2⟩ := bindO (show (hvals hs).bind _ = _ from e)
      cases e2
      cases r with
      | rh r => exact .cons r (RHis.valsOf rs e1)
theorem RHis.argsI {K : PySem.W.Frag} {mg : Str → Option Value} {S : List Addr} {σ : L2.St} {H : Hp} {ρ : Rho} {t : Ty} {v : V} {fo : List Addr} {i : Nat} (ev : σ[i]? = some (some v)) (rp : Rp K mg H (hide S H) t (ρ.getD i .non) v fo) : ∀ {hs : List Hd} {vs : List V} {ds : List D} {j : Nat}, RHis K mg S τ σ H hs vs → hvI i hs j ρ = some ds →
    Sl K mg H (hide S H) (ioPs ds.length j t) ds (vs.map some) fo ∧ vs[j]? = some v ∧ j < ds.length
  | _, _, _, _, .nil, e => by cases e
  | _, _, _, 0, .cons (h := h) (v := v0) (hs := hs) r rs, e => by
    cases h with
    | v d => cases e
    | x m =>
      obtain ⟨e1, e2⟩ := ifSome' (x := ()) (r := ()) (c := m == i) (by
        unfold hvI at e
        by_cases q : (m == i) = true
        · simp [q]
        · rw [if_neg q] at e; cases e)
      have em : m = i := by simpa using e1
      subst em
      unfold hvI at e
      rw [if_pos e1] at e
      obtain ⟨ds', e3, e4⟩ := bindO e
      cases e4
      have ev' : σ[m]? = some (some v0) := by
        cases r with
        | rh r => exact r.1
        | io r => exact r
      rw [ev] at ev'; cases ev'
      have q := Sl.cons rp (Sl.of_sh (H := H) (rs.valsOf e3))
      rw [List.append_nil] at q
      exact ⟨q, rfl, by simp⟩
  | _, _, _, j + 1, .cons (h := h) (hs := hs) r rs, e => by
    cases h with
    | x i => cases e
    | v d =>
      obtain ⟨ds', e1, e2⟩ := bindO (show (hvI i hs j ρ).bind _ = _ from e)
      cases e2
      obtain ⟨q, q2, q3⟩ := RHis.argsI ev rp rs e1
      cases r with
      | rh r =>
        exact ⟨Sl.cons (Rp.sh (H := H) r) q, by simpa using q2, by simpa using q3⟩
theorem do_callI {g : Af} {t : Ty} (i j n : Nat) (Fo : FnD X.prog X.w X.K X.mg X.base k f fd ps sg F) (hr : Room k X.A) (hg : Gl X x) (hm : X.mg x = some (.ref f)) (hk : PySem.W.keepIn X.K (.ref f) = true) (hb : Binds X.K fd ps [])
    (ha : DAi X (e :: es) τ g) (hps : sg.ps = ioPs n j t) (hn : ∀ ds r, F ds = some r → ds.length = n) (ht : τ[i]? = some t := by rfl) (hno : t ≠ .no := by intro z; cases z) (hsh : t.io = t := by rfl) (hdb : (x == ("__debug__" : Str)) = false := by decide) (he : starEach (e :: es) X.env = (false, eval e X.env) :: starEach es X.env := by rfl) (hpl : (backTo pos (starEach es X.env)).any (·.1) = false := by rfl) :
    DO X (.Call (.Name x p) (e :: es) [] pos) τ (oCallI F i j g) sg.ret := pe_imp (pe_call Fo hr hg hm hk hb .nil (pass0 (X := X)) ha hdb he hpl) fun σ H Q ⟨R, ρ, fs, d, ρ', s, eq, q⟩ => by
  obtain ⟨w, e1, e2⟩ := bindO eq
  obtain ⟨ds, e3, e4⟩ := bindO e2
  obtain ⟨r, e5, e6⟩ := bindO e4
  cases e6
  refine ⟨R, ρ, fs, w.1, w.2, s, e1, fun vs H1 fs1 t1 s1 r1 => ?_⟩
  show spD X.K X.mg sg F (vs ++ []) H1 Q E0
  rw [List.append_nil]
  obtain ⟨f1, fo, f2, ef, ho, hl, h1, h2, h3⟩ := s1.sl.split ht
  rcases ho with ⟨z, _⟩ | ⟨vi, evi, rp⟩
  · exact absurd z hno
  subst ef
  obtain ⟨sa, ej, hj⟩ := r1.argsI evi rp e3
  rw [hn _ _ e5, ← hps] at sa
  have nd1 := s1.nd
  have mem1 : ∀ a, a ∈ (R ++ (f1 ++ f2)) ++ fo ↔ a ∈ R ++ (f1 ++ fo ++ f2) := fun a => by
    simp only [List.mem_append]
    constructor
    · rintro ((h | h | h) | h) <;> simp [h]
    · rintro (h | (h | h) | h) <;> simp [h]
  have ndm : ((R ++ (f1 ++ f2)) ++ fo).Nodup := by
    have pm : ((R ++ (f1 ++ f2)) ++ fo).Perm (R ++ (f1 ++ fo ++ f2)) := by
      rw [List.append_assoc]
      refine List.Perm.append_left R ?_
      rw [List.append_assoc, List.append_assoc]
      exact List.Perm.append_left f1 List.perm_append_comm
    exact pm.nodup_iff.mpr nd1
  have sA : SR X.K X.mg (R ++ (f1 ++ f2)) sg.ps ds (vs.map some) H1 fo := ⟨sa.mono (hide_sub fun a ha => (mem1 a).mp ha) fun _ _ => rfl, ndm, fun a ha => s1.own a ((mem1 a).mp (List.mem_append_left _ ha))⟩
  refine ⟨R ++ (f1 ++ f2), ds, fo, r.1, r.2, sA, e5, fun v H2 fs2 fv t2 s2 rp2 => ?_⟩
  have hjn : j < n := by rw [← hn _ _ e5]; exact hj
  have tj : (sg.ps.map Ty.io)[j]? = some t := by
    rw [hps, List.getElem?_map]
    unfold ioPs
    rw [List.getElem?_set_self (by simpa using hjn)]
    simp [hsh]
  obtain ⟨g1, f', g2, eg, ho2, _⟩ := s2.sl.split tj
  rcases ho2 with ⟨z, _⟩ | ⟨v', ev', rpj⟩
  · exact absurd z hno
  have hf' : ∀ a ∈ f', a ∈ fs2 := fun a ha => by rw [eg]; simp [ha]
  have evv : v' = vi := by
    rw [List.getElem?_map, ej] at ev'
    simpa using ev'.symm
  subst evv
  have nd2 := s2.nd
  have H12 : ∀ a ∈ R ++ (f1 ++ f2), ∀ o, H1 a = some o → H2 a = some o := fun a ha o e => t2.ext a o (fun z => (List.nodup_append.mp ndm).2.2 a ha a z rfl) e
  have key : ∀ a, a ∈ fv ++ R ++ (f1 ++ f' ++ f2) → a ∈ fv ++ (R ++ (f1 ++ f2)) ++ fs2 := fun a ha => by
    simp only [List.mem_append] at ha ⊢
    rcases ha with (h | h) | (h | h) | h
    · simp [h]
    · simp [h]
    · simp [h]
    · simp [hf' a h]
    · simp [h]
  have le1 : Le (hide (R ++ (f1 ++ fo ++ f2)) H1) (hide (fv ++ R ++ (f1 ++ f' ++ f2)) H2) := hide_mono fun a o n e => by
    have nfo : a ∉ fo := fun z => n (by simp [z])
    refine ⟨fun z => ?_, t2.ext a o nfo e⟩
    have z := key a z
    have nR : a ∉ R ++ (f1 ++ f2) := fun z => n ((mem1 a).mp (List.mem_append_left _ z))
    rcases List.mem_append.mp z with z | z
    · rcases List.mem_append.mp z with z | z
      · rcases t2.sub a (List.mem_append_left _ z) with q | q
        · exact nfo q
        · rw [q] at e; cases e
      · exact nR z
    · rcases t2.sub a (List.mem_append_right _ z) with q | q
      · exact nfo q
      · rw [q] at e; cases e
  have rpj' : Rp X.K X.mg H2 (hide (fv ++ R ++ (f1 ++ f' ++ f2)) H2) t (r.2.getD j .non) v' f' := rpj.mono (hide_sub key) fun _ _ => rfl
  have sl' := h2 (H' := H2) (G' := hide (fv ++ R ++ (f1 ++ f' ++ f2)) H2) (t' := t) (d' := r.2.getD j .non) (v' := v') (f' := f') (fun a ha => by
      obtain ⟨o, e, _⟩ := s1.own a (by
        simp only [List.mem_append] at ha ⊢
        rcases ha with h | h <;> simp [h])
      rw [e, H12 a (List.mem_append_right _ ha) o e]) le1 evi rpj'
  rw [set_at ht] at sl'
  have nfs2 : fs2.Nodup := (List.nodup_append.mp nd2).2.1
  have nf' : f'.Nodup := by
    rw [eg] at nfs2
    exact (List.nodup_append.mp (List.nodup_append.mp nfs2).1).2.1
  have ndA : (fv ++ (R ++ (f1 ++ f2))).Nodup := (List.nodup_append.mp nd2).1
  have nd3 : (fv ++ R ++ (f1 ++ f' ++ f2)).Nodup := by
    refine nodup_mid (fo := []) ?_ (fun a ha z => ?_) nf'
    · simp only [List.append_nil]
      rw [List.append_assoc]; exact ndA
    · refine (List.nodup_append.mp nd2).2.2 a ?_ a (hf' a ha) rfl
      rw [List.append_assoc] at z
      exact z
  refine q v H2 (f1 ++ f' ++ f2) fv (t1.trans ⟨fun a o n e => t2.ext a o (fun z => n (by simp [z])) e, fun a ha => ?_, t2.ne⟩) ⟨sl', nd3, fun a ha => ?_⟩ (rp2.mono (hide_sub key) fun _ _ => rfl)
  · rcases List.mem_append.mp ha with z | z
    · rcases t2.sub a (List.mem_append_left _ z) with q | q
      · exact .inl (by simp [q])
      · exact .inr q
    · simp only [List.mem_append] at z
      rcases z with (z | z) | z
      · exact .inl (by simp [z])
      · rcases t2.sub a (List.mem_append_right _ (hf' a z)) with q | q
        · exact .inl (by simp [q])
        · exact .inr q
      · exact .inl (by simp [z])
  · rcases List.mem_append.mp ha with z | z
    · exact s2.own a (by simp [z])
    · obtain ⟨o, e, w⟩ := s1.al a z
      exact ⟨o, H12 a (List.mem_append_left _ z) o e, w⟩
end
end TL

namespace TL
open PySem PySem.Spec PyProof.Rows L2

inductive Out where
  | nx (ρ : Rho) | bk (ρ : Rho) | ct (ρ : Rho) | rt (d : D) (ρ : Rho)
abbrev Sf := Rho → Option Out
/-- what holds throughout a def: the slots that stay (its changed parameters), the result's kind, the slots' kinds at a return; at a break, at a continue -/
structure Gm where
  io : List Nat
  ret : Ty
  rty : List Ty
  bk : List Ty := []
  ct : List Ty := []
def Kp (io : List Nat) (σ σ' : L2.St) : Prop := ∀ i ∈ io, σ'[i]? = σ[i]?
theorem Kp.refl (io : List Nat) (σ : L2.St) : Kp io σ σ := fun _ _ => rfl
theorem Kp.trans {io : List Nat} {a b c : L2.St} (h : Kp io a b) (k : Kp io b c) : Kp io a c := fun i hi => (k i hi).trans (h i hi)
/-- the end of a statement, seen from the state (σ0, H0, fs0) -/
def Post (X : Cx) (γ : Gm) (D : Ends) (R : List Addr) (σ0 : L2.St) (H0 : Hp) (fs0 : List Addr) (τ' : List Ty) : Out → Prop
  | .nx ρ' => ∀ σ' H' fs', Step H0 H' fs0 fs' → Kp γ.io σ0 σ' → SR X.K X.mg R τ' ρ' σ' H' fs' → D.nx σ' H'
  | .bk ρ' => ∀ σ' H' fs', Step H0 H' fs0 fs' → Kp γ.io σ0 σ' → SR X.K X.mg R γ.bk ρ' σ' H' fs' → D.bk σ' H'
  | .ct ρ' => ∀ σ' H' fs', Step H0 H' fs0 fs' → Kp γ.io σ0 σ' → SR X.K X.mg R γ.ct ρ' σ' H' fs' → D.ct σ' H'
  | .rt d ρ' => ∀ v σ' H' fs' fv, Step H0 H' fs0 (fv ++ fs') → Kp γ.io σ0 σ' → SR X.K X.mg (fv ++ R) γ.rty ρ' σ' H' fs' → Rp X.K X.mg H' (hide (fv ++ R ++ fs') H') γ.ret d v fv → D.rt v H'
def tS (X : Cx) (γ : Gm) (τ : List Ty) (f : Sf) (τ' : List Ty) : TS := fun D σ H => ∃ R ρ fs out, SR X.K X.mg R τ ρ σ H fs ∧ f ρ = some out ∧ Post X γ D R σ H fs τ' out
abbrev DS (X : Cx) (γ : Gm) (st : Stmt) (τ : List Ty) (f : Sf) (τ' : List Ty) : Prop := PS X st (tS X γ τ f τ')
abbrev DSs (X : Cx) (γ : Gm) (st : List Stmt) (τ : List Ty) (f : Sf) (τ' : List Ty) : Prop := PSs X st (tS X γ τ f τ')
theorem ps_imp {X : Cx} {e : Stmt} {t t' : TS} (h : PS X e t) (k : ∀ D σ H, t' D σ H → t D σ H) : PS X e t' := ⟨fun pins s σ H D I q => h.run pins s σ H D I (k D σ H q)⟩
theorem pss_imp {X : Cx} {e : List Stmt} {t t' : TS} (h : PSs X e t) (k : ∀ D σ H, t' D σ H → t D σ H) : PSs X e t' := ⟨fun pins s σ H D I q => h.run pins s σ H D I (k D σ H q)⟩
theorem Post.mono {X : Cx} {γ : Gm} {D D' : Ends} {R : List Addr} {σ0 σ1 : L2.St} {H0 H1 : Hp} {fs0 fs1 : List Addr} {τ' τ'' : List Ty} {o : Out} (t : Step H0 H1 fs0 fs1) (k : Kp γ.io σ0 σ1) (p : Post X γ D R σ0 H0 fs0 τ' o)
    (hn : ∀ ρ' σ' H' fs', o = .nx ρ' → Step H0 H' fs0 fs' → Kp γ.io σ0 σ' → SR X.K X.mg R τ'' ρ' σ' H' fs' → D'.nx σ' H') (hb : D'.bk = D.bk) (hc : D'.ct = D.ct) (hr : D'.rt = D.rt) : Post X γ D' R σ1 H1 fs1 τ'' o := by
  cases o with
  | nx ρ' => exact fun σ' H' fs' t' k' s' => hn ρ' σ' H' fs' rfl (t.trans t') (k.trans k') s'
  | bk ρ' => exact fun σ' H' fs' t' k' s' => by rw [hb]; exact p σ' H' fs' (t.trans t') (k.trans k') s'
  | ct ρ' => exact fun σ' H' fs' t' k' s' => by rw [hc]; exact p σ' H' fs' (t.trans t') (k.trans k') s'
  | rt d ρ' => exact fun v σ' H' fs' fv t' k' s' r => by rw [hr]; exact p v σ' H' fs' fv (t.trans t') (k.trans k') s' r

def sNil : Sf := fun ρ => some (.nx ρ)
def sSeq (f g : Sf) : Sf := fun ρ => (f ρ).bind fun o => match o with
  | .nx ρ' => g ρ'
  | o => some o
/-- slots forgotten behind a block -/
def sKl (ks : List Nat) (f : Sf) : Sf := fun ρ => (f ρ).bind fun o => match o with
  | .nx ρ' => some (.nx (kill ks ρ'))
  | o => some o
section
variable {X : Cx} {γ : Gm} {τ τ1 τ' : List Ty} {st : Stmt} {rest : List Stmt} {a b c e : Expr} {es : List Expr} {pos p : Pos}
theorem dss_nil : DSs X γ [] τ sNil τ := pss_imp pss_nil fun D σ H ⟨R, ρ, fs, o, s, e, q⟩ => by
  cases e
  exact q σ H fs (Step.refl H fs) (Kp.refl _ _) s
theorem dss_cons {f g : Sf} (h1 : DS X γ st τ f τ1) (h2 : DSs X γ rest τ1 g τ') : DSs X γ (st :: rest) τ (sSeq f g) τ' := pss_imp (pss_cons h1 h2) fun D σ H ⟨R, ρ, fs, o, s, e, q⟩ => by
  obtain ⟨o1, e1, e2⟩ := bindO e
  refine ⟨R, ρ, fs, o1, s, e1, ?_⟩
  cases o1 with
  | nx ρ1 => exact fun σ1 H1 fs1 t1 k1 s1 => ⟨R, ρ1, fs1, o, s1, e2, q.mono t1 k1 (fun ρ' σ' H' fs' eo t' k' s' => by subst eo; exact q σ' H' fs' t' k' s') rfl rfl rfl⟩
  | bk ρ1 => cases e2; exact q
  | ct ρ1 => cases e2; exact q
  | rt d ρ1 => cases e2; exact q
theorem dss_one {f : Sf} (h1 : DS X γ st τ f τ') : DSs X γ [st] τ f τ' := pss_imp (pss_one h1) fun D σ H q => q
theorem dss_kill {sts : List Stmt} {f : Sf} (ks : List Nat) (h : DSs X γ sts τ f τ1) (ht : killT ks τ1 = τ' := by rfl) : DSs X γ sts τ (sKl ks f) τ' := pss_imp h fun D σ H ⟨R, ρ, fs, o, s, e, q⟩ => by
  obtain ⟨o1, e1, e2⟩ := bindO e
  refine ⟨R, ρ, fs, o1, s, e1, ?_⟩
  cases o1 with
  | nx ρ1 =>
    cases e2
    intro σ1 H1 fs1 t1 k1 s1
    obtain ⟨fs2, s2, sub⟩ := s1.killS ks
    rw [ht] at s2
    exact q σ1 H1 fs2 (t1.less sub) k1 s2
  | bk ρ1 => cases e2; exact q
  | ct ρ1 => cases e2; exact q
  | rt d ρ1 => cases e2; exact q
/-- an owned slot given away ahead of a block -/
theorem dss_frz {sts : List Stmt} {f : Sf} (i : Nat) {t : Ty} (h : DSs X γ sts (τ.set i .sh) f τ') (ht : τ[i]? = some t := by rfl) (hn : t ≠ .no := by intro z; cases z) : DSs X γ sts τ f τ' := pss_imp h fun D σ H ⟨R, ρ, fs, o, s, e, q⟩ => by
  obtain ⟨fs1, s1, sub⟩ := s.frz ht hn
  exact ⟨R, ρ, fs1, o, s1, e, q.mono ((Step.refl H fs).less sub) (Kp.refl _ _) (fun ρ' σ' H' fs' eo t' k' s' => by subst eo; exact q σ' H' fs' t' k' s') rfl rfl rfl⟩
theorem ds_frz {f : Sf} (i : Nat) {t : Ty} (h : DS X γ st (τ.set i .sh) f τ') (ht : τ[i]? = some t := by rfl) (hn : t ≠ .no := by intro z; cases z) : DS X γ st τ f τ' := ps_imp h fun D σ H ⟨R, ρ, fs, o, s, e, q⟩ => by
  obtain ⟨fs1, s1, sub⟩ := s.frz ht hn
  exact ⟨R, ρ, fs1, o, s1, e, q.mono ((Step.refl H fs).less sub) (Kp.refl _ _) (fun ρ' σ' H' fs' eo t' k' s' => by subst eo; exact q σ' H' fs' t' k' s') rfl rfl rfl⟩

/-! ### small statements -/
def sPass : Sf := fun ρ => some (.nx ρ)
def sBrk : Sf := fun ρ => some (.bk ρ)
def sCont : Sf := fun ρ => some (.ct ρ)
theorem ds_pass : DS X γ (.Pass pos) τ sPass τ := ps_imp ps_pass fun D σ H ⟨R, ρ, fs, o, s, e, q⟩ => by
  cases e
  exact q σ H fs (Step.refl H fs) (Kp.refl _ _) s
theorem ds_brk (h : γ.bk = τ := by rfl) : DS X γ (.Break pos) τ sBrk τ' := ps_imp ps_break fun D σ H ⟨R, ρ, fs, o, s, e, q⟩ => by
  cases e
  exact q σ H fs (Step.refl H fs) (Kp.refl _ _) (by rw [h]; exact s)
theorem ds_cont (h : γ.ct = τ := by rfl) : DS X γ (.Continue pos) τ sCont τ' := ps_imp ps_continue fun D σ H ⟨R, ρ, fs, o, s, e, q⟩ => by
  cases e
  exact q σ H fs (Step.refl H fs) (Kp.refl _ _) (by rw [h]; exact s)
/-- what a return needs: the changed parameters are still owned -/
def LeT : List Ty → List Ty → Prop
  | [], [] => True
  | .no :: r, _ :: s => LeT r s
  | t :: r, u :: s => t = u ∧ LeT r s
  | _, _ => False
mutual
def tyEq : Ty → Ty → Bool
  | .no, .no => true
  | .sh, .sh => true
  | .oL a, .oL b => tyEq a b
  | .oK a, .oK b => tyEq a b
  | .oT a, .oT b => tyEq a b
  | .oO c l, .oO d m => c == d && tyEqs l m
  | _, _ => false
def tyEqs : List Ty → List Ty → Bool
  | [], [] => true
  | a :: l, b :: m => tyEq a b && tyEqs l m
  | _, _ => false
end
mutual
theorem tyEq_ok : ∀ {a b : Ty}, tyEq a b = true → a = b
  | .no, .no, _ => rfl
  | .sh, .sh, _ => rfl
  | .oL a, .oL b, h => by rw [tyEq_ok (a := a) (b := b) (by simpa [tyEq] using h)]
  | .oK a, .oK b, h => by rw [tyEq_ok (a := a) (b := b) (by simpa [tyEq] using h)]
  | .oT a, .oT b, h => by rw [tyEq_ok (a := a) (b := b) (by simpa [tyEq] using h)]
  | .oO c l, .oO d m, h => by
    have h' : (c == d) = true ∧ tyEqs l m = true := by simpa [tyEq] using h
    rw [tyEqs_ok h'.2, eq_of_beq h'.1]
  | .no, .sh, h | .no, .oL _, h | .no, .oK _, h | .no, .oT _, h | .no, .oO _ _, h => by simp [tyEq] at h
  | .sh, .no, h | .sh, .oL _, h | .sh, .oK _, h | .sh, .oT _, h | .sh, .oO _ _, h => by simp [tyEq] at h
  | .oL _, .no, h | .oL _, .sh, h | .oL _, .oK _, h | .oL _, .oT _, h | .oL _, .oO _ _, h => by simp [tyEq] at h
  | .oK _, .no, h | .oK _, .sh, h | .oK _, .oL _, h | .oK _, .oT _, h | .oK _, .oO _ _, h => by simp [tyEq] at h
  | .oT _, .no, h | .oT _, .sh, h | .oT _, .oL _, h | .oT _, .oK _, h | .oT _, .oO _ _, h => by simp [tyEq] at h
  | .oO _ _, .no, h | .oO _ _, .sh, h | .oO _ _, .oL _, h | .oO _ _, .oK _, h | .oO _ _, .oT _, h => by simp [tyEq] at h
theorem tyEqs_ok : ∀ {a b : List Ty}, tyEqs a b = true → a = b
  | [], [], _ => rfl
  | a :: l, b :: m, h => by
    have h' : tyEq a b = true ∧ tyEqs l m = true := by simpa [tyEqs] using h
    rw [tyEq_ok h'.1, tyEqs_ok h'.2]
  | [], _ :: _, h | _ :: _, [], h => by simp [tyEqs] at h
end
def leTb : List Ty → List Ty → Bool
  | [], [] => true
  | .no :: r, _ :: s => leTb r s
  | t :: r, u :: s => tyEq t u && leTb r s
  | _, _ => false
theorem leTb_ok : ∀ {a b : List Ty}, leTb a b = true → LeT a b
  | [], [], _ => trivial
  | [], _ :: _, h => by cases h
  | t :: r, [], h => by cases t <;> cases h
  | .no :: r, _ :: s, h => leTb_ok (a := r) (b := s) h
  | .sh :: r, u :: s, h => by
    have h' : tyEq .sh u = true ∧ leTb r s = true := by simpa [leTb] using h
    exact ⟨tyEq_ok h'.1, leTb_ok h'.2⟩
  | .oL t :: r, u :: s, h => by
    have h' : tyEq (.oL t) u = true ∧ leTb r s = true := by simpa [leTb] using h
    exact ⟨tyEq_ok h'.1, leTb_ok h'.2⟩
  | .oK t :: r, u :: s, h => by
    have h' : tyEq (.oK t) u = true ∧ leTb r s = true := by simpa [leTb] using h
    exact ⟨tyEq_ok h'.1, leTb_ok h'.2⟩
  | .oT t :: r, u :: s, h => by
    have h' : tyEq (.oT t) u = true ∧ leTb r s = true := by simpa [leTb] using h
    exact ⟨tyEq_ok h'.1, leTb_ok h'.2⟩
  | .oO c t :: r, u :: s, h => by
    have h' : tyEq (.oO c t) u = true ∧ leTb r s = true := by simpa [leTb] using h
    exact ⟨tyEq_ok h'.1, leTb_ok h'.2⟩
theorem SR.leT {K : PySem.W.Frag} {mg : Str → Option Value} {R : List Addr} : ∀ {τ τ' : List Ty} {ρ : Rho} {σ : L2.St} {H : Hp} {fs : List Addr}, SR K mg R τ ρ σ H fs → LeT τ' τ → ∃ fs', SR K mg R τ' ρ σ H fs' ∧ ∀ a ∈ fs', a ∈ fs := by
  intro τ τ' ρ σ H fs s l
  have main : ∀ {τ τ' : List Ty} {ρ : Rho} {σ : L2.St} {f : List Addr} {G : Hp}, Sl K mg H G τ ρ σ f → LeT τ' τ → ∃ f', f'.Sublist f ∧ ∀ {G' : Hp}, Le G G' → Sl K mg H G' τ' ρ σ f' := by
    intro τ τ' ρ σ f G s
    induction s generalizing τ' with
    | nil =>
      intro l
      cases τ' with
      | nil => exact ⟨[], .slnil, fun _ => .nil⟩
      | cons t r => cases t <;> exact l.elim
    | no _ ih =>
      intro l
      cases τ' with
      | nil => exact l.elim
      | cons t r =>
        cases t with
        | no =>
          obtain ⟨f', sb, k⟩ := ih l
          exact ⟨f', sb, fun le => .no (k le)⟩
        | _ => cases l.1
    | cons h _ ih =>
      intro l
      cases τ' with
      | nil => exact l.elim
      | cons t r =>
        cases t with
        | no =>
          obtain ⟨f', sb, k⟩ := ih l
          exact ⟨f', sb.trans (List.sublist_append_right _ _), fun le => .no (k le)⟩
        | _ =>
          obtain ⟨e, l⟩ := l
          subst e
          obtain ⟨f', sb, k⟩ := ih l
          exact ⟨_ ++ f', (List.Sublist.refl _).append sb, fun le => .cons (h.mono le fun _ _ => rfl) (k le)⟩
  obtain ⟨f', sb, k⟩ := main s.sl l
  refine ⟨f', ⟨k (hide_sub fun a ha => ?_), ((List.Sublist.refl R).append sb).nodup s.nd, s.al⟩, fun a ha => sb.subset ha⟩
  rcases List.mem_append.mp ha with z | z
  · exact List.mem_append_left _ z
  · exact List.mem_append_right _ (sb.subset z)
def sRet (f : Ef) : Sf := fun ρ => (f ρ).bind fun p => match p.1 with
  | .v d => some (.rt d p.2)
  | _ => none
def sRetO (f : Of) : Sf := fun ρ => (f ρ).bind fun p => some (.rt p.1 p.2)
theorem ds_ret {f : Ef} (h : DE X e τ f) (hr : γ.ret = .sh := by rfl) (hl : leTb γ.rty τ = true := by rfl) : DS X γ (.Return (some e) pos) τ (sRet f) τ' := ps_imp (ps_ret h) fun D σ H ⟨R, ρ, fs, o, s, e, q⟩ => by
  obtain ⟨p, e1, e2⟩ := bindO e
  obtain ⟨p1, p2⟩ := p
  cases p1 with
  | x i => cases e2
  | v d =>
    cases e2
    refine ⟨R, ρ, fs, _, _, s, e1, fun v H1 fs1 t1 s1 r => ?_⟩
    obtain ⟨fs2, s2, sub⟩ := s1.leT (leTb_ok hl)
    refine q v σ H1 fs2 [] (t1.less sub) (Kp.refl _ _) s2 ?_
    rw [hr]
    exact .sh (Rf.mono (hide_sub fun a ha => by
      simp only [List.nil_append, List.mem_append] at ha ⊢
      exact ha.imp id (sub a)) r)
theorem ds_retO {f : Of} {t : Ty} (h : DO X e τ f t) (hr : γ.ret = t := by rfl) (hl : leTb γ.rty τ = true := by rfl) : DS X γ (.Return (some e) pos) τ (sRetO f) τ' := ps_imp (ps_ret h) fun D σ H ⟨R, ρ, fs, o, s, e, q⟩ => by
  obtain ⟨p, e1, e2⟩ := bindO e
  cases e2
  refine ⟨R, ρ, fs, p.1, p.2, s, e1, fun v H1 fs1 fv t1 s1 r => ?_⟩
  obtain ⟨fs2, s2, sub⟩ := s1.leT (leTb_ok hl)
  refine q v σ H1 fs2 fv (t1.less fun a ha => (List.mem_append.mp ha).elim (fun z => by simp [z]) fun z => by simp [sub a z]) (Kp.refl _ _) s2 ?_
  rw [hr]
  exact r.mono (hide_sub fun a ha => by
    simp only [List.mem_append] at ha ⊢
    exact ha.imp id (sub a)) fun _ _ => rfl
/-- an owned slot is the result -/
def sRetX (i : Nat) : Sf := fun ρ => some (.rt (ρ.getD i .non) ρ)
theorem ds_retX (i : Nat) {t : Ty} (h : PE X e (tVar i)) (ht : τ[i]? = some t := by rfl) (hn : t ≠ .no := by intro z; cases z) (hr : γ.ret = t := by rfl) (hl : leTb γ.rty (τ.set i .no) = true := by rfl) : DS X γ (.Return (some e) pos) τ (sRetX i) τ' := ps_imp (ps_ret h) fun D σ H ⟨R, ρ, fs, o, s, e, q⟩ => by
  cases e
  obtain ⟨f1, fo, f2, ef, ho, hl2, h1, h2, h3⟩ := s.sl.split ht
  rcases ho with ⟨z, _⟩ | ⟨v, ev, r⟩
  · exact absurd z hn
  subst ef
  refine ⟨v, ev, ?_⟩
  have nd := s.nd
  have mem : ∀ a, a ∈ fo ++ R ++ (f1 ++ f2) → a ∈ R ++ (f1 ++ fo ++ f2) := fun a ha => by
    simp only [List.mem_append] at ha ⊢
    rcases ha with (h | h) | h | h <;> simp [h]
  have sK := h3 (H' := H) (G' := hide (fo ++ R ++ (f1 ++ f2)) H) (d' := ρ.getD i .non) (fun _ _ => rfl) (hide_sub mem)
  rw [set_getD] at sK
  have pm : (fo ++ R ++ (f1 ++ f2)).Perm (R ++ (f1 ++ fo ++ f2)) := by
    rw [List.append_assoc, List.append_assoc, ← List.append_assoc R f1, ← List.append_assoc R f1, ← List.append_assoc (R ++ f1) fo f2]
    refine (List.perm_append_comm (l₁ := fo) (l₂ := R ++ f1 ++ f2)).trans ?_
    rw [List.append_assoc (R ++ f1) f2 fo, List.append_assoc (R ++ f1) fo f2]
    exact List.Perm.append_left _ List.perm_append_comm
  have s' : SR X.K X.mg (fo ++ R) (τ.set i .no) ρ σ H (f1 ++ f2) := ⟨sK, pm.nodup_iff.mpr nd, fun a ha => s.own a (mem a (List.mem_append_left _ ha))⟩
  obtain ⟨fs2, s2, sub⟩ := s'.leT (leTb_ok hl)
  refine q v σ H fs2 fo ((Step.refl H _).less fun a ha => ?_) (Kp.refl _ _) s2 ?_
  · rcases List.mem_append.mp ha with z | z
    · simp [z]
    · have := sub a z
      simp only [List.mem_append] at this ⊢
      rcases this with h | h <;> simp [h]
  · rw [hr]
    exact r.mono (hide_sub fun a ha => mem a (by
      rcases List.mem_append.mp ha with z | z
      · exact List.mem_append_left _ z
      · exact List.mem_append_right _ (sub a z))) fun _ _ => rfl
def sRetN : Sf := fun ρ => some (.rt .non ρ)
theorem ds_retN (hr : γ.ret = .sh := by rfl) (hl : leTb γ.rty τ = true := by rfl) : DS X γ (.Return none pos) τ sRetN τ' := ps_imp ps_retN fun D σ H ⟨R, ρ, fs, o, s, e, q⟩ => by
  cases e
  obtain ⟨fs2, s2, sub⟩ := s.leT (leTb_ok hl)
  refine q .non σ H fs2 [] ((Step.refl H fs).less sub) (Kp.refl _ _) s2 ?_
  rw [hr]
  exact .sh .non
/-! an expression whose value is dropped -/
def sDrop (f : Ef) : Sf := fun ρ => (f ρ).bind fun p => some (.nx p.2)
theorem ds_drop {f : Ef} (h : DE X e τ f) (hs : swapsWith e none pos.line X.env = pure false := by rfl) : DS X γ (.Expr e pos) τ (sDrop f) τ := ps_imp (ps_expr h hs) fun D σ H ⟨R, ρ, fs, o, s, e, q⟩ => by
  obtain ⟨p, e1, e2⟩ := bindO e
  cases e2
  exact ⟨R, ρ, fs, p.1, p.2, s, e1, fun v H1 fs1 t1 s1 r => q σ H1 fs1 t1 (Kp.refl _ _) s1⟩
/-! if -/
def sIf (t : Tf) (f g : Sf) : Sf := fun ρ => (t ρ).bind fun p => if p.1 then f p.2 else g p.2
theorem ds_if {t : Tf} {f g : Sf} {sa sb : List Stmt} (hc : DT X c τ t) (ha : DSs X γ sa τ f τ') (hb : DSs X γ sb τ g τ') : DS X γ (.If c sa sb pos) τ (sIf t f g) τ' := ps_imp (ps_if hc ha hb) fun D σ H ⟨R, ρ, fs, o, s, e, q⟩ => by
  obtain ⟨p, e1, e2⟩ := bindO e
  refine ⟨R, ρ, fs, p.1, p.2, s, e1, fun H1 fs1 t1 s1 => ?_⟩
  have q1 : Post X γ D R σ H1 fs1 τ' o := q.mono t1 (Kp.refl _ _) (fun ρ' σ' H' fs' eo t' k' s' => by subst eo; exact q σ' H' fs' t' k' s') rfl rfl rfl
  cases hp : p.1 with
  | true => rw [hp] at e2; exact iteT ⟨R, p.2, fs1, o, s1, e2, q1⟩
  | false => rw [hp] at e2; exact iteF ⟨R, p.2, fs1, o, s1, e2, q1⟩

/-! ### targets -/
abbrev Gf := D → Rho → Option Rho
def tG (X : Cx) (io : List Nat) (τ : List Ty) (g : Gf) (τ' : List Ty) : TG := fun v σ H Q => ∃ R ρ fs d ρ', SR X.K X.mg R τ ρ σ H fs ∧ Rf X.K X.mg (hide (R ++ fs) H) d v ∧ g d ρ = some ρ' ∧
  ∀ σ' fs', (∀ a ∈ fs', a ∈ fs) → Kp io σ σ' → SR X.K X.mg R τ' ρ' σ' H fs' → Q σ' H
abbrev DG (X : Cx) (io : List Nat) (target : Expr) (τ : List Ty) (g : Gf) (τ' : List Ty) : Prop := PG X target (tG X io τ g τ')
theorem pg_imp {X : Cx} {e : Expr} {t t' : TG} (h : PG X e t) (k : ∀ v σ H Q, t' v σ H Q → t v σ H Q) : PG X e t' := ⟨fun pins s σ H v u Q I r q => h.run pins s σ H v u Q I r (k v σ H Q q)⟩
def gNm (i : Nat) : Gf := fun d ρ => some (ρ.set i d)
theorem dg_name {io : List Nat} (i : Nat) {x : Str} (hN : X.N.Nodup) (hi : X.N[i]? = some x) (hx : Loc X.env.scope x) (ht : i < τ.length := by decide) (hio : i ∉ io := by decide) (hf : X.fn x = true ∨ X.env.scope.names.lookup x = some .local := by first | exact .inl rfl | exact .inr rfl | assumption) : DG X io (.Name x pos) τ (gNm i) (τ.set i .sh) := pg_imp (pg_name hN hi hx hf) fun v σ H Q ⟨R, ρ, fs, d, ρ', s, r, e, q⟩ => by
  cases e
  obtain ⟨fs', s', sub⟩ := SR.put (fv := []) (t := .sh) (d := d) (v := v) (i := i) s ht (.sh r)
  refine q _ fs' (fun a ha => by simpa using sub a ha) (fun j hj => ?_) s'
  exact List.getElem?_set_ne (i := i) (j := j) (fun z => hio (by rw [z]; exact hj))
def tGs (X : Cx) (io : List Nat) (τ : List Ty) (g : List D → Rho → Option Rho) (τ' : List Ty) : TGs := fun vs σ H Q => ∃ R ρ fs ds ρ', SR X.K X.mg R τ ρ σ H fs ∧ Rfs X.K X.mg (hide (R ++ fs) H) ds vs ∧ g ds ρ = some ρ' ∧
  ∀ σ' fs', (∀ a ∈ fs', a ∈ fs) → Kp io σ σ' → SR X.K X.mg R τ' ρ' σ' H fs' → Q σ' H
abbrev DGs (X : Cx) (io : List Nat) (ts : List Expr) (τ : List Ty) (g : List D → Rho → Option Rho) (τ' : List Ty) : Prop := PGs X ts (tGs X io τ g τ')
theorem pgs_imp {X : Cx} {e : List Expr} {t t' : TGs} (h : PGs X e t) (k : ∀ v σ H Q, t' v σ H Q → t v σ H Q) : PGs X e t' := ⟨fun pins s σ H v u Q I r q => h.run pins s σ H v u Q I r (k v σ H Q q)⟩
def gsNil : List D → Rho → Option Rho := fun ds ρ => match ds with
  | [] => some ρ
  | _ => none
def gsCons (g : Gf) (h : List D → Rho → Option Rho) : List D → Rho → Option Rho := fun ds ρ => match ds with
  | d :: r => (g d ρ).bind fun ρ' => h r ρ'
  | [] => none
theorem dgs_nil {io : List Nat} : DGs X io [] τ gsNil τ := pgs_imp pgs_nil fun v σ H Q ⟨R, ρ, fs, ds, ρ', s, r, e, q⟩ => by
  cases r with
  | nil => cases e; exact ⟨rfl, q σ fs (fun _ h => h) (Kp.refl _ _) s⟩
  | cons _ _ => cases e
theorem dgs_cons {io : List Nat} {g : Gf} {h : List D → Rho → Option Rho} (h1 : DG X io e τ g τ1) (h2 : DGs X io es τ1 h τ') (hs : (assignEach (e :: es) X.env).map (·.2) = assign e X.env :: (assignEach es X.env).map (·.2) := by rfl) : DGs X io (e :: es) τ (gsCons g h) τ' := pgs_imp (pgs_cons h1 h2 hs) fun v σ H Q ⟨R, ρ, fs, ds, ρ', s, r, e, q⟩ => by
  cases r with
  | nil => cases e
  | cons r rs =>
    obtain ⟨ρ1, e1, e2⟩ := bindO e
    refine ⟨_, _, rfl, R, ρ, fs, _, ρ1, s, r, e1, fun σ1 fs1 sub1 k1 s1 => ⟨R, ρ1, fs1, _, ρ', s1, rs.mono (hide_sub fun a ha => ?_), e2, fun σ2 fs2 sub2 k2 s2 => q σ2 fs2 (fun a ha => sub1 a (sub2 a ha)) (k1.trans k2) s2⟩⟩
    rcases List.mem_append.mp ha with z | z
    · exact List.mem_append_left _ z
    · exact List.mem_append_right _ (sub1 a z)
def gTp (g : List D → Rho → Option Rho) : Gf := fun d ρ => match d with
  | .tup ds => g ds ρ
  | _ => none
theorem gs_len {n : Nat} {io : List Nat} {g : List D → Rho → Option Rho} (hn : ∀ ds ρ ρ', g ds ρ = some ρ' → ds.length = n) {ds : List D} {ρ ρ' : Rho} (e : g ds ρ = some ρ') : ds.length = n := hn ds ρ ρ' e
theorem gsNil_len : ∀ ds ρ ρ', gsNil ds ρ = some ρ' → ds.length = 0 := fun ds ρ ρ' e => by
  cases ds with
  | nil => rfl
  | cons _ _ => cases e
theorem gsCons_len {g : Gf} {h : List D → Rho → Option Rho} {n : Nat} (k : ∀ ds ρ ρ', h ds ρ = some ρ' → ds.length = n) : ∀ ds ρ ρ', gsCons g h ds ρ = some ρ' → ds.length = n + 1 := fun ds ρ ρ' e => by
  cases ds with
  | nil => cases e
  | cons d r =>
    obtain ⟨ρ1, _, e2⟩ := bindO e
    simp [k _ _ _ e2]
theorem dg_tup {io : List Nat} {g : List D → Rho → Option Rho} {kk : Nat} {n : Nat} (hc : X.calm = true) (h : DGs X io es τ g τ') (hl : ∀ ds ρ ρ', g ds ρ = some ρ' → ds.length = n)
    (hn : (assignEach es X.env).length = n := by rfl) (hst : (assignEach es X.env).findIdx? (·.1) = none := by rfl) : DG X io (.Tuple es kk pos) τ (gTp g) τ' := pg_imp (pg_tup hc h hn hst) fun v σ H Q ⟨R, ρ, fs, d, ρ', s, r, e, q⟩ => by
  cases d with
  | tup ds =>
    cases r with
    | tup hT r => exact ⟨_, _, rfl, (hide_le _ _).seqT hT, by rw [← r.length]; exact hl _ _ _ e, R, ρ, fs, ds, ρ', s, r, e, q⟩
  | _ => cases e
/-! ### assignments -/
def sAsg (f : Ef) (g : Gf) : Sf := fun ρ => (f ρ).bind fun p => match p.1 with
  | .v d => (g d p.2).bind fun ρ' => some (.nx ρ')
  | _ => none
theorem sAsg_inv {f : Ef} {g : Gf} {ρ : Rho} {o : Out} (e : sAsg f g ρ = some o) : ∃ d ρ1 ρ', f ρ = some (.v d, ρ1) ∧ g d ρ1 = some ρ' ∧ o = .nx ρ' := by
  obtain ⟨p, e1, e2⟩ := bindO e
  obtain ⟨p1, p2⟩ := p
  cases p1 with
  | x i => cases e2
  | v d =>
    obtain ⟨ρ', e3, e4⟩ := bindO e2
    cases e4
    exact ⟨d, p2, ρ', e1, e3, rfl⟩
theorem tAsg_of {f : Ef} {g : Gf} : ∀ D σ H, tS X γ τ (sAsg f g) τ' D σ H → tAsg (tD X τ f) (tG X γ.io τ g τ') D σ H := fun D σ H ⟨R, ρ, fs, o, s, e, q⟩ => by
  obtain ⟨d, ρ1, ρ', e1, e2, rfl⟩ := sAsg_inv e
  exact ⟨R, ρ, fs, _, _, s, e1, fun v H1 fs1 t1 s1 r => ⟨R, ρ1, fs1, d, ρ', s1, r, e2, fun σ' fs' sub k s' => q σ' H1 fs' (t1.less sub) k s'⟩⟩
theorem ds_asg {f : Ef} {g : Gf} {tg : Expr} (he : DE X e τ f) (hg : DG X γ.io tg τ g τ') (hs : swapsWithSole [tg] e pos.line X.env = pure false := by rfl) (hw : swappedStores [tg] e X.env = pure none := by rfl)
    (h1 : (assignEach [tg] X.env).map (·.2) = [assign tg X.env] := by rfl) : DS X γ (.Assign [tg] e pos) τ (sAsg f g) τ' := ps_imp (ps_asg he hg hs hw h1) tAsg_of
theorem ds_set {f : Ef} {x : Str} {pos' : Pos} (i : Nat) (hN : X.N.Nodup) (hi : X.N[i]? = some x) (hx : Loc X.env.scope x) (he : DE X e τ f) (hs : swapsWith e (some (.Name x pos')) pos.line X.env = pure false := by rfl) (ht : i < τ.length := by decide) (hio : i ∉ γ.io := by decide) (hf : X.fn x = true ∨ X.env.scope.names.lookup x = some .local := by first | exact .inl rfl | exact .inr rfl | assumption) :
    DS X γ (.Assign [.Name x pos'] e pos) τ (sAsg f (gNm i)) (τ.set i .sh) := ps_imp (ps_set hN hi hx he hs hf) fun D σ H ⟨R, ρ, fs, o, s, e, q⟩ => by
  obtain ⟨d, ρ1, ρ', e1, e2, rfl⟩ := sAsg_inv e
  cases e2
  refine ⟨R, ρ, fs, _, _, s, e1, fun v H1 fs1 t1 s1 r => ?_⟩
  obtain ⟨fs', s', sub⟩ := SR.put (fv := []) (t := .sh) (d := d) (v := v) (i := i) s1 ht (.sh r)
  exact q _ H1 fs' (t1.less fun a ha => by simpa using sub a ha) (fun j hj => List.getElem?_set_ne (i := i) (j := j) (fun z => hio (by rw [z]; exact hj))) s'
/-! an owned value into a slot -/
def sSetO (i : Nat) (f : Of) : Sf := fun ρ => (f ρ).bind fun p => some (.nx (p.2.set i p.1))
theorem setO_of {f : Of} {t : Ty} (i : Nat) (ht : i < τ.length) (hio : i ∉ γ.io) : ∀ D σ H, tS X γ τ (sSetO i f) (τ.set i t) D σ H → tAsg (tO X τ f t) (gName i) D σ H := fun D σ H ⟨R, ρ, fs, o, s, e, q⟩ => by
  obtain ⟨p, e1, e2⟩ := bindO e
  cases e2
  refine ⟨R, ρ, fs, p.1, p.2, s, e1, fun v H1 fs1 fv t1 s1 r => ?_⟩
  obtain ⟨fs', s', sub⟩ := SR.put s1 ht r
  exact q _ H1 fs' (t1.less sub) (fun j hj => List.getElem?_set_ne (i := i) (j := j) (fun z => hio (by rw [z]; exact hj))) s'
theorem ds_setO {f : Of} {t : Ty} {x : Str} {pos' : Pos} (i : Nat) (hN : X.N.Nodup) (hi : X.N[i]? = some x) (hx : Loc X.env.scope x) (he : DO X e τ f t) (hs : swapsWith e (some (.Name x pos')) pos.line X.env = pure false := by rfl) (ht : i < τ.length := by decide) (hio : i ∉ γ.io := by decide) (hf : X.fn x = true ∨ X.env.scope.names.lookup x = some .local := by first | exact .inl rfl | exact .inr rfl | assumption) :
    DS X γ (.Assign [.Name x pos'] e pos) τ (sSetO i f) (τ.set i t) := ps_imp (ps_set hN hi hx he hs hf) (setO_of i ht hio)
/-! ### a list grows, an item is stored -/
def sApp (i : Nat) (f : Ef) : Sf := fun ρ => (f ρ).bind fun p => match p.1, p.2.getD i .non with
  | .v d, .lst l => if okLen (l.length + 1) then some (.nx (p.2.set i (.lst (l ++ [d])))) else none
  | _, _ => none
theorem SR.write {K : PySem.W.Frag} {mg : Str → Option Value} {R : List Addr} {ρ : Rho} {σ : L2.St} {H : Hp} {fs : List Addr} {i : Nat} {v : V} (s : SR K mg R τ ρ σ H fs) {t : Ty} (ht : τ[i]? = some t) {a0 : Addr} {f : List Addr} (ev : σ[i]? = some (some v)) {d : D} {f1 fo f2 : List Addr} (ef : fs = f1 ++ (a0 :: fo) ++ f2)
    {o : HO} {d' : D} (w : Own o) (h2 : ∀ {H' G' : Hp} {t' : Ty} {d' : D} {v' : V} {f' : List Addr}, (∀ a ∈ f1 ++ f2, H' a = H a) → Le (hide (R ++ fs) H) G' → σ[i]? = some (some v') → Rp K mg H' G' t' d' v' f' → Sl K mg H' G' (τ.set i t') (ρ.set i d') σ (f1 ++ f' ++ f2))
    (rp : Rp K mg (upd H a0 o) (hide (R ++ fs) (upd H a0 o)) t d' v (a0 :: fo)) : SR K mg R τ (ρ.set i d') σ (upd H a0 o) fs ∧ Step H (upd H a0 o) fs fs := by
  have nd := s.nd
  have ia : a0 ∈ fs := by rw [ef]; simp
  have nf : ∀ a ∈ f1 ++ f2, a ≠ a0 := fun a ha z => by
    subst z
    rw [ef] at nd
    simp only [List.nodup_append, List.mem_append, List.mem_cons] at nd
    rcases List.mem_append.mp ha with h | h
    · exact nd.2.1.1.2.2 a h a (.inl rfl) rfl
    · exact nd.2.1.2.2 a (.inr (.inl rfl)) a h rfl
  have nR : ∀ a ∈ R, a ≠ a0 := fun a ha z => by
    subst z
    exact (List.nodup_append.mp nd).2.2 a ha a ia rfl
  have le : Le (hide (R ++ fs) H) (hide (R ++ fs) (upd H a0 o)) := hide_mono fun a u n e => ⟨n, by
    rw [upd_ne fun z => n (by rw [z]; exact List.mem_append_right _ ia)]; exact e⟩
  have q := h2 (fun a ha => upd_ne (nf a ha)) le ev rp
  rw [set_at ht, ← ef] at q
  refine ⟨⟨q, nd, fun a ha => ?_⟩, ⟨fun a u n e => ?_, fun a ha => .inl ha, fun a u e => ?_⟩⟩
  · obtain ⟨u, e, w⟩ := s.al a ha
    exact ⟨u, by rw [upd_ne (nR a ha)]; exact e, w⟩
  · rw [upd_ne fun z => n (by rw [z]; exact ia)]; exact e
  · by_cases z : a = a0
    · exact ⟨o, by rw [z, upd_same]⟩
    · exact ⟨u, by rw [upd_ne z]; exact e⟩
theorem ds_app {f : Ef} {o : Expr} {apos cpos : Pos} (i : Nat) (ho : PE X o (tVar i)) (he : DE X e τ f) (ht : τ[i]? = some (.oL .sh) := by rfl) (hbase : attributeBase o "append" X.env (eval o X.env) = eval o X.env := by rfl)
    (hfew : ((backTo cpos (starEach [e] X.env)).all (fun x => !x.1) && (backToKw cpos (keywordEach [] X.env)).all (fun x => x.1.isSome)
      && decide ([e].length + ([] : List Keyword).length + (if ([] : List Keyword).isEmpty then 0 else 1) < 30)) = true := by rfl)
    (hline : (apos.endLine == cpos.line) = true := by rfl) (hs : starEach [e] X.env = (false, eval e X.env) :: starEach [] X.env := by rfl) :
    DS X γ (.Expr (.Call (.Attribute o "append" apos) [e] [] cpos) pos) τ (sApp i f) τ :=
  ps_imp (ps_expr (pe_bm PySem.F.plainAttrs_list PySem.F.slot_list_append PySem.F.type_list_append mt_append ho (pa_cons he pa_nil hs) hbase hfew hline hs rfl) rfl) fun D σ H ⟨R, ρ, fs, out, s, e, q⟩ => by
    obtain ⟨p, e1, e2⟩ := bindO e
    obtain ⟨p1, p2⟩ := p
    cases p1 with
    | x i => cases e2
    | v d =>
      obtain ⟨v0, f0, ev0, r0, _⟩ := s.get ht (by intro z; cases z)
      refine ⟨v0, ev0, ?_, R, ρ, fs, _, _, s, e1, fun v H1 fs1 t1 s1 r => ?_⟩
      · generalize ρ.getD i .non = d0 at r0
        cases r0 with
        | oL h _ => exact .inl ⟨rfl, _, .of h⟩
      · obtain ⟨f1, fo, f2, ef, hos, hl, _, h2, _⟩ := s1.sl.split ht
        rcases hos with ⟨z, _⟩ | ⟨v1, ev1, r1⟩
        · cases z
        rw [ev0] at ev1; cases ev1
        have e3 : (match p2.getD i .non with | .lst l => if okLen (l.length + 1) then some (Out.nx (p2.set i (.lst (l ++ [d])))) else none | _ => none) = some out := by
          revert e2
          cases p2.getD i .non <;> exact id
        clear e2
        revert r1 e3
        generalize p2.getD i .non = d0
        intro r1 e3
        cases r1 with
        | @oL t a vs ds g h rs =>
          obtain ⟨e4, e5⟩ := ifSome' e3
          cases e5
          obtain ⟨rf, eg⟩ := rs.to_sh
          subst eg
          have hl : vs.length < sizeLine := by
            rw [← rf.length]
            have := okLen_le e4
            omega
          refine ⟨a, vs, v, rfl, rfl, h, hl, ?_⟩
          have le : Le (hide (R ++ fs1) H1) (hide (R ++ fs1) (upd H1 a (.lst (vs ++ [v])))) := hide_mono fun b u n e => ⟨n, by
            rw [upd_ne fun z => n (by rw [z, ef]; simp)]; exact e⟩
          obtain ⟨sn, tn⟩ := s1.write ht (f := []) ev0 (d := d) ef (o := .lst (vs ++ [v])) (d' := .lst (ds ++ [d])) trivial h2 (.oL upd_same (Rps.of_sh ((rf.append (.one r)).mono le)))
          exact q σ _ fs1 (t1.trans tn) (Kp.refl _ _) sn
end
end TL

namespace TL
open PySem PySem.Spec PyProof.Rows L2

/-! ### walks -/
abbrev Itf := Rho → Option (List D × Rho)
def Walks (K : PySem.W.Frag) (mg : Str → Option Value) (J : It) (ds : List D) (G : Hp) : Prop := ∀ (i : Nat) (S : List Addr) (H : Hp), (∀ a ∈ S, ∃ o, H a = some o ∧ Own o) → Le G (hide S H) →
  (∀ d, ds[i]? = some d → J.go i H ∧ ∀ x H', J.yld i H x H' → Grow H H' ∧ Rf K mg (hide S H') d x) ∧ (ds.length ≤ i → J.stop i H)
def tI (X : Cx) (τ : List Ty) (it : Itf) : TI := fun σ H Q => ∃ R ρ fs ds ρ', SR X.K X.mg R τ ρ σ H fs ∧ it ρ = some (ds, ρ') ∧
  ∀ J H' fs', Step H H' fs fs' → SR X.K X.mg R τ ρ' σ H' fs' → Walks X.K X.mg J ds (hide (R ++ fs') H') → Q J H'
abbrev DI (X : Cx) (tg iter : Expr) (τ : List Ty) (it : Itf) : Prop := PI X tg iter (tI X τ it)
theorem pi_imp {X : Cx} {tg e : Expr} {t t' : TI} (h : PI X tg e t) (k : ∀ σ H Q, t' σ H Q → t σ H Q) : PI X tg e t' := ⟨fun pins s σ H R I q => h.run pins s σ H R I (k σ H R q)⟩
theorem pi_or {X : Cx} {tg e : Expr} {t t' : TI} (h : PI X tg e t) (h' : PI X tg e t') : PI X tg e (fun σ H Q => t σ H Q ∨ t' σ H Q) := ⟨fun pins s σ H R I q => q.elim (h.run pins s σ H R I) (h'.run pins s σ H R I)⟩
theorem walks_list {K : PySem.W.Frag} {mg : Str → Option Value} {G : Hp} {a : Addr} {vs : List V} {ds : List D} (h : G a = some (.lst vs)) (r : Rfs K mg G ds vs) : Walks K mg (Itl K a) ds G := fun i S H al le => by
  have hH : H a = some (.lst vs) := hide_le _ _ _ _ (le _ _ h)
  refine ⟨fun d e => ?_, fun e => ⟨vs, .of hH, by rw [← r.length]; exact e⟩⟩
  obtain ⟨v, ev, rv⟩ := r.get e
  refine ⟨⟨vs, v, .of hH, ev⟩, fun x H' ⟨e1, e2⟩ => ?_⟩
  subst e1
  have := e2 vs (.of hH)
  rw [ev] at this; cases this
  exact ⟨Grow.refl _, rv.mono le⟩
theorem walks_tup {K : PySem.W.Frag} {mg : Str → Option Value} {G : Hp} {a : Addr} {vs : List V} {ds : List D} (h : SqT K G a vs) (r : Rfs K mg G ds vs) : Walks K mg (Itt K a) ds G := fun i S H al le => by
  have hH : SqT K H a vs := (hide_le S H).seqT (le.seqT h)
  refine ⟨fun d e => ?_, fun e => ⟨vs, hH, by rw [← r.length]; exact e⟩⟩
  obtain ⟨v, ev, rv⟩ := r.get e
  refine ⟨⟨vs, v, hH, ev⟩, fun x H' ⟨e1, e2⟩ => ?_⟩
  subst e1
  have := e2 vs hH
  rw [ev] at this; cases this
  exact ⟨Grow.refl _, rv.mono le⟩
def seqD : Hd → Option (List D)
  | .v (.lst l) => some l
  | .v (.tup l) => some l
  | _ => none
def iSeq (f : Ef) : Itf := fun ρ => (f ρ).bind fun p => (seqD p.1).bind fun l => some (l, p.2)
section
variable {X : Cx} {γ : Gm} {τ τ1 τ' : List Ty} {tg a b c e : Expr} {es : List Expr} {pos p : Pos}
theorem di_seq {f : Ef} (h : DE X e τ f) : DI X tg e τ (iSeq f) := pi_imp (pi_or (pi_list h) (pi_tup h)) fun σ H Q ⟨R, ρ, fs, ds, ρ', s, e, q⟩ => by
  obtain ⟨p, e1, e2⟩ := bindO e
  obtain ⟨l, e3, e4⟩ := bindO e2
  cases e4
  obtain ⟨p1, p2⟩ := p
  cases p1 with
  | x i => cases e3
  | v d =>
    cases d with
    | lst l =>
      cases e3
      refine .inl ⟨R, ρ, fs, _, _, s, e1, fun v H' fs' t s' r => ?_⟩
      cases r with
      | lst h r => exact ⟨_, rfl, ⟨_, .of (hide_le _ _ _ _ h)⟩, q _ H' fs' t s' (walks_list h r)⟩
    | tup l =>
      cases e3
      refine .inr ⟨R, ρ, fs, _, _, s, e1, fun v H' fs' t s' r => ?_⟩
      cases r with
      | tup h r => exact ⟨_, rfl, ⟨_, (hide_le _ _).seqT h⟩, q _ H' fs' t s' (walks_tup h r)⟩
    | _ => cases e3
def intsD (lo : Int) (n : Nat) : List D := (List.range n).map fun i => D.int (lo + (i : Nat))
def small62 (i : Int) : Bool := Nat.ble i.natAbs 4611686018427387903
theorem walks_range {K : PySem.W.Frag} {mg : Str → Option Value} {G : Hp} (lo : Int) (n : Nat) : Walks K mg (Itr lo n) (intsD lo n) G := fun i S H al le => by
  refine ⟨fun d e => ?_, fun e => show n ≤ i by simpa [intsD] using e⟩
  unfold intsD at e
  rw [List.getElem?_map] at e
  by_cases hi : i < n
  · rw [List.getElem?_range hi] at e
    cases e
    refine ⟨hi, fun x H' ⟨e1, e2⟩ => ?_⟩
    subst e1; subst e2
    exact ⟨Grow.refl _, .int _⟩
  · rw [List.getElem?_eq_none (by simpa using hi)] at e
    cases e
def iRng1 (f : Af) : Itf := fun ρ => (f ρ).bind fun p => match p.1 with
  | [.v (.int j)] => if small62 j then some (intsD 0 j.toNat, p.2) else none
  | _ => none
def iRng2 (f : Af) : Itf := fun ρ => (f ρ).bind fun p => match p.1 with
  | [.v (.int i), .v (.int j)] => if small62 i && small62 j then some (intsD i (j - i).toNat, p.2) else none
  | _ => none
theorem small62_of {i : Int} (h : small62 i = true) : -(2 ^ 62) ≤ i ∧ i < 2 ^ 62 := by
  have h1 : i.natAbs ≤ 4611686018427387903 := Nat.le_of_ble_eq_true h
  have e : (2 : Int) ^ 62 = 4611686018427387904 := by decide
  rw [e]
  omega
theorem di_range1 {f : Af} (hg : Gl X "range") (hm : X.mg "range" = none) (ha : DA X [a] τ f) (hs : starEach [a] X.env = [(false, eval a X.env)] := by rfl) : DI X tg (.Call (.Name "range" p) [a] [] pos) τ (TL.iRng1 f) := pi_imp (pi_range1 hg hm ha hs) fun σ H Q ⟨R, ρ, fs, ds, ρ', s, e, q⟩ => by
  obtain ⟨w, e1, e2⟩ := bindO e
  obtain ⟨w1, w2⟩ := w
  simp only at e2
  split at e2
  · obtain ⟨e3, e4⟩ := ifSome' e2
    cases e4
    refine ⟨R, ρ, fs, _, _, s, e1, fun vs H' fs' t s' r => ?_⟩
    cases r with
    | cons r rs =>
      cases r
      cases rs
      exact ⟨_, rfl, (small62_of e3).1, (small62_of e3).2, q _ H' fs' t s' (walks_range 0 _)⟩
  · cases e2
theorem di_range2 {f : Af} (hg : Gl X "range") (hm : X.mg "range" = none) (ha : DA X [a, b] τ f) (hs : starEach [a, b] X.env = [(false, eval a X.env), (false, eval b X.env)] := by rfl) (hs2 : starEach [b] X.env = [(false, eval b X.env)] := by rfl) : DI X tg (.Call (.Name "range" p) [a, b] [] pos) τ (TL.iRng2 f) := pi_imp (pi_range2 hg hm ha hs hs2) fun σ H Q ⟨R, ρ, fs, ds, ρ', s, e, q⟩ => by
  obtain ⟨w, e1, e2⟩ := bindO e
  obtain ⟨w1, w2⟩ := w
  simp only at e2
  split at e2
  · obtain ⟨e3, e4⟩ := ifSome' e2
    cases e4
    rw [Bool.and_eq_true] at e3
    refine ⟨R, ρ, fs, _, _, s, e1, fun vs H' fs' t s' r => ?_⟩
    cases r with
    | cons r rs =>
      cases r
      cases rs with
      | cons r rs =>
        cases r
        cases rs
        exact ⟨_, _, rfl, ⟨(small62_of e3.1).1, (small62_of e3.1).2, (small62_of e3.2).1, (small62_of e3.2).2⟩, q _ H' fs' t s' (walks_range _ _)⟩
  · cases e2

/-! ### for -/
def loopF (b : D → Rho → Option Out) (ks : List Nat) : List D → Rho → Option Out
  | [], ρ => some (.nx ρ)
  | d :: ds, ρ => (b d ρ).bind fun o => match o with
    | .nx ρ' => loopF b ks ds (kill ks ρ')
    | .ct ρ' => loopF b ks ds (kill ks ρ')
    | .bk ρ' => some (.nx (kill ks ρ'))
    | .rt d ρ' => some (.rt d ρ')
def sFor (ks : List Nat) (it : Itf) (g : Gf) (b : Sf) : Sf := fun ρ => (it ρ).bind fun p => loopF (fun d ρ => (g d ρ).bind b) ks p.1 (kill ks p.2)
theorem drop_get {α : Type} {l : List α} {i : Nat} {a : α} (h : l[i]? = some a) : l.drop i = a :: l.drop (i + 1) := by
  obtain ⟨hi, e⟩ := List.getElem?_eq_some_iff.mp h
  rw [List.drop_eq_getElem_cons hi, e]
theorem ds_for {it : Itf} {g : Gf} {bf : Sf} {iter : Expr} {body : List Stmt} {τg τb tbk tct : List Ty} (ks : List Nat) (hp : PassesOwn (model X.prog X.w) X.A X.env X.xe) (hc : X.calm = true) (hi : DI X tg iter τ it)
    (hg : DG X γ.io tg (killT ks τ) g τg) (hb : DSs X { γ with bk := tbk, ct := tct } body τg bf τb) (h1 : killT ks τb = killT ks τ := by rfl) (h2 : killT ks tbk = killT ks τ := by rfl) (h3 : killT ks tct = killT ks τ := by rfl)
    (hs : ∀ x, foldedSetIterable iter X.env x = pure x := by intro _; rfl) : DS X γ (.For tg iter body [] pos) τ (sFor ks it g bf) (killT ks τ) := ps_imp (ps_for hp hc hi hg hb hs) fun D σ0 H0 ⟨R, ρ0, fs0, out, s0, e, q⟩ => by
  obtain ⟨w, e1, e2⟩ := bindO e
  refine ⟨R, ρ0, fs0, w.1, w.2, s0, e1, fun J H1 fs1' t1' s1' wk => ?_⟩
  obtain ⟨fs1, s1, sub1⟩ := s1'.killS ks
  have t1 := t1'.less sub1
  have wk1 : Walks X.K X.mg J w.1 (hide (R ++ fs1') H1) := wk
  have q1 : Post X γ D R σ0 H1 fs1 (killT ks τ) out := q.mono t1 (Kp.refl _ _) (fun ρ' σ' H' fs' eo t' k' s' => by subst eo; exact q σ' H' fs' t' k' s') rfl rfl rfl
  refine ⟨fun i m σ H => ∃ ρ fs, Step H1 H fs1 fs ∧ Kp γ.io σ0 σ ∧ SR X.K X.mg R (killT ks τ) ρ σ H fs ∧ Le (hide (R ++ fs1') H1) (hide (R ++ fs) H) ∧ loopF (fun d ρ => (g d ρ).bind bf) ks (w.1.drop i) ρ = some out ∧ m + i = w.1.length,
    ⟨w.1.length, _, fs1, Step.refl _ _, Kp.refl _ _, s1, hide_sub (fun a ha => ?_), by simpa using e2, by omega⟩, fun i m σ H ⟨ρ, fs, t, k, s, le, el, em⟩ => ?_⟩
  · rcases List.mem_append.mp ha with z | z
    · exact List.mem_append_left _ z
    · exact List.mem_append_right _ (sub1 a z)
  · obtain ⟨wgo, wst⟩ := wk1 i (R ++ fs) H s.own le
    by_cases hi : i < w.1.length
    · have ed := List.getElem?_eq_getElem hi
      generalize w.1[i] = d at ed
      rw [drop_get ed] at el
      obtain ⟨o, eb, eo⟩ := bindO (show ((g d ρ).bind bf).bind _ = some out from el)
      obtain ⟨ρ1, eg, eb⟩ := bindO eb
      obtain ⟨go, yl⟩ := wgo d ed
      refine .inr ⟨go, fun σ' H' => ∃ ρ' fs', Step H1 H' fs1 fs' ∧ Kp γ.io σ0 σ' ∧ SR X.K X.mg R (killT ks τ) ρ' σ' H' fs' ∧ Le (hide (R ++ fs1') H1) (hide (R ++ fs') H') ∧ loopF (fun d ρ => (g d ρ).bind bf) ks (w.1.drop (i + 1)) ρ' = some out,
        fun σ' H' ⟨ρ', fs', a1, a2, a3, a4, a5⟩ => ⟨m - 1, by omega, ρ', fs', a1, a2, a3, a4, a5, by omega⟩, fun x H' hy => ?_⟩
      obtain ⟨gr, rf⟩ := yl x H' hy
      refine ⟨R, ρ, fs, d, ρ1, s.grow gr, rf, eg, fun σ2 fs2 sub2 k2 s2 => ?_⟩
      have t2 : Step H H' fs fs2 := (Step.grow gr fs).less sub2
      have le2 : Le (hide (R ++ fs1') H1) (hide (R ++ fs2) H') := le.trans (s.le t2)
      refine ⟨R, ρ1, fs2, o, s2, eb, ?_⟩
      have fin : ∀ {τx : List Ty} {ρ' : Rho} {σ' : L2.St} {H'' : Hp} {fs' : List Addr}, killT ks τx = killT ks τ → Step H' H'' fs2 fs' → Kp γ.io σ2 σ' → SR X.K X.mg R τx ρ' σ' H'' fs' →
          ∃ fs'', Step H1 H'' fs1 fs'' ∧ Kp γ.io σ0 σ' ∧ SR X.K X.mg R (killT ks τ) (kill ks ρ') σ' H'' fs'' ∧ Le (hide (R ++ fs1') H1) (hide (R ++ fs'') H'') := fun hx t3 k3 s3 => by
        obtain ⟨fs4, s4, sub4⟩ := s3.killS ks
        rw [hx] at s4
        exact ⟨fs4, (t.trans t2).trans (t3.less sub4), (k.trans k2).trans k3, s4, le2.trans (s2.le (t3.less sub4))⟩
      cases o with
      | nx ρ2 =>
        exact fun σ' H'' fs' t3 k3 s3 => by
          obtain ⟨fs4, a1, a2, a3, a4⟩ := fin h1 t3 k3 s3
          exact ⟨_, fs4, a1, a2, a3, a4, eo⟩
      | ct ρ2 =>
        exact fun σ' H'' fs' t3 k3 s3 => by
          obtain ⟨fs4, a1, a2, a3, a4⟩ := fin h3 t3 k3 s3
          exact ⟨_, fs4, a1, a2, a3, a4, eo⟩
      | bk ρ2 =>
        cases eo
        exact fun σ' H'' fs' t3 k3 s3 => by
          obtain ⟨fs4, a1, a2, a3, a4⟩ := fin h2 t3 k3 s3
          exact q1 σ' H'' fs4 a1 a2 a3
      | rt d ρ2 =>
        cases eo
        exact fun v σ' H'' fs' fv t3 k3 s3 r3 => q1 v σ' H'' fs' fv ((t.trans t2).trans t3) ((k.trans k2).trans k3) s3 r3
    · rw [List.drop_eq_nil_of_le (by omega)] at el
      cases el
      exact .inl ⟨wst (by omega), q1 σ H fs t k s⟩
/-! ### while -/
def loopW (t : Tf) (b : Sf) (ks : List Nat) : Nat → Rho → Option Out
  | 0, _ => none
  | n + 1, ρ => (t ρ).bind fun p => if p.1 then (b p.2).bind fun o => match o with
      | .nx ρ' => loopW t b ks n (kill ks ρ')
      | .ct ρ' => loopW t b ks n (kill ks ρ')
      | .bk ρ' => some (.nx (kill ks ρ'))
      | .rt d ρ' => some (.rt d ρ')
    else some (.nx p.2)
def sWhile (n : Nat) (ks : List Nat) (t : Tf) (b : Sf) : Sf := fun ρ => loopW t b ks n (kill ks ρ)
theorem ds_while {t : Tf} {bf : Sf} {body : List Stmt} {τb tbk tct : List Ty} (n : Nat) (ks : List Nat) (hp : PassesOwn (model X.prog X.w) X.A X.env X.xe) (hc : DT X c (killT ks τ) t)
    (hb : DSs X { γ with bk := tbk, ct := tct } body (killT ks τ) bf τb) (h1 : killT ks τb = killT ks τ := by rfl) (h2 : killT ks tbk = killT ks τ := by rfl) (h3 : killT ks tct = killT ks τ := by rfl) :
    DS X γ (.While c body [] pos) τ (sWhile n ks t bf) (killT ks τ) := ps_imp (ps_while hp hc hb) fun D σ0 H0 ⟨R, ρ0, fs0, out, s0, e, q⟩ => by
  obtain ⟨fs1, s1, sub1⟩ := s0.killS ks
  have q1 : Post X γ D R σ0 H0 fs1 (killT ks τ) out := q.mono ((Step.refl H0 fs0).less sub1) (Kp.refl _ _) (fun ρ' σ' H' fs' eo t' k' s' => by subst eo; exact q σ' H' fs' t' k' s') rfl rfl rfl
  refine ⟨fun m σ H => ∃ ρ fs, Step H0 H fs1 fs ∧ Kp γ.io σ0 σ ∧ SR X.K X.mg R (killT ks τ) ρ σ H fs ∧ loopW t bf ks m ρ = some out, ⟨n, _, fs1, Step.refl _ _, Kp.refl _ _, s1, e⟩, fun m σ H ⟨ρ, fs, st, k, s, el⟩ => ?_⟩
  cases m with
  | zero => cases el
  | succ m =>
    obtain ⟨p, e1, e2⟩ := bindO (show (t ρ).bind _ = some out from el)
    refine ⟨R, ρ, fs, p.1, p.2, s, e1, fun H1 fs2 t2 s2 => ?_⟩
    cases hp : p.1 with
    | false =>
      rw [hp] at e2
      cases e2
      exact iteF (q1 σ H1 fs2 (st.trans t2) k s2)
    | true =>
      rw [hp, if_pos rfl] at e2
      obtain ⟨o, eb, eo⟩ := bindO e2
      refine iteT ⟨fun σ' H' => ∃ ρ' fs', Step H0 H' fs1 fs' ∧ Kp γ.io σ0 σ' ∧ SR X.K X.mg R (killT ks τ) ρ' σ' H' fs' ∧ loopW t bf ks m ρ' = some out, fun σ' H' ⟨ρ', fs', a1, a2, a3, a4⟩ => ⟨m, by omega, ρ', fs', a1, a2, a3, a4⟩, R, p.2, fs2, o, s2, eb, ?_⟩
      have fin : ∀ {τx : List Ty} {ρ' : Rho} {σ' : L2.St} {H'' : Hp} {fs' : List Addr}, killT ks τx = killT ks τ → Step H1 H'' fs2 fs' → Kp γ.io σ σ' → SR X.K X.mg R τx ρ' σ' H'' fs' →
          ∃ fs'', Step H0 H'' fs1 fs'' ∧ Kp γ.io σ0 σ' ∧ SR X.K X.mg R (killT ks τ) (kill ks ρ') σ' H'' fs'' := fun hx t3 k3 s3 => by
        obtain ⟨fs4, s4, sub4⟩ := s3.killS ks
        rw [hx] at s4
        exact ⟨fs4, (st.trans t2).trans (t3.less sub4), k.trans k3, s4⟩
      cases o with
      | nx ρ2 =>
        exact fun σ' H'' fs' t3 k3 s3 => by
          obtain ⟨fs4, a1, a2, a3⟩ := fin h1 t3 k3 s3
          exact ⟨_, fs4, a1, a2, a3, eo⟩
      | ct ρ2 =>
        exact fun σ' H'' fs' t3 k3 s3 => by
          obtain ⟨fs4, a1, a2, a3⟩ := fin h3 t3 k3 s3
          exact ⟨_, fs4, a1, a2, a3, eo⟩
      | bk ρ2 =>
        cases eo
        exact fun σ' H'' fs' t3 k3 s3 => by
          obtain ⟨fs4, a1, a2, a3⟩ := fin h2 t3 k3 s3
          exact q1 σ' H'' fs4 a1 a2 a3
      | rt d ρ2 =>
        cases eo
        exact fun v σ' H'' fs' fv t3 k3 s3 r3 => q1 v σ' H'' fs' fv ((st.trans t2).trans t3) (k.trans k3) s3 r3
end

/-! ### slots that do not matter -/
section
variable {K : PySem.W.Frag} {mg : Str → Option Value} {H G : Hp}
theorem Sl.congr : ∀ {τ : List Ty} {ρ ρ' : Rho} {σ σ' : L2.St} {f : List Addr}, Sl K mg H G τ ρ σ f → ρ'.length = ρ.length → σ'.length = σ.length → (∀ (i : Nat) (t : Ty), τ[i]? = some t → t ≠ .no → ρ'[i]? = ρ[i]? ∧ σ'[i]? = σ[i]?) → Sl K mg H G τ ρ' σ' f
  | _, _, ρ', _, σ', _, .nil, h1, h2, _ => by
    have e1 : ρ' = [] := List.length_eq_zero_iff.mp h1
    have e2 : σ' = [] := List.length_eq_zero_iff.mp h2
    subst e1; subst e2; exact .nil
  | _, _, ρ', _, σ', _, .no r, h1, h2, k => by
    cases ρ' with
    | nil => simp at h1
    | cons d ρ' =>
      cases σ' with
      | nil => simp at h2
      | cons v σ' => exact .no (Sl.congr r (by simpa using h1) (by simpa using h2) fun i t e n => by simpa using k (i + 1) t (by simpa using e) n)
  | _, _, ρ', _, σ', _, .cons (t := t) h r, h1, h2, k => by
    cases ρ' with
    | nil => simp at h1
    | cons d ρ' =>
      cases σ' with
      | nil => simp at h2
      | cons v σ' =>
        have k0 := k 0 t rfl (by intro z; subst z; cases h)
        simp at k0
        obtain ⟨rfl, rfl⟩ := k0
        exact .cons h (Sl.congr r (by simpa using h1) (by simpa using h2) fun i t e n => by simpa using k (i + 1) t (by simpa using e) n)
end
theorem wipe_in {σ : L2.St} {i : Nat} : ∀ {vs : List Nat}, i ∈ vs → i < σ.length → (wipe σ vs)[i]? = some none
  | v :: vs, h, hl => by
    show ((wipe σ vs).set v none)[i]? = some none
    by_cases e : v = i
    · subst e
      rw [List.getElem?_set_self (by rw [wipe_length]; exact hl)]
    · rw [List.getElem?_set_ne e]
      exact wipe_in ((List.mem_cons.mp h).resolve_left (fun z => e z.symm)) hl
/-! ### list comprehensions -/
def oE (f : Ef) : Of := fun ρ => (f ρ).bind fun p => match p.1 with
  | .v d => some (d, p.2)
  | _ => none
theorem do_E {X : Cx} {τ : List Ty} {e : Expr} {f : Ef} (h : DE X e τ f) : DO X e τ (oE f) .sh := pe_imp h fun σ H Q ⟨R, ρ, fs, d, ρ', s, e, q⟩ => by
  obtain ⟨p, e1, e2⟩ := bindO e
  obtain ⟨p1, p2⟩ := p
  cases p1 with
  | x i => cases e2
  | v d => cases e2; exact ⟨R, ρ, fs, _, _, s, e1, fun v H' fs' t s' r => q v H' fs' [] t s' (.sh r)⟩
def stepLc (own : List Nat) (g : Gf) (tt : Tf) (el : Of) (d : D) (ρ : Rho) : Option (Option D × Rho) := (g d ρ).bind fun ρ1 => (tt ρ1).bind fun p => if p.1 then (el p.2).bind fun q => some (some q.1, kill own q.2) else some (none, kill own p.2)
def lcF (step : D → Rho → Option (Option D × Rho)) : List D → Rho → Option (List D × Rho)
  | [], ρ => some ([], ρ)
  | d :: r, ρ => (step d ρ).bind fun q => (lcF step r q.2).bind fun w => some (q.1.toList ++ w.1, w.2)
def oLc (own : List Nat) (it : Itf) (g : Gf) (tt : Tf) (el : Of) : Of := fun ρ => (it ρ).bind fun p => if okLen p.1.length then (lcF (stepLc own g tt el) p.1 p.2).bind fun r => some (.lst r.1, r.2) else none
def isNo : Option Ty → Bool
  | some .no => true
  | _ => false
def allNo (τ : List Ty) (own : List Nat) : Bool := own.all fun i => isNo τ[i]?
theorem allNo_ok {τ : List Ty} {own : List Nat} (h : allNo τ own = true) : ∀ i ∈ own, τ[i]? = some .no := fun i hi => by
  have := List.all_eq_true.mp h i hi
  revert this
  generalize τ[i]? = o
  intro q
  cases o with
  | none => cases q
  | some t => cases t <;> first | rfl | cases q
def others (n : Nat) (own : List Nat) : List Nat := (List.range n).filter fun i => !own.contains i
def tYesF : Tf := fun ρ => some (true, ρ)
abbrev DTs (X : Cx) (ifs : List Expr) (τ : List Ty) (f : Tf) : Prop := PTs X ifs (tT X τ f)
theorem pts_imp {X : Cx} {e : List Expr} {t t' : TT} (h : PTs X e t) (k : ∀ σ H Q, t' σ H Q → t σ H Q) : PTs X e t' := ⟨fun pins s σ H Q I q => h.run pins s σ H Q I (k σ H Q q)⟩
theorem dts_nil {X : Cx} {τ : List Ty} : DTs X [] τ tYesF := pts_imp pts_nil fun σ H Q ⟨R, ρ, fs, b, ρ', s, e, q⟩ => by
  cases e
  exact q H fs (Step.refl H fs) s
theorem dts_one {X : Cx} {τ : List Ty} {c : Expr} {f : Tf} (h : DT X c τ f) : DTs X [c] τ f := pts_one h
theorem SR.updR {K : PySem.W.Frag} {mg : Str → Option Value} {R : List Addr} {τ : List Ty} {ρ : Rho} {σ : L2.St} {H : Hp} {fs : List Addr} {a : Addr} {o : HO} (s : SR K mg R τ ρ σ H fs) (ha : a ∈ R) (w : Own o) : SR K mg R τ ρ σ (upd H a o) fs := by
  have nd := s.nd
  refine ⟨s.sl.mono (hide_mono fun b u n e => ⟨n, by rw [upd_ne fun z => n (by rw [z]; exact List.mem_append_left _ ha)]; exact e⟩) fun b hb => upd_ne fun z => (List.nodup_append.mp nd).2.2 a ha b hb z.symm, nd, fun b hb => ?_⟩
  by_cases z : b = a
  · exact ⟨o, by rw [z, upd_same], w⟩
  · obtain ⟨u, e, w'⟩ := s.al b hb
    exact ⟨u, by rw [upd_ne z]; exact e, w'⟩
theorem Rps.snoc {K : PySem.W.Frag} {mg : Str → Option Value} {H G : Hp} : ∀ {ts : List Ty} {ds : List D} {vs : List V} {f : List Addr} {t : Ty} {d : D} {v : V} {g : List Addr}, Rps K mg H G ts ds vs f → Rp K mg H G t d v g → Rps K mg H G (ts ++ [t]) (ds ++ [d]) (vs ++ [v]) (f ++ g)
  | _, _, _, _, _, _, _, g, .nil, h => by
    have := Rps.cons h .nil
    simpa using this
  | _, _, _, _, _, _, _, g, .cons (f := f0) (g := g0) q r, h => by
    have := Rps.cons q (Rps.snoc r h)
    simpa [List.append_assoc] using this
theorem Rps.len {K : PySem.W.Frag} {mg : Str → Option Value} {H G : Hp} : ∀ {ts : List Ty} {ds : List D} {vs : List V} {f : List Addr}, Rps K mg H G ts ds vs f → ds.length = vs.length
  | _, _, _, _, .nil => rfl
  | _, _, _, _, .cons _ r => by simp [Rps.len r]
section
variable {X : Cx} {γ : Gm} {τ τ1 τ' : List Ty} {tg a b c elt iter : Expr} {ifs : List Expr} {es : List Expr} {pos p : Pos}
/-- the reading of a comprehension -/
theorem tLc_of {it : Itf} {g : Gf} {tt : Tf} {el : Of} {t : Ty} {τg : List Ty} (own : List Nat) (hown : ∀ i ∈ own, τ[i]? = some .no) (hlen : τg.length = τ.length) (hkg : killT own τg = τ) : ∀ σ H Q, tO X τ (oLc own it g tt el) (.oL t) σ H Q →
    tLc (tI X τ it) (tG X (others τ.length own) τ g τg) (tT X τg tt) (tO X τg el t) own σ H Q := fun σ0 H0 Q ⟨R, ρ0, fs0, dd, ρe, s0, e, q⟩ => by
  obtain ⟨w, e1, e2⟩ := bindO e
  obtain ⟨e3, e4⟩ : okLen w.1.length = true ∧ ((lcF (stepLc own g tt el) w.1 w.2).bind fun r => some (D.lst r.1, r.2)) = some (dd, ρe) := by
    by_cases h : okLen w.1.length = true
    · rw [if_pos h] at e2; exact ⟨h, e2⟩
    · rw [if_neg h] at e2; cases e2
  obtain ⟨res, e5, e6⟩ := bindO e4
  cases e6
  refine ⟨R, ρ0, fs0, w.1, w.2, s0, e1, fun J H1 fs1 t1 s1 wk => fun Dd hD => ?_⟩
  obtain ⟨n1, n2, n3⟩ := s1.newL (p := Dd) (vs := []) (ds := []) hD .nil
  have hlσ : ∀ {R' : List Addr} {ρ' : Rho} {H' : Hp} {fs' : List Addr} {σ' : L2.St} {τx : List Ty}, SR X.K X.mg R' τx ρ' σ' H' fs' → σ'.length = τx.length := fun s => by
    have := s.sl.len
    omega
  refine ⟨fun i m H => ∃ ρ fs gs accd acc rest, Step H1 H fs1 ((Dd :: gs) ++ fs) ∧ SR X.K X.mg ((Dd :: gs) ++ R) τ ρ σ0 H fs ∧ Le (hide (R ++ fs1) H1) (hide ((Dd :: gs) ++ R ++ fs) H) ∧ H Dd = some (.lst acc) ∧
      Rps X.K X.mg H (hide ((Dd :: gs) ++ R ++ fs) H) (List.replicate accd.length t) accd acc gs ∧ lcF (stepLc own g tt el) (w.1.drop i) ρ = some rest ∧ accd ++ rest.1 = res.1 ∧ rest.2 = res.2 ∧ accd.length ≤ i ∧ m + i = w.1.length,
    ⟨w.1.length, w.2, fs1, [], [], [], res, n3, n1, ?_, upd_same, .nil, by simpa using e5, rfl, rfl, Nat.le_refl _, by omega⟩, fun i m H ⟨ρ, fs, gs, accd, acc, rest, tS, s, le, hDd, rps, el1, er1, er2, ei, em⟩ => ?_⟩
  · exact hide_upd' hD fun a z => by simpa using z
  · obtain ⟨wgo, wst⟩ := wk i ((Dd :: gs) ++ R ++ fs) H s.own le
    by_cases hi : i < w.1.length
    · have ed := List.getElem?_eq_getElem hi
      generalize w.1[i] = d at ed
      rw [drop_get ed] at el1
      obtain ⟨st, es1, es2⟩ := bindO (show (stepLc own g tt el d ρ).bind _ = some rest from el1)
      obtain ⟨rest', es3, es4⟩ := bindO es2
      obtain ⟨ρ1, eg, es5⟩ := bindO (show (g d ρ).bind _ = some st from es1)
      obtain ⟨pt, et, es6⟩ := bindO es5
      obtain ⟨go, yl⟩ := wgo d ed
      refine .inr ⟨go, fun H' => ∃ ρ fs gs accd acc rest, Step H1 H' fs1 ((Dd :: gs) ++ fs) ∧ SR X.K X.mg ((Dd :: gs) ++ R) τ ρ σ0 H' fs ∧ Le (hide (R ++ fs1) H1) (hide ((Dd :: gs) ++ R ++ fs) H') ∧ H' Dd = some (.lst acc) ∧
          Rps X.K X.mg H' (hide ((Dd :: gs) ++ R ++ fs) H') (List.replicate accd.length t) accd acc gs ∧ lcF (stepLc own g tt el) (w.1.drop (i + 1)) ρ = some rest ∧ accd ++ rest.1 = res.1 ∧ rest.2 = res.2 ∧ accd.length ≤ i + 1,
        fun H' ⟨a0, a1, a2, a3, a4, a5, a6, a7, a8, a9, a10, a11, a12, a13, a14⟩ => ⟨m - 1, by omega, a0, a1, a2, a3, a4, a5, a6, a7, a8, a9, a10, a11, a12, a13, a14, by omega⟩, fun x H' hy => ?_⟩
      obtain ⟨gr, rf⟩ := yl x H' hy
      have sw : SR X.K X.mg ((Dd :: gs) ++ R) τ ρ (wipe σ0 own) H' fs := by
        have s' := s.grow gr
        refine ⟨s'.sl.congr rfl (wipe_length _ _) fun j tj ej nj => ⟨rfl, ?_⟩, s'.nd, s'.al⟩
        exact wipe_out fun z => by rw [hown j z] at ej; exact nj (Option.some.inj ej).symm
      refine ⟨(Dd :: gs) ++ R, ρ, fs, d, ρ1, sw, rf, eg, fun σ2 fs2 sub2 k2 s2 => ⟨?_, ?_⟩⟩
      · apply List.ext_getElem?
        intro j
        have hl2 : σ2.length = σ0.length := by rw [hlσ s2, hlσ s, hlen]
        by_cases hj : j ∈ own
        · by_cases hjl : j < σ0.length
          · rw [wipe_in hj (by rw [hl2]; exact hjl), wipe_in hj hjl]
          · rw [List.getElem?_eq_none (by rw [wipe_length, hl2]; omega), List.getElem?_eq_none (by rw [wipe_length]; omega)]
        · rw [wipe_out hj, wipe_out hj]
          by_cases hjl : j < τ.length
          · rw [k2 j (by unfold others; simp [hjl, hj]), wipe_out hj]
          · rw [List.getElem?_eq_none (by rw [hlσ s2, hlen]; omega), List.getElem?_eq_none (by rw [hlσ s]; omega)]
      · have t2 : Step H H' fs fs2 := (Step.grow gr fs).less sub2
        refine ⟨(Dd :: gs) ++ R, ρ1, fs2, pt.1, pt.2, s2, et, fun H3 fs3 t3 s3 => ?_⟩
        have back : ∀ {R' : List Addr} {ρ' : Rho} {H' : Hp} {fs' : List Addr}, SR X.K X.mg R' τg ρ' σ2 H' fs' → ∃ fs'', SR X.K X.mg R' τ (kill own ρ') σ0 H' fs'' ∧ ∀ a ∈ fs'', a ∈ fs' := fun s' => by
          obtain ⟨fs'', sk, sb⟩ := s'.killS own
          rw [hkg] at sk
          refine ⟨fs'', ⟨sk.sl.congr rfl ?_ fun j tj ej nj => ⟨rfl, ?_⟩, sk.nd, sk.al⟩, sb⟩
          · rw [hlσ s, hlσ sk]
          · have hj : j ∉ own := fun z => by rw [hown j z] at ej; exact nj (Option.some.inj ej).symm
            have hjl : j < τ.length := (List.getElem?_eq_some_iff.mp ej).1
            rw [k2 j (by unfold others; simp [hjl, hj]), wipe_out hj]
        cases hp : pt.1 with
        | false =>
          rw [hp] at es6
          cases es6
          obtain ⟨fs4, s4, sub4⟩ := back s3
          have t4 : Step H H3 fs fs4 := (t2.trans t3).less sub4
          refine iteF ⟨_, fs4, gs, accd, acc, rest', ⟨fun a o n e => ?_, fun a ha => ?_, fun a o e => ?_⟩, s4, le.trans (s.le t4), ?_, ?_, es3, ?_, ?_, by omega⟩
          · by_cases z : a ∈ (Dd :: gs) ++ fs
            · rcases tS.sub a z with q | q
              · exact absurd q n
              · rw [q] at e; cases e
            · exact t4.ext a o (fun h => z (List.mem_append_right _ h)) (tS.ext a o n e)
          · rcases List.mem_append.mp ha with z | z
            · exact tS.sub a (List.mem_append_left _ z)
            · rcases t4.sub a z with q | q
              · exact tS.sub a (List.mem_append_right _ q)
              · refine .inr ?_
                cases e : H1 a with
                | none => rfl
                | some o =>
                  obtain ⟨o', e'⟩ := tS.ne a o e
                  rw [e'] at q; cases q
          · obtain ⟨o', e'⟩ := tS.ne a o e
            exact t4.ne a o' e'
          · refine t4.ext Dd _ (fun z => ?_) hDd
            exact (List.nodup_append.mp s.nd).2.2 Dd (by simp) Dd z rfl
          · refine rps.mono (s.le t4) fun a ha => ?_
            obtain ⟨o, eo, _⟩ := s.al a (by simp [ha])
            rw [eo]
            exact t4.ext a o (fun z => (List.nodup_append.mp s.nd).2.2 a (by simp [ha]) a z rfl) eo
          · rw [← er1, ← Option.some.inj es4]; rfl
          · rw [← er2, ← Option.some.inj es4]
        | true =>
          rw [hp, if_pos rfl] at es6
          obtain ⟨pe, ee, es7⟩ := bindO es6
          cases es7
          refine iteT ⟨(Dd :: gs) ++ R, pt.2, fs3, pe.1, pe.2, s3, ee, fun y H4 fs4 fv t4 s4 r4 => ?_⟩
          obtain ⟨fs5, s5, sub5⟩ := back s4
          have t35 : Step H H4 fs (fv ++ fs5) := (t2.trans t3).trans (t4.less fun a ha => (List.mem_append.mp ha).elim (fun z => by simp [z]) fun z => by simp [sub5 a z])
          have hD4 : H4 Dd = some (.lst acc) := t35.ext Dd _ (fun z => (List.nodup_append.mp s.nd).2.2 Dd (by simp) Dd z rfl) hDd
          have lacc : acc.length < sizeLine := by
            rw [← rps.len]
            have := okLen_le e3
            omega
          refine ⟨acc, hD4, lacc, ?_⟩
          have s6 := s5.updR (a := Dd) (o := .lst (acc ++ [y])) (by simp) trivial
          have mem : ∀ a, a ∈ (Dd :: (gs ++ fv)) ++ R ++ fs5 ↔ a ∈ fv ++ ((Dd :: gs) ++ R) ++ fs5 := fun a => by
            simp only [List.mem_append, List.mem_cons]
            constructor
            · rintro (((h | h | h) | h) | h) <;> simp [h]
            · rintro ((h | (h | h) | h) | h) <;> simp [h]
          have pm : ((Dd :: (gs ++ fv)) ++ R ++ fs5).Perm (fv ++ ((Dd :: gs) ++ R) ++ fs5) := by
            refine List.Perm.append_right _ ?_
            rw [← List.cons_append, List.append_assoc]
            refine (List.Perm.append_left (Dd :: gs) (List.perm_append_comm (l₁ := fv) (l₂ := R))).trans ?_
            rw [← List.append_assoc]
            exact List.perm_append_comm
          have s7 : SR X.K X.mg ((Dd :: (gs ++ fv)) ++ R) τ (kill own pe.2) σ0 (upd H4 Dd (.lst (acc ++ [y]))) fs5 := by
            refine ⟨s6.sl.mono (hide_sub fun a ha => (mem a).mp ha) fun _ _ => rfl, pm.nodup_iff.mpr s6.nd, fun a ha => ?_⟩
            refine s6.own a ((mem a).mp (List.mem_append_left _ ha))
          have ndS := s5.nd
          have neD : ∀ a, a ∈ gs ∨ a ∈ fv → a ≠ Dd := fun a ha z => by
            subst z
            simp only [List.append_assoc, List.nodup_append, List.mem_append, List.cons_append, List.nodup_cons] at ndS
            rcases ha with h | h
            · exact ndS.2.1.1 (.inl h)
            · exact ndS.2.2 a h a (by simp) rfl
          have leU : Le (hide ((Dd :: gs) ++ R ++ fs) H) (hide ((Dd :: (gs ++ fv)) ++ R ++ fs5) (upd H4 Dd (.lst (acc ++ [y])))) := hide_mono fun a o n e => by
            have n1 : a ≠ Dd := fun z => n (by simp [z])
            have nfs : a ∉ fs := fun z => n (by simp [z])
            refine ⟨fun z => ?_, by rw [upd_ne n1]; exact t35.ext a o nfs e⟩
            have z := (mem a).mp z
            simp only [List.mem_append, List.mem_cons] at z n
            rcases z with (z | (z | z) | z) | z
            · rcases t35.sub a (by simp [z]) with q | q
              · exact nfs q
              · rw [q] at e; cases e
            · exact n1 z
            · exact n (by simp [z])
            · exact n (by simp [z])
            · rcases t35.sub a (by simp [z]) with q | q
              · exact nfs q
              · rw [q] at e; cases e
          refine ⟨_, fs5, gs ++ fv, accd ++ [pe.1], acc ++ [y], rest', ⟨fun a o n e => ?_, fun a ha => ?_, fun a o e => ?_⟩, s7, le.trans leU, upd_same, ?_, es3, ?_, ?_, by simp; omega⟩
          · have z : a ∉ (Dd :: gs) ++ fs := fun z => by
              rcases tS.sub a z with q | q
              · exact n q
              · rw [q] at e; cases e
            rw [upd_ne fun h => z (by simp [h])]
            exact t35.ext a o (fun h => z (List.mem_append_right _ h)) (tS.ext a o n e)
          · have fr : ∀ a, H a = none → H1 a = none := fun a q => by
              cases e : H1 a with
              | none => rfl
              | some o =>
                obtain ⟨o', e'⟩ := tS.ne a o e
                rw [e'] at q; cases q
            simp only [List.mem_append, List.mem_cons] at ha
            rcases ha with (z | z | z) | z
            · exact tS.sub a (by simp [z])
            · exact tS.sub a (by simp [z])
            · rcases t35.sub a (by simp [z]) with q | q
              · exact tS.sub a (by simp [q])
              · exact .inr (fr a q)
            · rcases t35.sub a (by simp [z]) with q | q
              · exact tS.sub a (by simp [q])
              · exact .inr (fr a q)
          · obtain ⟨o', e'⟩ := tS.ne a o e
            obtain ⟨o2, e2⟩ := t35.ne a o' e'
            by_cases z : a = Dd
            · exact ⟨_, by rw [z, upd_same]⟩
            · exact ⟨o2, by rw [upd_ne z]; exact e2⟩
          · have r1 := rps.mono leU (H' := upd H4 Dd (.lst (acc ++ [y]))) fun a ha => by
              rw [upd_ne (neD a (.inl ha))]
              obtain ⟨o, eo, _⟩ := s.al a (by simp [ha])
              rw [eo]
              exact t35.ext a o (fun z => (List.nodup_append.mp s.nd).2.2 a (by simp [ha]) a z rfl) eo
            have leV : Le (hide (fv ++ ((Dd :: gs) ++ R) ++ fs4) H4) (hide ((Dd :: (gs ++ fv)) ++ R ++ fs5) (upd H4 Dd (.lst (acc ++ [y])))) := hide_mono fun a o n e => by
              have n1 : a ≠ Dd := fun z => n (by simp [z])
              refine ⟨fun z => n ?_, by rw [upd_ne n1]; exact e⟩
              have z := (mem a).mp z
              rcases List.mem_append.mp z with z | z
              · exact List.mem_append_left _ z
              · exact List.mem_append_right _ (sub5 a z)
            have r2 := r4.mono leV (H' := upd H4 Dd (.lst (acc ++ [y]))) fun a ha => upd_ne (neD a (.inr ha))
            have := r1.snoc r2
            rw [← List.replicate_succ', show accd.length + 1 = (accd ++ [pe.1]).length by simp] at this
            exact this
          · rw [← er1, ← Option.some.inj es4]; simp
          · rw [← er2, ← Option.some.inj es4]
    · rw [List.drop_eq_nil_of_le (by omega)] at el1
      cases el1
      refine .inl ⟨wst (by omega), ?_⟩
      simp at er1 er2
      subst er1
      subst er2
      exact q (.ref Dd) H fs (Dd :: gs) (t1.trans tS) s (.oL hDd rps)
theorem do_lc {it : Itf} {g : Gf} {tt : Tf} {el : Of} {t : Ty} {τg : List Ty} {scope : Scope} {own : List (Str × Nat)} (hc : X.calm = true) (hN : X.N.Nodup) (hi : DI X tg iter τ it) (ok : BlkOk X.N X.env.scope scope own)
    (hg : ∀ (s : Shared) (H : Hp) (C : Addr) (cl : List (Str × Addr)) (fp : List Addr), DG (X.blk s H scope (compEnvC scope cl C X.env) fp) (others τ.length (own.map (·.2))) tg τ g τg)
    (ht : ∀ (s : Shared) (H : Hp) (C : Addr) (cl : List (Str × Addr)) (fp : List Addr), DTs (X.blk s H scope (compEnvC scope cl C X.env) fp) ifs τg tt)
    (he : ∀ (s : Shared) (H : Hp) (C : Addr) (cl : List (Str × Addr)) (fp : List Addr), DO (X.blk s H scope (compEnvC scope cl C X.env) fp) elt τg el t)
    (hown : allNo τ (own.map (·.2)) = true := by rfl) (hlen : τg.length = τ.length := by rfl) (hkg : killT (own.map (·.2)) τg = τ := by rfl)
    (hs : ∀ x, foldedSetIterable iter X.env x = pure x := by intro _; rfl) :
    DO X (.ListComp elt [⟨tg, iter, ifs, 0⟩] scope pos) τ (oLc (own.map (·.2)) it g tt el) (.oL t) := pe_imp (pe_lc hc hN hi ok hg ht he hs) (tLc_of (own.map (·.2)) (allNo_ok hown) hlen hkg)
end
end TL

namespace TL
open PySem PySem.Spec PyProof.Rows L2

section
variable {X : Cx} {γ : Gm} {τ τ1 τ' : List Ty} {tg a b c e elt iter o : Expr} {ifs : List Expr} {es : List Expr} {pos p : Pos}
/-- name = [..], the name local: the stores are exchanged -/
theorem ds_setLc {it : Itf} {g : Gf} {tt : Tf} {el : Of} {t : Ty} {τg : List Ty} {scope : Scope} {own : List (Str × Nat)} {y : Str} {py spos : Pos} (i : Nat) (hc : X.calm = true) (hN : X.N.Nodup) (hy : X.N[i]? = some y) (hyl : X.env.scope.names.lookup y = some .local)
    (hsw : swapsWith (.ListComp elt [⟨tg, iter, ifs, 0⟩] scope pos) (some (.Name y py)) spos.line X.env = pure true) (hi : DI X tg iter τ it) (ok : BlkOk X.N X.env.scope scope own)
    (hg : ∀ (s : Shared) (H : Hp) (C : Addr) (cl : List (Str × Addr)) (fp : List Addr), DG (X.blk s H scope (compEnvC scope cl C X.env) fp) (others τ.length (own.map (·.2))) tg τ g τg)
    (ht : ∀ (s : Shared) (H : Hp) (C : Addr) (cl : List (Str × Addr)) (fp : List Addr), DTs (X.blk s H scope (compEnvC scope cl C X.env) fp) ifs τg tt)
    (he : ∀ (s : Shared) (H : Hp) (C : Addr) (cl : List (Str × Addr)) (fp : List Addr), DO (X.blk s H scope (compEnvC scope cl C X.env) fp) elt τg el t)
    (hown : allNo τ (own.map (·.2)) = true := by rfl) (hlen : τg.length = τ.length := by rfl) (hkg : killT (own.map (·.2)) τg = τ := by rfl)
    (hs : ∀ x, foldedSetIterable iter X.env x = pure x := by intro _; rfl) (hti : i < τ.length := by decide) (hio : i ∉ γ.io := by decide) :
    DS X γ (.Assign [.Name y py] (.ListComp elt [⟨tg, iter, ifs, 0⟩] scope pos) spos) τ (sSetO i (oLc (own.map (·.2)) it g tt el)) (τ.set i (.oL t)) :=
  ps_imp (ps_setLc (i := i) hc hN hy hyl hsw hi ok hg ht he hs) fun D σ H q => by
    have := setO_of i hti hio D σ H q
    obtain ⟨R, ρ, fs, d, ρ', s, e, k⟩ := this
    exact tLc_of (own.map (·.2)) (allNo_ok hown) hlen hkg σ H _ ⟨R, ρ, fs, d, ρ', s, e, k⟩
/-- an owned value, then its slot is frozen -/
theorem ds_frzA {st : Stmt} {f : Sf} (i : Nat) {t : Ty} (h : DS X γ st τ f τ1) (ht : τ1[i]? = some t := by rfl) (hn : t ≠ .no := by intro z; cases z) : DS X γ st τ f (τ1.set i .sh) := ps_imp h fun D σ H ⟨R, ρ, fs, o, s, e, q⟩ => by
  refine ⟨R, ρ, fs, o, s, e, ?_⟩
  cases o with
  | nx ρ' =>
    exact fun σ' H' fs' t' k' s' => by
      obtain ⟨fs2, s2, sub⟩ := s'.frz ht hn
      exact q σ' H' fs2 (t'.less sub) k' s2
  | bk ρ' => exact q
  | ct ρ' => exact q
  | rt d ρ' => exact q

/-! ### o[i] = e -/
def setL (l : List D) (k : Int) (d : D) : Option (List D) := (ixN l.length k).bind fun j => some (l.set j d)
def sSetIx (i : Nat) (f fk : Ef) : Sf := fun ρ => (f ρ).bind fun p => (fk p.2).bind fun q => match p.1, q.1, q.2.getD i .non with
  | .v d, .v (.int k), .lst l => (setL l k d).bind fun l' => some (.nx (q.2.set i (.lst l')))
  | _, _, _ => none
theorem SR.gSub_aux {K : PySem.W.Frag} {mg : Str → Option Value} {R : List Addr} {ρ : Rho} {σ : L2.St} {H : Hp} {fs : List Addr} {i : Nat} {v0 : V} (s : SR K mg R τ ρ σ H fs) (ht : τ[i]? = some (.oL .sh)) (ev : σ[i]? = some (some v0)) {l : List D} (el : ρ.getD i .non = .lst l) :
    ∃ a vs, v0 = .ref a ∧ H a = some (.lst vs) ∧ Rfs K mg (hide (R ++ fs) H) l vs ∧ ∀ (vs' : List V) (l' : List D), Rfs K mg (hide (R ++ fs) H) l' vs' → SR K mg R τ (ρ.set i (.lst l')) σ (upd H a (.lst vs')) fs ∧ Step H (upd H a (.lst vs')) fs fs := by
  obtain ⟨f1, fo, f2, ef, hos, hl, _, h2, _⟩ := s.sl.split ht
  rcases hos with ⟨z, _⟩ | ⟨v1, ev1, r1⟩
  · cases z
  rw [ev] at ev1; cases ev1
  rw [el] at r1
  cases r1 with
  | @oL t a vs ds g h rs =>
    obtain ⟨rf, eg⟩ := rs.to_sh
    subst eg
    refine ⟨a, vs, rfl, h, rf, fun vs' l' rf' => ?_⟩
    have le : Le (hide (R ++ fs) H) (hide (R ++ fs) (upd H a (.lst vs'))) := hide_mono fun b u n e => ⟨n, by
      rw [upd_ne fun z => n (by rw [z, ef]; simp)]; exact e⟩
    exact s.write ht (f := []) ev (d := .lst l) ef (o := .lst vs') (d' := .lst l') trivial h2 (.oL upd_same (Rps.of_sh (rf'.mono le)))
theorem ds_setix {f fk : Ef} {ok ek : Expr} (i : Nat) (he : DE X e τ f) (ho : PE X ok (tVar i)) (hk : DE X ek τ fk) (ht : τ[i]? = some (.oL .sh) := by rfl)
    (ha : ∀ v, assign (.Subscript ok ek p) X.env v = (do
      let ov ← holding [v] (eval ok X.env)
      let iv ← holding [v, ov] (eval ek X.env)
      standAt p
      holding [v, ov, iv] (setItem ov iv v)
      release [v, ov, iv] []) := by intro _; rfl)
    (hs : swapsWithSole [.Subscript ok ek p] e pos.line X.env = pure false := by rfl) (hw : swappedStores [.Subscript ok ek p] e X.env = pure none := by rfl)
    (h1 : (assignEach [.Subscript ok ek p] X.env).map (·.2) = [assign (.Subscript ok ek p) X.env] := by rfl) :
    DS X γ (.Assign [.Subscript ok ek p] e pos) τ (sSetIx i f fk) τ := ps_imp (ps_asg he (pg_sub ho hk set_list ha) hs hw h1) fun D σ H ⟨R, ρ, fs, out, s, e, q⟩ => by
  obtain ⟨w, e1, e2⟩ := bindO e
  obtain ⟨z, e3, e4⟩ := bindO e2
  obtain ⟨w1, w2⟩ := w
  obtain ⟨z1, z2⟩ := z
  cases w1 with
  | x i => cases e4
  | v d =>
    cases z1 with
    | x i => cases e4
    | v dk =>
      cases dk with
      | int k =>
        have e5 : (match z2.getD i .non with | .lst l => (setL l k d).bind fun l' => some (Out.nx (z2.set i (.lst l'))) | _ => none) = some out := by
          revert e4
          simp only
          cases z2.getD i .non <;> exact id
        obtain ⟨l, el, e6⟩ : ∃ l, z2.getD i .non = .lst l ∧ ((setL l k d).bind fun l' => some (Out.nx (z2.set i (.lst l')))) = some out := by
          revert e5
          cases hz : z2.getD i .non with
          | lst l => exact fun e5 => ⟨l, rfl, e5⟩
          | _ => exact fun e5 => by cases e5
        obtain ⟨l', e7, e8⟩ := bindO e6
        cases e8
        obtain ⟨j, e9, e10⟩ := bindO e7
        cases e10
        obtain ⟨v0, f0, ev0, r0, _⟩ := s.get ht (by intro z; cases z)
        refine ⟨R, ρ, fs, _, _, s, e1, fun v H1 fs1 t1 s1 r => ⟨v0, ev0, R, w2, fs1, _, _, s1, e3, fun vk H2 fs2 t2 s2 rk => ?_⟩⟩
        cases rk
        obtain ⟨a, vs, rfl, hH, rf, mk⟩ := s2.gSub_aux ht ev0 el
        have rv : Rf X.K X.mg (hide (R ++ fs2) H2) d v := Rf.mono (s1.le t2) r
        obtain ⟨sn, tn⟩ := mk (vs.set j v) (l.set j d) (rf.set j rv)
        exact ⟨a, vs, k, j, rfl, rfl, hH, by rw [← rf.length]; exact e9, q σ _ fs2 ((t1.trans t2).trans tn) (Kp.refl _ _) sn⟩
      | _ => cases e4

/-! ### a, b = e1, e2 (both local): stored from the right -/
abbrev Lf := Rho → Option (List D × Rho)
/-- values, some of them owned -/
def tL (X : Cx) (τ : List Ty) (f : Lf) (ts : List Ty) : TA := fun σ H Q => ∃ R ρ fs ds ρ', SR X.K X.mg R τ ρ σ H fs ∧ f ρ = some (ds, ρ') ∧
  ∀ vs H' fs' fv, Step H H' fs (fv ++ fs') → SR X.K X.mg (fv ++ R) τ ρ' σ H' fs' → Rps X.K X.mg H' (hide (fv ++ R ++ fs') H') ts ds vs fv → Q vs H'
abbrev DL (X : Cx) (es : List Expr) (τ : List Ty) (f : Lf) (ts : List Ty) : Prop := PA X es (tL X τ f ts)
def lNil : Lf := fun ρ => some ([], ρ)
def lCons (f : Of) (g : Lf) : Lf := fun ρ => (f ρ).bind fun p => (g p.2).bind fun q => some (p.1 :: q.1, q.2)
theorem dl_nil : DL X [] τ lNil [] := pa_imp pa_nil fun σ H Q ⟨R, ρ, fs, h, ρ', s, e, q⟩ => by
  cases e
  exact q [] H fs [] (Step.refl H fs) s .nil
theorem dl_cons {f : Of} {g : Lf} {t : Ty} {ts : List Ty} (ha : DO X e τ f t) (hr : DL X es τ g ts) (hs : starEach (e :: es) X.env = (false, eval e X.env) :: starEach es X.env := by rfl) : DL X (e :: es) τ (lCons f g) (t :: ts) := pa_imp (pa_cons ha hr hs) fun σ H Q ⟨R, ρ, fs, h, ρ', s, e, q⟩ => by
  obtain ⟨p, e1, e2⟩ := bindO e
  obtain ⟨w, e3, e4⟩ := bindO e2
  cases e4
  refine ⟨R, ρ, fs, p.1, p.2, s, e1, fun v H1 fs1 f1 t1 s1 r1 => ⟨f1 ++ R, p.2, fs1, w.1, w.2, s1, e3, fun vs H2 fs2 f2 t2 s2 r2 => ?_⟩⟩
  have mem : ∀ a, a ∈ (f1 ++ f2) ++ R ++ fs2 ↔ a ∈ f2 ++ (f1 ++ R) ++ fs2 := fun a => by
    simp only [List.mem_append]
    constructor
    · rintro (((h | h) | h) | h) <;> simp [h]
    · rintro ((h | (h | h)) | h) <;> simp [h]
  have pm : ((f1 ++ f2) ++ R ++ fs2).Perm (f2 ++ (f1 ++ R) ++ fs2) := by
    refine List.Perm.append_right _ ?_
    rw [← List.append_assoc]
    exact List.Perm.append_right _ List.perm_append_comm
  refine q (v :: vs) H2 fs2 (f1 ++ f2) ⟨fun a o n e => ?_, fun a ha => ?_, fun a o e => ?_⟩ ⟨s2.sl.mono (hide_sub fun a ha => (mem a).mp ha) fun _ _ => rfl, pm.nodup_iff.mpr s2.nd, fun a ha => s2.own a ((mem a).mp (List.mem_append_left _ ha))⟩ (.cons (r1.mono ?_ ?_) (r2.mono (hide_sub fun a ha => (mem a).mp ha) fun _ _ => rfl))
  · refine t2.ext a o (fun z => ?_) (t1.ext a o n e)
    rcases t1.sub a (List.mem_append_right _ z) with q | q
    · exact n q
    · rw [q] at e; cases e
  · have fr : ∀ a, H1 a = none → H a = none := fun a q => by
      cases e : H a with
      | none => rfl
      | some o =>
        obtain ⟨o', e'⟩ := t1.ne a o e
        rw [e'] at q; cases q
    simp only [List.mem_append] at ha
    rcases ha with (z | z) | z
    · exact t1.sub a (by simp [z])
    · rcases t2.sub a (by simp [z]) with q | q
      · exact t1.sub a (by simp [q])
      · exact .inr (fr a q)
    · rcases t2.sub a (by simp [z]) with q | q
      · exact t1.sub a (by simp [q])
      · exact .inr (fr a q)
  · obtain ⟨o', e'⟩ := t1.ne a o e
    exact t2.ne a o' e'
  · refine hide_mono fun a o n e => ?_
    have nfs : a ∉ fs1 := fun z => n (List.mem_append_right _ z)
    refine ⟨fun z => ?_, t2.ext a o nfs e⟩
    have z := (mem a).mp z
    rcases List.mem_append.mp z with z | z
    · rcases List.mem_append.mp z with z | z
      · rcases t2.sub a (List.mem_append_left _ z) with q | q
        · exact nfs q
        · rw [q] at e; cases e
      · exact n (List.mem_append_left _ z)
    · rcases t2.sub a (List.mem_append_right _ z) with q | q
      · exact nfs q
      · rw [q] at e; cases e
  · intro a ha
    obtain ⟨o, e, _⟩ := s1.own a (List.mem_append_left _ (List.mem_append_left _ ha))
    rw [e]
    exact t2.ext a o (fun z => (List.nodup_append.mp s1.nd).2.2 a (List.mem_append_left _ ha) a z rfl) e
def sPar (i j : Nat) (f : Lf) : Sf := fun ρ => (f ρ).bind fun p => match p.1 with
  | [a, b] => some (.nx ((p.2.set i a).set j b))
  | _ => none
theorem SR.put2 {K : PySem.W.Frag} {mg : Str → Option Value} {R : List Addr} {ρ : Rho} {σ : L2.St} {H : Hp} {fs fv : List Addr} {i : Nat} {t : Ty} {ts : List Ty} {d : D} {ds : List D} {v : V} {vs : List V} (s : SR K mg (fv ++ R) τ ρ σ H fs) (hi : i < τ.length) (r : Rps K mg H (hide (fv ++ R ++ fs) H) (t :: ts) (d :: ds) (v :: vs) fv) :
    ∃ fs' fw, SR K mg (fw ++ R) (τ.set i t) (ρ.set i d) (σ.set i (some v)) H fs' ∧ Rps K mg H (hide (fw ++ R ++ fs') H) ts ds vs fw ∧ ∀ a ∈ fw ++ fs', a ∈ fv ++ fs := by
  cases r with
  | @cons _ _ _ f g _ _ _ h r =>
    have s' : SR K mg (f ++ (g ++ R)) τ ρ σ H fs := by rw [← List.append_assoc]; exact s
    have h' : Rp K mg H (hide (f ++ (g ++ R) ++ fs) H) t d v f := by rw [← List.append_assoc]; exact h
    obtain ⟨fs', s2, sub⟩ := s'.put hi h'
    refine ⟨fs', g, s2, r.mono (hide_sub fun a ha => ?_) fun _ _ => rfl, fun a ha => ?_⟩
    · simp only [List.mem_append] at ha ⊢
      rcases ha with (z | z) | z
      · simp [z]
      · simp [z]
      · have := sub a z
        simp only [List.mem_append] at this
        rcases this with h | h <;> simp [h]
    · simp only [List.mem_append] at ha ⊢
      rcases ha with z | z
      · simp [z]
      · have := sub a z
        simp only [List.mem_append] at this
        rcases this with h | h <;> simp [h]
theorem ds_par {f : Lf} {x y : Str} {px py pt : Pos} {kt k2 pt2} {t1 t2 : Ty} (i j : Nat) (hc : X.calm = true) (hN : X.N.Nodup) (hi : X.N[i]? = some x) (hj : X.N[j]? = some y) (hx : X.env.scope.names.lookup x = some .local) (hy : X.env.scope.names.lookup y = some .local) (ha : DL X [a, b] τ f [t1, t2])
    (hw : swappedStores [.Tuple [.Name x px, .Name y py] kt pt] (.Tuple [a, b] k2 pt2) X.env = pure (some [x, y])) (hij : i ≠ j := by decide) (hit : i < τ.length := by decide) (hjt : j < τ.length := by decide) (hio : i ∉ γ.io := by decide) (hjo : j ∉ γ.io := by decide)
    (hs : swapsWithSole [.Tuple [.Name x px, .Name y py] kt pt] (.Tuple [a, b] k2 pt2) pos.line X.env = pure false := by rfl) :
    DS X γ (.Assign [.Tuple [.Name x px, .Name y py] kt pt] (.Tuple [a, b] k2 pt2) pos) τ (sPar i j f) ((τ.set i t1).set j t2) := ps_imp (ps_par hc hN hi hj hij hx hy ha hw hs) fun D σ H ⟨R, ρ, fs, o, s, e, q⟩ => by
  obtain ⟨w, e1, e2⟩ := bindO e
  obtain ⟨w1, w2⟩ := w
  match w1, e2 with
  | [d1, d2], e2 =>
    cases e2
    refine ⟨R, ρ, fs, _, _, s, e1, fun vs H1 fs1 fv tt s1 r => ?_⟩
    match vs, r with
    | [v1, v2], r =>
      refine ⟨v1, v2, rfl, ?_⟩
      obtain ⟨fs2, fw, s2, r2, sub2⟩ := s1.put2 hit r
      obtain ⟨fs3, fz, s3, r3, sub3⟩ := s2.put2 (by simpa using hjt) r2
      have ez : fz = [] := by cases r3; rfl
      subst ez
      refine q _ H1 fs3 (tt.less fun a ha => sub2 a (sub3 a ha)) (fun k hk => ?_) s3
      rw [List.getElem?_set_ne (by intro z; subst z; exact hjo hk), List.getElem?_set_ne (by intro z; subst z; exact hio hk)]
    | [], r => cases r
    | [_], r => cases r with | cons _ r => cases r
    | _ :: _ :: _ :: _, r => cases r with | cons _ r => cases r with | cons _ r => cases r
  | [], e2 => cases e2
  | [_], e2 => cases e2
  | _ :: _ :: _ :: _, e2 => cases e2
def sPar3 (i j l : Nat) (f : Lf) : Sf := fun ρ => (f ρ).bind fun p => match p.1 with
  | [a, b, c] => some (.nx (((p.2.set i a).set j b).set l c))
  | _ => none
theorem ds_par3 {f : Lf} {x y z : Str} {px py pz pt : Pos} {kt k2 pt2} {t1 t2 t3 : Ty} (i j l : Nat) (hc : X.calm = true) (hN : X.N.Nodup) (hi : X.N[i]? = some x) (hj : X.N[j]? = some y) (hl : X.N[l]? = some z) (hx : X.env.scope.names.lookup x = some .local) (hy : X.env.scope.names.lookup y = some .local) (hz : X.env.scope.names.lookup z = some .local) (ha : DL X [a, b, c] τ f [t1, t2, t3])
    (hw : swappedStores [.Tuple [.Name x px, .Name y py, .Name z pz] kt pt] (.Tuple [a, b, c] k2 pt2) X.env = pure (some [x, y, z])) (hij : i ≠ j := by decide) (hil : i ≠ l := by decide) (hjl : j ≠ l := by decide) (hit : i < τ.length := by decide) (hjt : j < τ.length := by decide) (hlt : l < τ.length := by decide) (hio : i ∉ γ.io := by decide) (hjo : j ∉ γ.io := by decide) (hlo : l ∉ γ.io := by decide)
    (hs : swapsWithSole [.Tuple [.Name x px, .Name y py, .Name z pz] kt pt] (.Tuple [a, b, c] k2 pt2) pos.line X.env = pure false := by rfl) :
    DS X γ (.Assign [.Tuple [.Name x px, .Name y py, .Name z pz] kt pt] (.Tuple [a, b, c] k2 pt2) pos) τ (sPar3 i j l f) (((τ.set i t1).set j t2).set l t3) := ps_imp (ps_par3 hc hN hi hj hl hij hil hjl hx hy hz ha hw hs) fun D σ H ⟨R, ρ, fs, o, s, e, q⟩ => by
  obtain ⟨w, e1, e2⟩ := bindO e
  obtain ⟨w1, w2⟩ := w
  match w1, e2 with
  | [d1, d2, d3], e2 =>
    cases e2
    refine ⟨R, ρ, fs, _, _, s, e1, fun vs H1 fs1 fv tt s1 r => ?_⟩
    have el := r.len
    match vs, r, el with
    | [v1, v2, v3], r, _ =>
      refine ⟨v1, v2, v3, rfl, ?_⟩
      obtain ⟨fs2, fw, s2, r2, sub2⟩ := s1.put2 hit r
      obtain ⟨fs3, fz, s3, r3, sub3⟩ := s2.put2 (by simpa using hjt) r2
      obtain ⟨fs4, fy, s4, r4, sub4⟩ := s3.put2 (by simpa using hlt) r3
      have ez : fy = [] := by cases r4; rfl
      subst ez
      refine q _ H1 fs4 (tt.less fun a ha => sub2 a (sub3 a (sub4 a ha))) (fun k hk => ?_) s4
      rw [List.getElem?_set_ne (by intro z; subst z; exact hlo hk), List.getElem?_set_ne (by intro z; subst z; exact hjo hk), List.getElem?_set_ne (by intro z; subst z; exact hio hk)]
    | [], _, el => simp at el
    | [_], _, el => simp at el
    | [_, _], _, el => simp at el
    | _ :: _ :: _ :: _ :: _, _, el => simp at el
  | [], e2 => cases e2
  | [_], e2 => cases e2
  | [_, _], e2 => cases e2
  | _ :: _ :: _ :: _ :: _, e2 => cases e2
end

/-! ### a def by its body -/
def runF (b : Sf) (n m : Nat) : Fm := fun ds => if ds.length = n then (b (ds ++ List.replicate m .non)).bind fun o => match o with
    | .rt d ρ' => some (d, ρ'.take n)
    | .nx ρ' => some (.non, ρ'.take n)
    | _ => none
  else none
theorem Sl.cut {K : PySem.W.Frag} {mg : Str → Option Value} {H G : Hp} : ∀ {τ1 : List Ty} {m : Nat} {ρ : Rho} {σ : L2.St} {f : List Addr}, Sl K mg H G (τ1 ++ List.replicate m .no) ρ σ f → Sl K mg H G τ1 (ρ.take τ1.length) (σ.take τ1.length) f
  | [], 0, _, _, _, s => by cases s; exact .nil
  | [], m + 1, _, _, _, s => by
    rw [List.nil_append, List.replicate_succ] at s
    cases s with
    | no s =>
      have := Sl.cut (τ1 := []) (m := m) s
      simpa using this
    | cons h s => cases h
  | t :: τ1, m, _, _, _, s => by
    cases s with
    | no s => exact .no (Sl.cut s)
    | cons h s => exact .cons h (Sl.cut s)
theorem Sl.pad {K : PySem.W.Frag} {mg : Str → Option Value} {H G : Hp} : ∀ {τ1 : List Ty} {m : Nat} {ρ : Rho} {σ : L2.St} {f : List Addr}, Sl K mg H G τ1 ρ σ f → Sl K mg H G (τ1 ++ List.replicate m .no) (ρ ++ List.replicate m .non) (σ ++ List.replicate m none) f
  | _, 0, _, _, _, s => by simpa using s
  | _, m + 1, _, _, _, .nil => by
    have := Sl.pad (m := m) (.nil (K := K) (mg := mg) (H := H) (G := G))
    simp only [List.nil_append, List.replicate_succ] at this ⊢
    exact .no this
  | _, m + 1, _, _, _, .no s => .no (Sl.pad s)
  | _, m + 1, _, _, _, .cons h s => .cons h (Sl.pad s)
section
variable {P : Program} {w : World} {K : PySem.W.Frag} {mg : Str → Option Value} {base : Heap} {x qual : Str} {st : Stmt} {f : Addr} {fd : FuncData} {N ps : List Str} {k : Nat}
theorem Kp.tk {io : List Nat} {σ σ' : L2.St} (h : Kp io σ σ') {i : Nat} (hi : i ∈ io) : σ'[i]? = σ[i]? := h i hi
/-- the slots of a def's changed parameters -/
def ioOf (l : List Ty) : List Nat := (List.range l.length).filter fun i => match l[i]? with
  | some .sh => false
  | some .no => false
  | _ => true
theorem fn_ok {b : Sf} {τ' : List Ty} (Fu : Fun K x qual st f fd) (S : FnScope N ps (defScope st)) (sg : Sg) (γ : Gm) (m : Nat) (hn : sg.ps.length = ps.length := by rfl) (hm : sg.ps.length + m = N.length := by rfl)
    (hio : γ.io = ioOf (sg.ps.map Ty.io) := by rfl) (hret : γ.ret = sg.ret := by rfl) (hrty : γ.rty = sg.ps.map Ty.io ++ List.replicate m .no := by rfl) (hnx : leTb γ.rty τ' = true := by rfl) (hfall : sg.ret = .sh ∨ ∀ ρ ρ', b ρ ≠ some (.nx ρ'))
    (hbody : ∀ (cdv : Value) (A : Around) (outer : List PySem.Env) (s : Shared) (H : Hp) (E : XK), Room k (A.deeper (envOfC qual (defScope st) s.heap.objs.size f cdv)) →
      DSs (cxOf CX0 P w K mg base N qual (defScope st) f cdv A outer s H E).nox γ (defBody st) (sg.ps ++ List.replicate m .no) b τ') :
    FnD P w K mg base (k + 1) f fd ps sg (runF b sg.ps.length m) := by
  refine Fu.ok S (fun vs H Q E ⟨R, ds, fs, d, ds', s, _⟩ => ?_) (fun cdv A outer s H vs Q E hr ⟨R, ds, fs, d, ds', sr, eF, q⟩ => ?_)
  · have := s.sl.len
    simp at this
    omega
  · unfold runF at eF
    have hvl : vs.length = sg.ps.length := by
      have := sr.sl.len
      simp at this
      omega
    by_cases hl : ds.length = sg.ps.length
    · rw [if_pos hl] at eF
      obtain ⟨out, e1, e2⟩ := bindO eF
      refine ⟨_, hbody cdv A outer s H E hr, R, ds ++ List.replicate m .non, fs, out, ⟨?_, sr.nd, sr.al⟩, e1, ?_⟩
      · have := sr.sl.pad (m := m)
        unfold L2.start
        rw [show N.length - vs.length = m by omega]
        exact this
      · have st0 : L2.start N vs = vs.map some ++ List.replicate m none := by
          unfold L2.start
          rw [show N.length - vs.length = m by omega]
        have fin : ∀ {v : V} {σ' : L2.St} {H' : Hp} {fs' fv : List Addr} {ρ' : Rho} {dd : D}, Step H H' fs (fv ++ fs') → Kp γ.io (L2.start N vs) σ' → SR K mg (fv ++ R) γ.rty ρ' σ' H' fs' → Rp K mg H' (hide (fv ++ R ++ fs') H') sg.ret dd v fv → dd = d → ρ'.take sg.ps.length = ds' → Q v H' := fun {v σ' H' fs' fv ρ' dd} t kp s' r e3 e4 => by
          subst e3
          refine q v H' fs' fv t ⟨?_, s'.nd, s'.al⟩ r
          have sl := s'.sl
          rw [hrty] at sl
          have sc := Sl.cut sl
          rw [List.length_map, e4] at sc
          have hl' := s'.sl.len
          rw [hrty] at hl'
          simp at hl'
          refine sc.congr rfl (by simp; omega) fun i t et nt => ⟨rfl, ?_⟩
          have hi : i < sg.ps.length := by
            have := (List.getElem?_eq_some_iff.mp et).1
            simpa using this
          have hmem : i ∈ γ.io := by
            rw [hio]
            unfold ioOf
            refine List.mem_filter.mpr ⟨by simpa using hi, ?_⟩
            rw [et]
            have : t ≠ .sh := by
              rw [List.getElem?_map] at et
              cases h : sg.ps[i]? with
              | none => rw [h] at et; cases et
              | some u =>
                rw [h] at et
                simp at et
                subst et
                cases u <;> simp [Ty.io]
            cases t <;> simp_all
          rw [List.getElem?_take_of_lt hi, kp i hmem, st0, List.getElem?_append_left (by simpa [hvl] using hi)]
        cases out with
        | rt dd ρ' =>
          have e2' := Option.some.inj e2
          exact fun v σ' H' fs' fv t kp s' r => fin t kp s' (by rw [hret] at r; exact r) (congrArg Prod.fst e2') (congrArg Prod.snd e2')
        | nx ρ' =>
          have e2' := Option.some.inj e2
          rcases hfall with hf | hf
          · exact fun σ' H' fs' t kp s' => by
              obtain ⟨fs2, s2, sub⟩ := s'.leT (leTb_ok hnx)
              exact fin (fv := []) (t.less sub) kp s2 (by rw [hf]; exact .sh .non) (congrArg Prod.fst e2') (congrArg Prod.snd e2')
          · exact absurd e1 (hf _ _)
        | bk ρ' => cases e2
        | ct ρ' => cases e2
    · rw [if_neg hl] at eF; cases eF
/-- a mirror in the place of the run -/
theorem FnD.of {sg : Sg} {F G : Fm} (h : FnD P w K mg base k f fd ps sg F) (le : ∀ ds r, G ds = some r → F ds = some r) : FnD P w K mg base k f fd ps sg G := h.imp fun vs H Q E ⟨R, ds, fs, d, ds', s, e, q⟩ => ⟨R, ds, fs, d, ds', s, le _ _ e, q⟩
theorem FnD.ofN {sg : Sg} {F : Nat → Fm} {G : Fm} (h : ∀ n, FnD P w K mg base k f fd ps sg (F n)) (le : ∀ ds r, G ds = some r → ∃ n, F n ds = some r) : FnD P w K mg base k f fd ps sg G where
  len := fun vs H Q E ⟨R, ds, fs, d, ds', s, e, q⟩ => by
    obtain ⟨n, e⟩ := le _ _ e
    exact (h n).len vs H Q E ⟨R, ds, fs, d, ds', s, e, q⟩
  run := fun A outer s H args us vs Q E hr e0 hb r ⟨R, ds, fs, d, ds', sr, e, q⟩ => by
    obtain ⟨n, e⟩ := le _ _ e
    exact (h n).run A outer s H args us vs Q E hr e0 hb r ⟨R, ds, fs, d, ds', sr, e, q⟩
end
end TL

namespace TL
open PySem PySem.Spec PyProof.Rows L2

/-! ### == on trees -/
mutual
def py : D → PyData
  | .non => .none
  | .bl b => .bool b
  | .int i => .int i
  | .str s => .str s
  | .tup l => .tuple (pys l)
  | .lst l => .list (pys l)
  | _ => .none
def pys : List D → List PyData
  | [] => []
  | d :: r => py d :: pys r
end
mutual
/-- Python's == -/
def dq : D → D → Bool
  | .non, .non => true
  | .bl a, .bl b => a == b
  | .bl a, .int j => (if a then 1 else 0) == j
  | .int i, .bl b => i == (if b then 1 else 0)
  | .int i, .int j => i == j
  | .str x, .str y => x == y
  | .lst xs, .lst ys => dqs xs ys
  | .tup xs, .tup ys => dqs xs ys
  | _, _ => false
def dqs : List D → List D → Bool
  | [], [] => true
  | x :: xs, y :: ys => dq x y && dqs xs ys
  | _, _ => false
end
def sOk (s : Str) : Bool := PyData.strOk s
def pyOk : Nat → D → Bool
  | _, .non => true
  | _, .bl _ => true
  | _, .int _ => true
  | _, .str s => sOk s
  | n + 1, .tup l => l.all (pyOk n)
  | n + 1, .lst l => l.all (pyOk n)
  | _, _ => false
theorem pyOk_ok : ∀ (n : Nat) (d : D), pyOk n d = true → (py d).canLay0 = true ∧ (py d).depth ≤ n
  | n, .non, _ => by simp [py, PyData.canLay0, PyData.depth]
  | n, .bl b, _ => by simp [py, PyData.canLay0, PyData.depth]
  | n, .int i, _ => by simp [py, PyData.canLay0, PyData.depth]
  | n, .str s, h => by
    refine ⟨?_, by simp [py, PyData.depth]⟩
    have : sOk s = true := by cases n <;> simpa [pyOk] using h
    simpa [py, PyData.canLay0, sOk] using this
  | n + 1, .tup l, h => by
    have hs : ∀ (l : List D), l.all (pyOk n) = true → PyData.canLayAll0 (pys l) = true ∧ PyData.depthAll (pys l) ≤ n := by
      intro l
      induction l with
      | nil => intro _; simp [pys, PyData.canLayAll0, PyData.depthAll]
      | cons d r ih =>
        intro h
        simp only [List.all_cons, Bool.and_eq_true] at h
        have h1 := pyOk_ok n d h.1
        have h2 := ih h.2
        simp only [pys, PyData.canLayAll0, PyData.depthAll, h1.1, h2.1, Bool.and_self, true_and]
        omega
    have := hs l (by simpa [pyOk] using h)
    simp only [py, PyData.canLay0, PyData.depth, this.1, true_and]
    omega
  | n + 1, .lst l, h => by
    have hs : ∀ (l : List D), l.all (pyOk n) = true → PyData.canLayAll0 (pys l) = true ∧ PyData.depthAll (pys l) ≤ n := by
      intro l
      induction l with
      | nil => intro _; simp [pys, PyData.canLayAll0, PyData.depthAll]
      | cons d r ih =>
        intro h
        simp only [List.all_cons, Bool.and_eq_true] at h
        have h1 := pyOk_ok n d h.1
        have h2 := ih h.2
        simp only [pys, PyData.canLayAll0, PyData.depthAll, h1.1, h2.1, Bool.and_self, true_and]
        omega
    have := hs l (by simpa [pyOk] using h)
    simp only [py, PyData.canLay0, PyData.depth, this.1, true_and]
    omega
  | 0, .tup l, h => by simp [pyOk] at h
  | 0, .lst l, h => by simp [pyOk] at h
  | 0, .dct l, h => by simp [pyOk] at h
  | n + 1, .dct l, h => by simp [pyOk] at h
  | 0, .set l, h => by simp [pyOk] at h
  | n + 1, .set l, h => by simp [pyOk] at h
  | 0, .obj c l, h => by simp [pyOk] at h
  | n + 1, .obj c l, h => by simp [pyOk] at h
  | 0, .scr l, h => by simp [pyOk] at h
  | n + 1, .scr l, h => by simp [pyOk] at h
/-- no dicts, sets, objects within -/
def plainD : Nat → D → Bool := pyOk
theorem eqv_dq : ∀ (n : Nat) (a b : D), pyOk n a = true → pyOk n b = true → PyData.eqv (py a) (py b) = dq a b := by
  have hl : ∀ (n : Nat), (∀ a b : D, pyOk n a = true → pyOk n b = true → PyData.eqv (py a) (py b) = dq a b) → ∀ l m : List D, l.all (pyOk n) = true → m.all (pyOk n) = true → PyData.eqvAll (pys l) (pys m) = dqs l m := by
    intro n ih l
    induction l with
    | nil => intro m _ _; cases m <;> simp [pys, PyData.eqvAll, dqs]
    | cons a l ihl =>
      intro m h1 h2
      cases m with
      | nil => simp [pys, PyData.eqvAll, dqs]
      | cons b m =>
        simp only [List.all_cons, Bool.and_eq_true] at h1 h2
        simp only [pys, PyData.eqvAll, dqs, ih a b h1.1 h2.1, ihl m h1.2 h2.2]
  intro n
  induction n with
  | zero =>
    intro a b ha hb
    cases a <;> cases b <;> first | (simp [pyOk] at ha; done) | (simp [pyOk] at hb; done) | simp [py, PyData.eqv, dq]
  | succ n ih =>
    intro a b ha hb
    cases a <;> cases b <;> first | (simp [pyOk] at ha; done) | (simp [pyOk] at hb; done) | (simp only [py, PyData.eqv, dq]; try rfl) | skip
    all_goals first | rfl | (exact hl n ih _ _ (by simpa [pyOk] using ha) (by simpa [pyOk] using hb)) | skip
def dEq (a b : D) : Option D := if pyOk 40 a && pyOk 40 b then some (.bl (dq a b)) else none
def dNe (a b : D) : Option D := if pyOk 40 a && pyOk 40 b then some (.bl (!dq a b)) else none
section
variable {K : PySem.W.Frag} {mg : Str → Option Value} {S : List Addr} {H G : Hp}
theorem dp_of (le : Le G H) : ∀ (n : Nat) {d : D} {v : V}, pyOk n d = true → Rf K mg G d v → Dp K H v (py d) := by
  have hl : ∀ n, (∀ {d : D} {v : V}, pyOk n d = true → Rf K mg G d v → Dp K H v (py d)) → ∀ {l : List D} {vs : List V}, l.all (pyOk n) = true → Rfs K mg G l vs → DpAll K H vs (pys l) := by
    intro n ih l
    induction l with
    | nil => intro vs _ r; cases r; exact .nil
    | cons a l ihl =>
      intro vs h r
      simp only [List.all_cons, Bool.and_eq_true] at h
      cases r with
      | cons r rs => exact .cons (ih h.1 r) (ihl h.2 rs)
  intro n
  induction n with
  | zero =>
    intro d v h r
    cases r with
    | non => exact .non
    | bl b => exact .bl b
    | int i => exact .int i
    | str s => exact .str s
    | _ => simp [pyOk] at h
  | succ n ih =>
    intro d v h r
    cases r with
    | non => exact .non
    | bl b => exact .bl b
    | int i => exact .int i
    | str s => exact .str s
    | tup hT r => exact .tup (le.seqT hT) (hl n ih (by simpa [pyOk] using h) r)
    | lst hL r => exact .lst (.of (le _ _ hL)) (hl n ih (by simpa [pyOk] using h) r)
    | _ => simp [pyOk] at h
theorem Rv.dp {n : Nat} {d : D} {v : V} (r : Rv K mg S H d v) (h : pyOk n d = true) : Dp K H v (py d) := by
  have w := r.whole
  have eq : hide [] H = H := by funext a; simp [hide]
  rw [eq] at w
  exact dp_of (Le.refl H) n h w
theorem shaped_of {d : D} (h : pyOk 40 d = true) : SeqAt.shaped (py d) = true := by
  have := pyOk_ok 40 d h
  unfold SeqAt.shaped
  rw [this.1, Bool.true_and]
  exact decide_eq_true (by omega)
end
theorem Room.u64 {k : Nat} {A : Around} (r : Room k A) : A.units + 65 < cLine := by
  have := r.un
  omega
section
variable {X : Cx}
theorem od_eq : OpD X (rEqD X.K) dEq := fun S H d1 d2 d v1 v2 Q al r1 r2 e q => by
  obtain ⟨h, e⟩ := ifSome' e
  subst e
  rw [Bool.and_eq_true] at h
  exact ⟨_, _, r1.dp h.1, r2.dp h.2, shaped_of h.1, shaped_of h.2, by rw [eqv_dq 40 _ _ h.1 h.2]; exact q _ H (Grow.refl H) (.bl _)⟩
theorem od_ne : OpD X (rNeD X.K) dNe := fun S H d1 d2 d v1 v2 Q al r1 r2 e q => by
  obtain ⟨h, e⟩ := ifSome' e
  subst e
  rw [Bool.and_eq_true] at h
  exact ⟨_, _, r1.dp h.1, r2.dp h.2, shaped_of h.1, shaped_of h.2, by rw [eqv_dq 40 _ _ h.1 h.2]; exact q _ H (Grow.refl H) (.bl _)⟩

/-! ### arithmetic -/
def ii (C : Int → Int → Bool) (g : Int → Int → D) : D → D → Option D
  | .int i, .int j => if C i j then some (g i j) else none
  | _, _ => none
theorem od_ii {C : Int → Int → Bool} {P : Int → Int → Prop} {g : Int → Int → D} {gv : Int → Int → V} (hC : ∀ i j, C i j = true → P i j) (hg : ∀ i j K mg G, Rf K mg G (g i j) (gv i j)) : OpD X (rI P gv) (ii C g) := fun S H d1 d2 d v1 v2 Q al r1 r2 e q => by
  cases d1 <;> cases d2 <;> first | (cases e; done) | skip
  obtain ⟨h, e⟩ := ifSome' e
  subst e
  exact ⟨_, _, r1.int_inv, r2.int_inv, hC _ _ h, q _ H (Grow.refl H) (hg _ _ _ _ _)⟩
def ii0 (g : Int → Int → D) : D → D → Option D
  | .int i, .int j => some (g i j)
  | _, _ => none
theorem od_ii0 {g : Int → Int → D} {gv : Int → Int → V} (hg : ∀ i j K mg G, Rf K mg G (g i j) (gv i j)) : OpD X (rI0 gv) (ii0 g) := fun S H d1 d2 d v1 v2 Q al r1 r2 e q => by
  cases d1 <;> cases d2 <;> first | (cases e; done) | skip
  cases e
  exact ⟨_, _, r1.int_inv, r2.int_inv, q _ H (Grow.refl H) (hg _ _ _ _ _)⟩
def sm (i : Int) : Bool := Nat.ble i.natAbs 999999999999999999999999999999
theorem sm_lt {i : Int} (h : sm i = true) : i.natAbs < 2 ^ 100 := by
  have h1 : i.natAbs ≤ 999999999999999999999999999999 := Nat.le_of_ble_eq_true h
  have : (2 : Nat) ^ 100 = 1267650600228229401496703205376 := by decide
  rw [this]
  omega
def dSub := ii0 fun i j => .int (i - j)
def dMulI := ii (fun i j => sm i && sm j) fun i j => .int (i * j)
def dDiv := ii (fun _ j => decide (0 < j) && sm j) fun i j => .int (i / j)
def dMod := ii (fun _ j => decide (0 < j)) fun i j => .int (i % j)
def dPow := ii (fun i j => sm i && decide (0 ≤ j) && decide (j ≤ 1000) && decide (i.natAbs < 18446744073709551616)) fun i j => .int (i ^ j.toNat)
def dLt := ii0 fun i j => .bl (decide (i < j))
def dLe := ii0 fun i j => .bl (decide (i ≤ j))
def dGt := ii0 fun i j => .bl (decide (j < i))
def dGe := ii0 fun i j => .bl (decide (j ≤ i))
theorem od_sub : OpD X (rI0 fun i j => .int (i - j)) dSub := od_ii0 fun i j _ _ _ => .int _
theorem od_lt : OpD X (rI0 fun i j => .bl (decide (i < j))) dLt := od_ii0 fun i j _ _ _ => .bl _
theorem od_le : OpD X (rI0 fun i j => .bl (decide (i ≤ j))) dLe := od_ii0 fun i j _ _ _ => .bl _
theorem od_gt : OpD X (rI0 fun i j => .bl (decide (j < i))) dGt := od_ii0 fun i j _ _ _ => .bl _
theorem od_ge : OpD X (rI0 fun i j => .bl (decide (j ≤ i))) dGe := od_ii0 fun i j _ _ _ => .bl _
theorem od_mulI : OpD X (rI CMulW fun i j => .int (i * j)) dMulI := od_ii (fun i j h => by
  rw [Bool.and_eq_true] at h
  exact wide_mul (sm_lt h.1) (sm_lt h.2) (by decide) (by decide) (by decide)) fun i j _ _ _ => .int _
theorem od_div : OpD X (rI CDivW fun i j => .int (i / j)) dDiv := od_ii (fun i j h => by
  rw [Bool.and_eq_true] at h
  exact wide_div (of_decide_eq_true h.1) (sm_lt h.2) (by decide) (by decide)) fun i j _ _ _ => .int _
theorem od_mod : OpD X (rI (fun _ j => 0 < j) fun i j => .int (i % j)) dMod := od_ii (fun i j h => of_decide_eq_true h) fun i j _ _ _ => .int _
theorem od_pow : OpD X (rI CPow fun i j => .int (i ^ j.toNat)) dPow := od_ii (fun i j h => by
  simp only [Bool.and_eq_true, decide_eq_true_eq] at h
  exact ⟨h.1.1.2, by omega, h.2⟩) fun i j _ _ _ => .int _
/-! + -/
def dAdd : D → D → Option D
  | .int i, .int j => some (.int (i + j))
  | .str s, .str t => if okLen (s.length + t.length) then some (.str (s ++ t)) else none
  | .tup l, .tup m => if okLen (l.length + m.length) then some (.tup (l ++ m)) else none
  | .lst l, .lst m => if okLen (l.length + m.length) then some (.lst (l ++ m)) else none
  | _, _ => none
theorem al_not {S : List Addr} {H : Hp} {p : Addr} (al : ∀ a ∈ S, ∃ o, H a = some o ∧ Own o) (hp : H p = none) : p ∉ S := fun z => by
  obtain ⟨o, e, _⟩ := al p z
  rw [hp] at e; cases e
theorem new_tup {K : PySem.W.Frag} {mg : Str → Option Value} {S : List Addr} {H : Hp} {p : Addr} {vs : List V} {ds : List D} (al : ∀ a ∈ S, ∃ o, H a = some o ∧ Own o) (hp : H p = none) (r : Rfs K mg (hide S H) ds vs) : Rf K mg (hide S (upd H p (.tup vs))) (.tup ds) (.ref p) :=
  .tup (.of (hide_some.mpr ⟨al_not al hp, upd_same⟩)) (r.mono (hide_grow _ (Grow.upd hp)))
theorem new_lst {K : PySem.W.Frag} {mg : Str → Option Value} {S : List Addr} {H : Hp} {p : Addr} {vs : List V} {ds : List D} (al : ∀ a ∈ S, ∃ o, H a = some o ∧ Own o) (hp : H p = none) (r : Rfs K mg (hide S H) ds vs) : Rf K mg (hide S (upd H p (.lst vs))) (.lst ds) (.ref p) :=
  .lst (hide_some.mpr ⟨al_not al hp, upd_same⟩) (r.mono (hide_grow _ (Grow.upd hp)))
abbrev rAddD (K : PySem.W.Frag) : R2 := fun x y H Q => (∃ i j, x = .int i ∧ y = .int j ∧ Q (.int (i + j)) H) ∨ (∃ i j, x = .str i ∧ y = .str j ∧ i.length + j.length ≤ sizeLine ∧ Q (.str (i ++ j)) H) ∨ rCatA K x y H Q ∨ rCat x y H Q
theorem op_addD : OpR X (binaryOp .Add) (rAddD X.K) := OpR.or op_add (OpR.or op_add_str (OpR.or op_catA op_cat))
theorem od_add : OpD X (rAddD X.K) dAdd := fun S H d1 d2 d v1 v2 Q al r1 r2 e q => by
  cases d1 <;> cases d2 <;> first | (cases e; done) | skip
  · cases e
    exact .inl ⟨_, _, r1.int_inv, r2.int_inv, q _ H (Grow.refl H) (.int _)⟩
  · obtain ⟨h, e⟩ := ifSome' e
    subst e
    exact .inr (.inl ⟨_, _, r1.str_inv, r2.str_inv, okLen_le h, q _ H (Grow.refl H) (.str _)⟩)
  · obtain ⟨h, e⟩ := ifSome' e
    subst e
    obtain ⟨a, vs, rfl, h1, h1', q1⟩ := r1.tup_inv
    obtain ⟨b, ws, rfl, h2, h2', q2⟩ := r2.tup_inv
    refine .inr (.inr (.inl ⟨a, b, vs, ws, rfl, rfl, h1, h2, by rw [← q1.length, ← q2.length]; exact okLen_le h, fun z => ?_, fun z1 z2 => ?_, fun z1 z2 p hp => ?_⟩))
    · subst z
      cases q1
      exact q _ H (Grow.refl H) (.tup h2' q2)
    · subst z2
      cases q2
      rw [List.append_nil] at q
      exact q _ H (Grow.refl H) (.tup h1' q1)
    · exact q _ _ (Grow.upd hp) (new_tup al hp (q1.append q2))
  · obtain ⟨h, e⟩ := ifSome' e
    subst e
    obtain ⟨a, vs, rfl, h1, q1⟩ := r1.lst_inv
    obtain ⟨b, ws, rfl, h2, q2⟩ := r2.lst_inv
    exact .inr (.inr (.inr ⟨a, b, vs, ws, rfl, rfl, h1, h2, by rw [← q1.length, ← q2.length]; exact okLen_le h, fun p hp => q _ _ (Grow.upd hp) (new_lst al hp (q1.append q2))⟩))
def dAddL : D → D → Option (List D)
  | .lst l, .lst m => if okLen (l.length + m.length) then some (l ++ m) else none
  | _, _ => none
theorem oo_add : OpO X rCat dAddL := fun S H d1 d2 d v1 v2 Q al r1 r2 e q => by
  cases d1 <;> cases d2 <;> first | (cases e; done) | skip
  obtain ⟨h, e⟩ := ifSome' e
  subst e
  obtain ⟨a, vs, rfl, h1, q1⟩ := r1.lst_inv
  obtain ⟨b, ws, rfl, h2, q2⟩ := r2.lst_inv
  exact ⟨a, b, vs, ws, rfl, rfl, h1, h2, by rw [← q1.length, ← q2.length]; exact okLen_le h, fun p hp => q p _ hp (q1.append q2)⟩
/-! * -/
def repL (l : List D) (k : Nat) : List D := (List.replicate k l).flatten
def dMul : D → D → Option D
  | .int i, .int j => if sm i && sm j then some (.int (i * j)) else none
  | .lst l, .int k => if small62 k && okLen (l.length * k.toNat) then some (.lst (repL l k.toNat)) else none
  | .tup l, .int k => if !l.isEmpty && decide (2 ≤ k) && decide (k ≤ 1000) && decide (l.length ≤ 1000) then some (.tup (repL l k.toNat)) else none
  | _, _ => none
abbrev rMulD (K : PySem.W.Frag) : R2 := fun x y H Q => (rI CMulW fun i j => .int (i * j)) x y H Q ∨ rRep x y H Q ∨ rRepT K x y H Q
theorem op_mulD : OpR X (binaryOp .Mult) (rMulD X.K) := OpR.or op_mulW (OpR.or op_rep op_repT)
theorem od_mul : OpD X (rMulD X.K) dMul := fun S H d1 d2 d v1 v2 Q al r1 r2 e q => by
  cases d1 <;> cases d2 <;> first | (cases e; done) | skip
  · exact .inl (od_mulI S H _ _ _ _ _ Q al r1 r2 e q)
  · obtain ⟨h, e⟩ := ifSome' e
    subst e
    simp only [Bool.and_eq_true, decide_eq_true_eq, Bool.not_eq_true'] at h
    obtain ⟨a, vs, rfl, h1, h1', q1⟩ := r1.tup_inv
    refine .inr (.inr ⟨a, _, vs, rfl, r2.int_inv, h1, fun z => ?_, h.1.1.2, h.1.2, by rw [← q1.length]; exact h.2, fun p hp => q _ _ (Grow.upd hp) (new_tup al hp (q1.rep _))⟩)
    subst z
    cases q1
    simp at h
  · obtain ⟨h, e⟩ := ifSome' e
    subst e
    rw [Bool.and_eq_true] at h
    obtain ⟨a, vs, rfl, h1, q1⟩ := r1.lst_inv
    have h3 := small62_of h.1
    exact .inr (.inl ⟨a, _, vs, rfl, r2.int_inv, h1, by omega, by omega, by rw [← q1.length]; exact okLen_le h.2, fun p hp => q _ _ (Grow.upd hp) (new_lst al hp (q1.rep _))⟩)
def dMulL : D → D → Option (List D)
  | .lst l, .int k => if small62 k && okLen (l.length * k.toNat) then some (repL l k.toNat) else none
  | _, _ => none
theorem oo_mul : OpO X rRep dMulL := fun S H d1 d2 d v1 v2 Q al r1 r2 e q => by
  cases d1 <;> cases d2 <;> first | (cases e; done) | skip
  obtain ⟨h, e⟩ := ifSome' e
  subst e
  rw [Bool.and_eq_true] at h
  obtain ⟨a, vs, rfl, h1, q1⟩ := r1.lst_inv
  have h3 := small62_of h.1
  exact ⟨a, _, vs, rfl, r2.int_inv, h1, by omega, by omega, by rw [← q1.length]; exact okLen_le h.2, fun p hp => q p _ hp (q1.rep _)⟩
/-! unary minus -/
def dNeg : D → Option D
  | .int i => some (.int (-i))
  | _ => none
theorem ud_neg : UnD X (rU fun i => .int (-i)) dNeg := fun S H d1 d v1 Q al r1 e q => by
  cases d1 <;> first | (cases e; done) | skip
  cases e
  exact ⟨_, r1.int_inv, q _ H (Grow.refl H) (.int _)⟩
/-! is None, is True -/
def isNonD : D → Bool
  | .non => true
  | _ => false
def dIs : D → D → Option D
  | a, .non => some (.bl (isNonD a))
  | .bl a, .bl b => some (.bl (decide (a = b)))
  | _, _ => none
def dIsNot : D → D → Option D
  | a, .non => some (.bl (!isNonD a))
  | .bl a, .bl b => some (.bl (!decide (a = b)))
  | _, _ => none
abbrev rIsD : R2 := fun x y H Q => (y = .non ∧ Q (.bl (decide (x = .non))) H) ∨ rIsB x y H Q
abbrev rIsNotD : R2 := fun x y H Q => (y = .non ∧ Q (.bl (!decide (x = .non))) H) ∨ rNotB x y H Q
theorem op_isD : OpR X (compareOp .Is) rIsD := OpR.or op_isN op_isBl
theorem op_isNotD : OpR X (compareOp .IsNot) rIsNotD := OpR.or op_notN op_notBl
theorem Rv.isNon {K : PySem.W.Frag} {mg : Str → Option Value} {S : List Addr} {H : Hp} {d : D} {v : V} (r : Rv K mg S H d v) : decide (v = .non) = isNonD d := by
  cases r with
  | rf r => cases r <;> rfl
  | lst _ _ => rfl
  | dK _ _ _ => rfl
  | dT _ _ _ => rfl
theorem od_is : OpD X rIsD dIs := fun S H d1 d2 d v1 v2 Q al r1 r2 e q => by
  cases d2 with
  | non => 
    have e' : some (D.bl (isNonD d1)) = some d := by
      cases d1 <;> exact e
    cases e'
    exact .inl ⟨r2.non_inv, by rw [r1.isNon]; exact q _ H (Grow.refl H) (.bl _)⟩
  | bl b =>
    cases d1 <;> first | (cases e; done) | skip
    cases e
    exact .inr ⟨_, _, r1.bl_inv, r2.bl_inv, q _ H (Grow.refl H) (.bl _)⟩
  | _ => cases d1 <;> cases e
theorem od_isNot : OpD X rIsNotD dIsNot := fun S H d1 d2 d v1 v2 Q al r1 r2 e q => by
  cases d2 with
  | non => 
    have e' : some (D.bl (!isNonD d1)) = some d := by
      cases d1 <;> exact e
    cases e'
    exact .inl ⟨r2.non_inv, by rw [r1.isNon]; exact q _ H (Grow.refl H) (.bl _)⟩
  | bl b =>
    cases d1 <;> first | (cases e; done) | skip
    cases e
    exact .inr ⟨_, _, r1.bl_inv, r2.bl_inv, q _ H (Grow.refl H) (.bl _)⟩
  | _ => cases d1 <;> cases e
/-! subscripts -/
theorem ifSomeO {α : Type} {c : Bool} {x : Option α} {r : α} (e : (if c then x else none) = some r) : c = true ∧ x = some r := by
  cases c with
  | true => exact ⟨rfl, by simpa using e⟩
  | false => cases e
def atD (l : List D) (i : Int) : Option D := atI l i
theorem Rfs.atI {K : PySem.W.Frag} {mg : Str → Option Value} {G : Hp} {ds : List D} {vs : List V} {i : Int} {d : D} (r : Rfs K mg G ds vs) (e : L2.atI ds i = some d) : ∃ v, L2.atI vs i = some v ∧ Rf K mg G d v := by
  unfold L2.atI at e ⊢
  rw [← r.length]
  obtain ⟨j, e1, e2⟩ := bindO e
  rw [e1]
  exact r.get e2
def dIx : D → D → Option D
  | .lst l, .int i => atI l i
  | .tup l, .int i => atI l i
  | .str z, .int i => if okLen z.length then (atI z.cps.toList i).map fun c => .str ⟨#[c]⟩ else none
  | _, _ => none
theorem od_ix : OpD X (rIx X.K) dIx := fun S H d1 d2 d v1 v2 Q al r1 r2 e q => by
  cases d1 <;> cases d2 <;> first | (cases e; done) | skip
  · rename_i z i
    obtain ⟨h, e⟩ := ifSomeO (show (if okLen z.length then (atI z.cps.toList i).map fun c => D.str ⟨#[c]⟩ else none) = some d from e)
    cases hc : atI z.cps.toList i with
    | none => rw [hc] at e; cases e
    | some c =>
      rw [hc] at e
      cases e
      exact .inr (.inr ⟨z, i, c, r1.str_inv, r2.int_inv, okLen_le h, hc, q _ H (Grow.refl H) (.str _)⟩)
  · obtain ⟨a, vs, rfl, h1, h1', q1⟩ := r1.tup_inv
    obtain ⟨v, ev, rv⟩ := q1.atI (show L2.atI _ _ = some d from e)
    exact .inr (.inl ⟨a, vs, _, v, rfl, r2.int_inv, h1, ev, q v H (Grow.refl H) rv⟩)
  · obtain ⟨a, vs, rfl, h1, q1⟩ := r1.lst_inv
    obtain ⟨v, ev, rv⟩ := q1.atI (show L2.atI _ _ = some d from e)
    exact .inl ⟨a, vs, _, v, rfl, r2.int_inv, .of h1, ev, q v H (Grow.refl H) rv⟩
/-! slices -/
def cutD (l : List D) (lo hi : Option Int) : List D := (l.drop (HT.sIx l.length 0 lo)).take (HT.sIx l.length l.length hi - HT.sIx l.length 0 lo)
theorem Rfs.cut {K : PySem.W.Frag} {mg : Str → Option Value} {G : Hp} {ds : List D} {vs : List V} (r : Rfs K mg G ds vs) (lo hi : Option Int) : Rfs K mg G (cutD ds lo hi) (cutV vs lo hi) := by
  unfold cutD cutV
  rw [← r.length]
  exact (r.drop _).take _
def dSl : D → Option Int → Option Int → Option D
  | .tup l, lo, hi => some (.tup (cutD l lo hi))
  | .lst l, lo, hi => some (.lst (cutD l lo hi))
  | _, _, _ => none
abbrev rSlD (K : PySem.W.Frag) : V → Option Int → Option Int → Hp → VK → Prop := fun x lo hi H Q => rSlA K x lo hi H Q ∨ rSlL K x lo hi H Q
theorem sl_D : SlR X (rSlD X.K) := SlR.or sl_tupA sl_list
theorem sd_sl : SlD X (rSlD X.K) dSl := fun S H d1 d lo hi v1 Q al r1 e q => by
  cases d1 <;> first | (cases e; done) | skip
  · cases e
    obtain ⟨a, vs, rfl, h1, h1', q1⟩ := r1.tup_inv
    refine .inl ⟨a, vs, rfl, h1, fun z => ?_, fun z p hp => q _ _ (Grow.upd hp) (new_tup al hp (q1.cut lo hi))⟩
    have ec : ∀ {ds : List D}, ds.length = vs.length → cutD ds lo hi = ds := fun {ds} hl => by
      unfold cutD
      rw [hl, z.1, z.2]
      simp [← hl]
    rw [ec q1.length] at q
    exact q _ H (Grow.refl H) (.tup h1' q1)
  · cases e
    obtain ⟨a, vs, rfl, h1, q1⟩ := r1.lst_inv
    exact .inr ⟨a, vs, rfl, .of h1, fun p hp => q _ _ (Grow.upd hp) (new_lst al hp (q1.cut lo hi))⟩
def dSlL : D → Option Int → Option Int → Option (List D)
  | .lst l, lo, hi => some (cutD l lo hi)
  | _, _, _ => none
theorem so_sl : SlO X (rSlL X.K) dSlL := fun S H d1 d lo hi v1 Q al r1 e q => by
  cases d1 <;> first | (cases e; done) | skip
  cases e
  obtain ⟨a, vs, rfl, h1, q1⟩ := r1.lst_inv
  exact ⟨a, vs, rfl, .of h1, fun p hp => q p _ hp (q1.cut lo hi)⟩
/-! ### built-ins -/
theorem Rvs.one {K : PySem.W.Frag} {mg : Str → Option Value} {S : List Addr} {H : Hp} {d : D} {vs : List V} (r : Rvs K mg S H [d] vs) : ∃ v, vs = [v] ∧ Rv K mg S H d v := by
  cases r with
  | cons r rs => cases rs; exact ⟨_, rfl, r⟩
theorem Rvs.two {K : PySem.W.Frag} {mg : Str → Option Value} {S : List Addr} {H : Hp} {d e : D} {vs : List V} (r : Rvs K mg S H [d, e] vs) : ∃ v w, vs = [v, w] ∧ Rv K mg S H d v ∧ Rv K mg S H e w := by
  cases r with
  | cons r rs =>
    cases rs with
    | cons r2 rs => cases rs; exact ⟨_, _, rfl, r, r2⟩
/-- a function of one argument, on argument lists -/
def f1 (g : D → Option D) : List D → Option D
  | [d] => g d
  | _ => none
def f1L (g : D → Option (List D)) : List D → Option (List D)
  | [d] => g d
  | _ => none
theorem ca1 {r : List V → Hp → VK → Prop} {g : D → Option D} (h : ∀ (S : List Addr) (H : Hp) (d1 d : D) (v1 : V) (Q : VK), (∀ a ∈ S, ∃ o, H a = some o ∧ Own o) → Rv X.K X.mg S H d1 v1 → g d1 = some d → (∀ v H', Grow H H' → Rf X.K X.mg (hide S H') d v → Q v H') → r [v1] H Q) : CaD X r (f1 g) := fun S H ds d vs Q al r1 e q => by
  match ds, r1, e with
  | [d1], r1, e =>
    obtain ⟨v, rfl, r2⟩ := r1.one
    exact h S H d1 d v Q al r2 e q
  | [], _, e => cases e
  | _ :: _ :: _, _, e => cases e
theorem co1 {r : List V → Hp → VK → Prop} {g : D → Option (List D)} (h : ∀ (S : List Addr) (H : Hp) (d1 : D) (d : List D) (v1 : V) (Q : VK), (∀ a ∈ S, ∃ o, H a = some o ∧ Own o) → Rv X.K X.mg S H d1 v1 → g d1 = some d → (∀ p H1 vs, Grow H H1 → H1 p = none → Rfs X.K X.mg (hide S H1) d vs → Q (.ref p) (upd H1 p (.lst vs))) → r [v1] H Q) : CaO X r (f1L g) := fun S H ds d vs Q al r1 e q => by
  match ds, r1, e with
  | [d1], r1, e =>
    obtain ⟨v, rfl, r2⟩ := r1.one
    exact h S H d1 d v Q al r2 e q
  | [], _, e => cases e
  | _ :: _ :: _, _, e => cases e
def lenD : D → Option D
  | .str s => if okLen s.length then some (.int s.length) else none
  | .tup l => some (.int l.length)
  | .lst l => some (.int l.length)
  | _ => none
abbrev rLen (K : PySem.W.Frag) : List V → Hp → VK → Prop := fun xs H Q => ∃ x n, xs = [x] ∧ LenV K x H n ∧ Q (.int n) H
theorem ca_len : CaD X (rLen X.K) (f1 lenD) := ca1 fun S H d1 d v1 Q al r1 e q => by
  cases d1 <;> first | (cases e; done) | skip
  · obtain ⟨h, e⟩ := ifSome' e
    subst e
    rw [r1.str_inv]
    exact ⟨_, _, rfl, ⟨okLen_le h, rfl⟩, q _ H (Grow.refl H) (.int _)⟩
  · cases e
    obtain ⟨a, vs, rfl, h1, h1', q1⟩ := r1.tup_inv
    refine ⟨_, _, rfl, .inr ⟨vs, h1, rfl⟩, ?_⟩
    rw [← q1.length]
    exact q _ H (Grow.refl H) (.int _)
  · cases e
    obtain ⟨a, vs, rfl, h1, q1⟩ := r1.lst_inv
    refine ⟨_, _, rfl, .inl ⟨vs, .of h1, rfl⟩, ?_⟩
    rw [← q1.length]
    exact q _ H (Grow.refl H) (.int _)
def absD : D → Option D
  | .int i => some (.int (if i < 0 then -i else i))
  | _ => none
theorem ca_abs : CaD X (fun xs H Q => ∃ i, xs = [.int i] ∧ Q (.int (if i < 0 then -i else i)) H) (f1 absD) := ca1 fun S H d1 d v1 Q al r1 e q => by
  cases d1 <;> first | (cases e; done) | skip
  cases e
  exact ⟨_, by rw [r1.int_inv], q _ H (Grow.refl H) (.int _)⟩
def intD : D → Option D
  | .int i => some (.int i)
  | .bl k => some (.int (if k then 1 else 0))
  | _ => none
theorem ca_int : CaD X (fun xs H Q => (∃ i, xs = [.int i] ∧ Q (.int i) H) ∨ ∃ k, xs = [.bl k] ∧ Q (.int (if k then 1 else 0)) H) (f1 intD) := ca1 fun S H d1 d v1 Q al r1 e q => by
  cases d1 <;> first | (cases e; done) | skip
  · cases e
    exact .inr ⟨_, by rw [r1.bl_inv], q _ H (Grow.refl H) (.int _)⟩
  · cases e
    exact .inl ⟨_, by rw [r1.int_inv], q _ H (Grow.refl H) (.int _)⟩
def f2 (g : D → D → Option D) : List D → Option D
  | [a, b] => g a b
  | _ => none
def max2D : D → D → Option D
  | .int i, .int j => some (.int (if j > i then j else i))
  | _, _ => none
def min2D : D → D → Option D
  | .int i, .int j => some (.int (if j < i then j else i))
  | _, _ => none
theorem ca2 {r : List V → Hp → VK → Prop} {g : D → D → Option D} (h : ∀ (S : List Addr) (H : Hp) (d1 d2 d : D) (v1 v2 : V) (Q : VK), (∀ a ∈ S, ∃ o, H a = some o ∧ Own o) → Rv X.K X.mg S H d1 v1 → Rv X.K X.mg S H d2 v2 → g d1 d2 = some d → (∀ v H', Grow H H' → Rf X.K X.mg (hide S H') d v → Q v H') → r [v1, v2] H Q) : CaD X r (f2 g) := fun S H ds d vs Q al r1 e q => by
  match ds, r1, e with
  | [d1, d2], r1, e =>
    obtain ⟨v, w, rfl, r2, r3⟩ := r1.two
    exact h S H d1 d2 d v w Q al r2 r3 e q
  | [], _, e => cases e
  | [_], _, e => cases e
  | _ :: _ :: _ :: _, _, e => cases e
theorem ca_max2 : CaD X (fun xs H Q => ∃ i j, xs = [.int i, .int j] ∧ Q (.int (if j > i then j else i)) H) (f2 max2D) := ca2 fun S H d1 d2 d v1 v2 Q al r1 r2 e q => by
  cases d1 <;> cases d2 <;> first | (cases e; done) | skip
  cases e
  rw [r1.int_inv, r2.int_inv]
  exact ⟨_, _, rfl, q _ H (Grow.refl H) (.int _)⟩
theorem ca_min2 : CaD X (fun xs H Q => ∃ i j, xs = [.int i, .int j] ∧ Q (.int (if j < i then j else i)) H) (f2 min2D) := ca2 fun S H d1 d2 d v1 v2 Q al r1 r2 e q => by
  cases d1 <;> cases d2 <;> first | (cases e; done) | skip
  cases e
  rw [r1.int_inv, r2.int_inv]
  exact ⟨_, _, rfl, q _ H (Grow.refl H) (.int _)⟩
/-- a list of ints, of bools -/
def getInts : List D → Option (List Int)
  | [] => some []
  | .int i :: r => (getInts r).map (i :: ·)
  | _ :: _ => none
theorem getInts_map : ∀ {l : List D} {ns : List Int}, getInts l = some ns → l = ns.map D.int
  | [], _, e => by cases e; rfl
  | .int i :: r, _, e => by
    unfold getInts at e
    cases h : getInts r with
    | none => rw [h] at e; cases e
    | some ns => rw [h] at e; cases e; rw [getInts_map h]; rfl
  | .non :: _, _, e => by cases e
  | .bl _ :: _, _, e => by cases e
  | .str _ :: _, _, e => by cases e
  | .tup _ :: _, _, e => by cases e
  | .lst _ :: _, _, e => by cases e
  | .dct _ :: _, _, e => by cases e
  | .set _ :: _, _, e => by cases e
  | .obj _ _ :: _, _, e => by cases e
  | .scr _ :: _, _, e => by cases e
@[simp] theorem getInts_of (ns : List Int) : getInts (ns.map D.int) = some ns := by
  induction ns with
  | nil => rfl
  | cons n r ih => simp [getInts, ih]
def getBls : List D → Option (List Bool)
  | [] => some []
  | .bl i :: r => (getBls r).map (i :: ·)
  | _ :: _ => none
theorem getBls_map : ∀ {l : List D} {ns : List Bool}, getBls l = some ns → l = ns.map D.bl
  | [], _, e => by cases e; rfl
  | .bl i :: r, _, e => by
    unfold getBls at e
    cases h : getBls r with
    | none => rw [h] at e; cases e
    | some ns => rw [h] at e; cases e; rw [getBls_map h]; rfl
  | .non :: _, _, e => by cases e
  | .int _ :: _, _, e => by cases e
  | .str _ :: _, _, e => by cases e
  | .tup _ :: _, _, e => by cases e
  | .lst _ :: _, _, e => by cases e
  | .dct _ :: _, _, e => by cases e
  | .set _ :: _, _, e => by cases e
  | .obj _ _ :: _, _, e => by cases e
  | .scr _ :: _, _, e => by cases e
@[simp] theorem getBls_of (ns : List Bool) : getBls (ns.map D.bl) = some ns := by
  induction ns with
  | nil => rfl
  | cons n r ih => simp [getBls, ih]
def sumD : D → Option D
  | .lst l => (getInts l).map fun ns => .int ns.sum
  | _ => none
theorem mapO {α β : Type} {x : Option α} {f : α → β} {r : β} (e : x.map f = some r) : ∃ a, x = some a ∧ f a = r := by
  cases x with
  | none => cases e
  | some a => exact ⟨a, rfl, Option.some.inj e⟩
theorem ca_sum : CaD X (rSum X.K) (f1 sumD) := ca1 fun S H d1 d v1 Q al r1 e q => by
  cases d1 <;> first | (cases e; done) | skip
  obtain ⟨ns, e1, rfl⟩ := mapO (show (getInts _).map _ = some d from e)
  have := getInts_map e1
  subst this
  obtain ⟨a, vs, rfl, h1, q1⟩ := r1.lst_inv
  have := q1.ints
  subst this
  exact ⟨a, ns, rfl, .of h1, q _ H (Grow.refl H) (.int _)⟩
def lmax : List Int → Option Int
  | [] => none
  | a :: r => some (r.foldl (fun m x => if x > m then x else m) a)
def lmin : List Int → Option Int
  | [] => none
  | a :: r => some (r.foldl (fun m x => if x < m then x else m) a)
theorem lmax_spec : ∀ (r : List Int) (a : Int), r.foldl (fun m x => if x > m then x else m) a ∈ a :: r ∧ ∀ y ∈ a :: r, y ≤ r.foldl (fun m x => if x > m then x else m) a
  | [], a => ⟨by simp, by simp⟩
  | b :: r, a => by
    have := lmax_spec r (if b > a then b else a)
    simp only [List.foldl_cons]
    refine ⟨?_, fun y hy => ?_⟩
    · have h := this.1
      simp only [List.mem_cons] at h ⊢
      by_cases c : b > a
      · simp only [c, if_true] at h ⊢
        rcases h with h | h <;> simp [h]
      · simp only [c, if_false] at h ⊢
        rcases h with h | h <;> simp [h]
    · have h := this.2
      have h0 := h (if b > a then b else a) (by simp)
      simp only [List.mem_cons] at hy
      rcases hy with rfl | rfl | hy
      · refine Int.le_trans ?_ h0
        split <;> omega
      · refine Int.le_trans ?_ h0
        split <;> omega
      · exact h y (by simp [hy])
theorem lmin_spec : ∀ (r : List Int) (a : Int), r.foldl (fun m x => if x < m then x else m) a ∈ a :: r ∧ ∀ y ∈ a :: r, r.foldl (fun m x => if x < m then x else m) a ≤ y
  | [], a => ⟨by simp, by simp⟩
  | b :: r, a => by
    have := lmin_spec r (if b < a then b else a)
    simp only [List.foldl_cons]
    refine ⟨?_, fun y hy => ?_⟩
    · have h := this.1
      simp only [List.mem_cons] at h ⊢
      by_cases c : b < a
      · simp only [c, if_true] at h ⊢
        rcases h with h | h <;> simp [h]
      · simp only [c, if_false] at h ⊢
        rcases h with h | h <;> simp [h]
    · have h := this.2
      have h0 := h (if b < a then b else a) (by simp)
      simp only [List.mem_cons] at hy
      rcases hy with rfl | rfl | hy
      · refine Int.le_trans h0 ?_
        split <;> omega
      · refine Int.le_trans h0 ?_
        split <;> omega
      · exact h y (by simp [hy])
def maxD : D → Option D
  | .lst l => (getInts l).bind fun ns => (lmax ns).map D.int
  | _ => none
def minD : D → Option D
  | .lst l => (getInts l).bind fun ns => (lmin ns).map D.int
  | _ => none
theorem ca_max : CaD X (rMax X.K) (f1 maxD) := ca1 fun S H d1 d v1 Q al r1 e q => by
  cases d1 <;> first | (cases e; done) | skip
  obtain ⟨ns, e1, e2⟩ := bindO (show (getInts _).bind _ = some d from e)
  obtain ⟨m, e3, rfl⟩ := mapO e2
  have := getInts_map e1
  subst this
  obtain ⟨a, vs, rfl, h1, q1⟩ := r1.lst_inv
  have := q1.ints
  subst this
  cases ns with
  | nil => cases e3
  | cons x r =>
    cases e3
    have sp := lmax_spec r x
    refine ⟨a, x :: r, rfl, .of h1, by simp, fun m hm hy => ?_⟩
    have : m = r.foldl (fun m x => if x > m then x else m) x := Int.le_antisymm (sp.2 m hm) (hy _ sp.1)
    subst this
    exact q _ H (Grow.refl H) (.int _)
theorem ca_min : CaD X (rMin X.K) (f1 minD) := ca1 fun S H d1 d v1 Q al r1 e q => by
  cases d1 <;> first | (cases e; done) | skip
  obtain ⟨ns, e1, e2⟩ := bindO (show (getInts _).bind _ = some d from e)
  obtain ⟨m, e3, rfl⟩ := mapO e2
  have := getInts_map e1
  subst this
  obtain ⟨a, vs, rfl, h1, q1⟩ := r1.lst_inv
  have := q1.ints
  subst this
  cases ns with
  | nil => cases e3
  | cons x r =>
    cases e3
    have sp := lmin_spec r x
    refine ⟨a, x :: r, rfl, .of h1, by simp, fun m hm hy => ?_⟩
    have : m = r.foldl (fun m x => if x < m then x else m) x := Int.le_antisymm (hy _ sp.1) (sp.2 m hm)
    subst this
    exact q _ H (Grow.refl H) (.int _)
def anyD : D → Option D
  | .lst l => (getBls l).map fun ns => .bl (ns.any id)
  | _ => none
def allD : D → Option D
  | .lst l => (getBls l).map fun ns => .bl (ns.all id)
  | _ => none
theorem ca_any : CaD X (rAny X.K) (f1 anyD) := ca1 fun S H d1 d v1 Q al r1 e q => by
  cases d1 <;> first | (cases e; done) | skip
  obtain ⟨ns, e1, rfl⟩ := mapO (show (getBls _).map _ = some d from e)
  have := getBls_map e1
  subst this
  obtain ⟨a, vs, rfl, h1, q1⟩ := r1.lst_inv
  have := q1.bls
  subst this
  exact ⟨a, ns, rfl, .of h1, q _ H (Grow.refl H) (.bl _)⟩
theorem ca_all : CaD X (rAll X.K) (f1 allD) := ca1 fun S H d1 d v1 Q al r1 e q => by
  cases d1 <;> first | (cases e; done) | skip
  obtain ⟨ns, e1, rfl⟩ := mapO (show (getBls _).map _ = some d from e)
  have := getBls_map e1
  subst this
  obtain ⟨a, vs, rfl, h1, q1⟩ := r1.lst_inv
  have := q1.bls
  subst this
  exact ⟨a, ns, rfl, .of h1, q _ H (Grow.refl H) (.bl _)⟩
def tupleD : D → Option D
  | .lst l => some (.tup l)
  | .tup l => some (.tup l)
  | _ => none
abbrev rTupleD (K : PySem.W.Frag) : List V → Hp → VK → Prop := fun xs H Q => ∃ p ys, xs = [.ref p] ∧ ((SqL K H p ys ∧ ∀ l, H l = none → Q (.ref l) (upd H l (.tup ys))) ∨ (SqT K H p ys ∧ Q (.ref p) H))
theorem ca_tuple : CaD X (rTupleD X.K) (f1 tupleD) := ca1 fun S H d1 d v1 Q al r1 e q => by
  cases d1 <;> first | (cases e; done) | skip
  · cases e
    obtain ⟨a, vs, rfl, h1, h1', q1⟩ := r1.tup_inv
    exact ⟨a, vs, rfl, .inr ⟨h1, q _ H (Grow.refl H) (.tup h1' q1)⟩⟩
  · cases e
    obtain ⟨a, vs, rfl, h1, q1⟩ := r1.lst_inv
    exact ⟨a, vs, rfl, .inl ⟨.of h1, fun p hp => q _ _ (Grow.upd hp) (new_tup al hp q1)⟩⟩
def listD : D → Option (List D)
  | .lst l => some l
  | .tup l => some l
  | .scr ns => some (ns.map D.int)
  | _ => none
abbrev rListD (K : PySem.W.Frag) : List V → Hp → VK → Prop := fun xs H Q => ∃ p ys, xs = [.ref p] ∧ (SqL K H p ys ∨ SqT K H p ys) ∧ ∀ l, H l = none → Q (.ref l) (upd H l (.lst ys))
theorem co_list : CaO X (rListD X.K) (f1L listD) := co1 fun S H d1 d v1 Q al r1 e q => by
  cases d1 <;> first | (cases e; done) | skip
  · cases e
    obtain ⟨a, vs, rfl, h1, h1', q1⟩ := r1.tup_inv
    exact ⟨a, vs, rfl, .inr h1, fun p hp => q p H vs (Grow.refl H) hp q1⟩
  · cases e
    obtain ⟨a, vs, rfl, h1, q1⟩ := r1.lst_inv
    exact ⟨a, vs, rfl, .inl (.of h1), fun p hp => q p H vs (Grow.refl H) hp q1⟩
  · cases e
    cases r1 with
    | rf r1 =>
      cases r1 with
      | scr h => exact ⟨_, _, rfl, .inl ((hide_le _ _).seqL h), fun p hp => q p H _ (Grow.refl H) hp (Rfs.of_ints _)⟩
/-! ### in -/
def dIn : D → D → Option D
  | d, .lst l => if pyOk 39 d && l.all (pyOk 39) then some (.bl (l.any fun z => dq z d)) else none
  | _, _ => none
def dNotIn : D → D → Option D
  | d, .lst l => if pyOk 39 d && l.all (pyOk 39) then some (.bl (!l.any fun z => dq z d)) else none
  | _, _ => none
theorem any_pys {d : D} (hd : pyOk 39 d = true) : ∀ (l : List D), l.all (pyOk 39) = true → (pys l).any (fun z => PyData.eqv z (py d)) = l.any fun z => dq z d
  | [], _ => rfl
  | a :: r, h => by
    simp only [List.all_cons, Bool.and_eq_true] at h
    simp only [pys, List.any_cons, eqv_dq 39 a d h.1 hd, any_pys hd r h.2]
theorem shaped_of39 {d : D} (h : pyOk 39 d = true) : SeqAt.shaped (py d) = true := by
  have := pyOk_ok 39 d h
  unfold SeqAt.shaped
  rw [this.1, Bool.true_and]
  exact decide_eq_true (by omega)
theorem Rv.dpL {K : PySem.W.Frag} {mg : Str → Option Value} {S : List Addr} {H : Hp} {l : List D} {v : V} (r : Rv K mg S H (.lst l) v) (h : l.all (pyOk 39) = true) : Dp K H v (.list (pys l)) := r.dp (n := 40) h
theorem od_in : OpD X (rInD X.K) dIn := fun S H d1 d2 d v1 v2 Q al r1 r2 e q => by
  cases d2 <;> first | (cases e; done) | (cases d1 <;> cases e; done) | skip
  rename_i l
  obtain ⟨h, e⟩ := ifSome' (show (if pyOk 39 d1 && l.all (pyOk 39) then some (D.bl (l.any fun z => dq z d1)) else none) = some d by cases d1 <;> exact e)
  subst e
  rw [Bool.and_eq_true] at h
  exact ⟨_, _, r1.dp h.1, r2.dpL h.2, shaped_of39 h.1, shaped_of (d := .lst l) h.2, by rw [any_pys h.1 l h.2]; exact q _ H (Grow.refl H) (.bl _)⟩
theorem od_notIn : OpD X (rNotInD X.K) dNotIn := fun S H d1 d2 d v1 v2 Q al r1 r2 e q => by
  cases d2 <;> first | (cases e; done) | (cases d1 <;> cases e; done) | skip
  rename_i l
  obtain ⟨h, e⟩ := ifSome' (show (if pyOk 39 d1 && l.all (pyOk 39) then some (D.bl (!l.any fun z => dq z d1)) else none) = some d by cases d1 <;> exact e)
  subst e
  rw [Bool.and_eq_true] at h
  exact ⟨_, _, r1.dp h.1, r2.dpL h.2, shaped_of39 h.1, shaped_of (d := .lst l) h.2, by rw [any_pys h.1 l h.2]; exact q _ H (Grow.refl H) (.bl _)⟩
/-! ### isinstance -/
inductive Bt where
  | int | bool | str | list | tuple
  deriving DecidableEq
def Bt.nm : Bt → String
  | .int => "int"
  | .bool => "bool"
  | .str => "str"
  | .list => "list"
  | .tuple => "tuple"
def isB : Bt → D → Option Bool
  | b, .non => some false
  | b, .bl _ => some (decide (b = .bool) || decide (b = .int))
  | b, .int _ => some (decide (b = .int))
  | b, .str _ => some (decide (b = .str))
  | b, .tup _ => some (decide (b = .tuple))
  | b, .lst _ => some (decide (b = .list))
  | _, _ => none
def tyNm : D → String
  | .non => "NoneType"
  | .bl _ => "bool"
  | .int _ => "int"
  | .str _ => "str"
  | .tup _ => "tuple"
  | _ => "list"
theorem kit_isB {K : PySem.W.Frag} {b : Bt} {d : D} {r : Bool} (e : isB b d = some r) : PySem.W.kitOne K (.type (tyNm d)) (.type b.nm) = some r := by
  cases d <;> first | (cases e; done) | skip
  all_goals (cases b <;> cases e <;> refine kit_ty ?_ <;> simp only [tyNm, Bt.nm] <;> decide +kernel)
theorem Rv.tyx {K : PySem.W.Frag} {mg : Str → Option Value} {S : List Addr} {H : Hp} {d : D} {v : V} {b : Bt} {r : Bool} (h : Rv K mg S H d v) (e : isB b d = some r) : TyX K H v (.type (tyNm d)) := by
  cases d with
  | non => rw [h.non_inv]; exact .base .non
  | bl b => rw [h.bl_inv]; exact .base (.bl b)
  | int i => rw [h.int_inv]; exact .base (.int i)
  | str s => rw [h.str_inv]; exact .base (.str s)
  | tup l =>
    obtain ⟨a, vs, rfl, h1, _, _⟩ := h.tup_inv
    rcases h1 with (h1 | ⟨o, h1⟩) | ⟨o, its, n, h1, h2, _⟩
    · exact .base (.tup h1)
    · exact .fTuple h1
    · exact .kTuple h1 h2
  | lst l =>
    obtain ⟨a, vs, rfl, h1, _⟩ := h.lst_inv
    exact .base (.lst h1)
  | dct l => cases e
  | set l => cases e
  | obj c l => cases e
  | scr l => cases e
/-- isinstance(e, T): the class is written -/
def eIsI (b : Bt) (f : Ef) : Ef := fun ρ => (f ρ).bind fun p => (isB b (p.1.res p.2)).bind fun k => some (.v (.bl k), p.2)
theorem de_isI {τ : List Ty} {e : Expr} {f : Ef} {p pos pos2 : Pos} {x T : Str} (b : Bt) (hg : Gl X x) (hm : X.mg x = none) (hv : bootBuiltins x = some (.builtin "isinstance")) (hg2 : Gl X T) (hm2 : X.mg T = none) (hv2 : bootBuiltins T = some (.type b.nm)) (he : DE X e τ f) (hn : x ≠ "__name__" := by decide) (hdb : (x == ("__debug__" : Str)) = false := by decide) (hn2 : T ≠ "__name__" := by decide) (hdb2 : (T == ("__debug__" : Str)) = false := by decide)
    (hs : starEach [e, .Name T pos2] X.env = (false, eval e X.env) :: starEach [.Name T pos2] X.env := by rfl) (hs2 : starEach [Expr.Name T pos2] X.env = (false, eval (.Name T pos2) X.env) :: starEach [] X.env := by rfl) (hpl : (backTo pos (starEach [Expr.Name T pos2] X.env)).any (·.1) = false := by rfl) :
    DE X (.Call (.Name x p) [e, .Name T pos2] [] pos) τ (eIsI b f) := pe_imp (pe_callB call_isi hg hm hv (pa_cons he (pa_cons (pe_bltn (v := .ty b.nm) (u := .type b.nm) hg2 hm2 hv2 rfl hn2 hdb2) pa_nil hs2) hs) hn hdb hs hpl) fun σ H Q ⟨R, ρ, fs, h, ρ', s, e, q⟩ => by
  obtain ⟨w, e1, e2⟩ := bindO e
  obtain ⟨k, e3, e4⟩ := bindO e2
  cases e4
  refine ⟨R, ρ, fs, w.1, w.2, s, e1, fun v H1 fs1 t1 s1 r => ?_⟩
  exact ⟨v, .ty b.nm, _, _, k, rfl, .ty _, (s1.res r).tyx e3, kit_isB e3, q _ H1 fs1 t1 s1 (.bl _)⟩
end
end TL

namespace TL
open PySem PySem.Spec PyProof.Rows L2

/-- a def of the text as it stands behind the top -/
structure Dfn (K : PySem.W.Frag) (mg : Str → Option Value) (x : Str) (st : Stmt) (ps : List Str) (f : Addr) (fd : FuncData) : Prop where
  fn : Fun K x x st f fd
  mg : mg x = some (.ref f)
  bd : Binds K fd ps []
/-- a def that may be called -/
structure Cal (P : Program) (w : World) (K : PySem.W.Frag) (mg : Str → Option Value) (base : Heap) (f : Addr) (fd : FuncData) (x : Str) (k : Nat) (ps : List Str) (sg : Sg) (G : Fm) : Prop where
  ok : FnD P w K mg base k f fd ps sg G
  mg : mg x = some (.ref f)
  kp : PySem.W.keepIn K (.ref f) = true
  bd : Binds K fd ps []
  len : ∀ ds r, G ds = some r → ds.length = sg.ps.length
section
variable {P : Program} {w : World} {K : PySem.W.Frag} {mg : Str → Option Value} {base : Heap} {f : Addr} {fd : FuncData} {x : Str} {k j : Nat} {ps : List Str} {sg : Sg} {G G' : Fm}
theorem Cal.mono (c : Cal P w K mg base f fd x j ps sg G) (h : j ≤ k) : Cal P w K mg base f fd x k ps sg G := ⟨FnOk.mono c.ok h, c.mg, c.kp, c.bd, c.len⟩
theorem Cal.of (c : Cal P w K mg base f fd x k ps sg G) (le : ∀ ds r, G' ds = some r → G ds = some r) : Cal P w K mg base f fd x k ps sg G' := ⟨c.ok.of le, c.mg, c.kp, c.bd, fun ds r h => c.len ds r (le ds r h)⟩
theorem runF_len {b : Sf} {n m : Nat} : ∀ ds r, runF b n m ds = some r → ds.length = n := fun ds r e => by
  unfold runF at e
  by_cases h : ds.length = n
  · exact h
  · rw [if_neg h] at e; cases e
/-- the rule for a def -/
theorem cal_ok {b : Sf} {τ' : List Ty} {st : Stmt} {N : List Str} (D : Dfn K mg x st ps f fd) (S : FnScope N ps (defScope st)) (γ : Gm) (m : Nat) (hn : sg.ps.length = ps.length := by rfl) (hm : sg.ps.length + m = N.length := by rfl)
    (hio : γ.io = ioOf (sg.ps.map Ty.io) := by rfl) (hret : γ.ret = sg.ret := by rfl) (hrty : γ.rty = sg.ps.map Ty.io ++ List.replicate m .no := by rfl) (hnx : leTb γ.rty τ' = true := by rfl) (hfall : sg.ret = .sh ∨ ∀ ρ ρ', b ρ ≠ some (.nx ρ'))
    (hbody : ∀ (cdv : Value) (A : Around) (outer : List PySem.Env) (s : Shared) (H : Hp) (E : XK), Room k (A.deeper (envOfC x (defScope st) s.heap.objs.size f cdv)) →
      DSs (cxOf CX0 P w K mg base N x (defScope st) f cdv A outer s H E).nox γ (defBody st) (sg.ps ++ List.replicate m .no) b τ') :
    Cal P w K mg base f fd x (k + 1) ps sg (runF b sg.ps.length m) :=
  ⟨fn_ok D.fn S sg γ m hn hm hio hret hrty hnx hfall hbody, D.mg, D.fn.kp, D.bd, runF_len⟩
/-- .. with a number of turns for its whiles -/
theorem Cal.ofN {F : Nat → Fm} (h : ∀ n, Cal P w K mg base f fd x k ps sg (F n)) (le : ∀ ds r, G ds = some r → ∃ n, F n ds = some r) : Cal P w K mg base f fd x k ps sg G :=
  ⟨FnD.ofN (fun n => (h n).ok) le, (h 0).mg, (h 0).kp, (h 0).bd, fun ds r h1 => by
    obtain ⟨n, h2⟩ := le ds r h1
    exact (h n).len ds r h2⟩
end
section
variable {X : Cx} {τ : List Ty} {e : Expr} {es : List Expr} {pos p : Pos} {f : Addr} {fd : FuncData} {x : Str} {k : Nat} {ps : List Str} {sg : Sg} {F : Fm}
theorem do_fn {g : Af} (c : Cal X.prog X.w X.K X.mg X.base f fd x k ps sg F) (hr : Room k X.A) (n : Nat) (hg : Gl X x) (ha : DA X (e :: es) τ g) (hps : sg.ps = List.replicate n .sh := by rfl) (hdb : (x == ("__debug__" : Str)) = false := by decide) (he : starEach (e :: es) X.env = (false, eval e X.env) :: starEach es X.env := by rfl) (hpl : (backTo pos (starEach es X.env)).any (·.1) = false := by rfl) :
    DO X (.Call (.Name x p) (e :: es) [] pos) τ (oCall F g) sg.ret := do_call c.ok hr hg c.mg c.kp c.bd ha n hps (fun ds r h => by rw [c.len ds r h, hps]; simp) hdb he hpl
theorem do_fnB {g : Af} (c : Cal X.prog X.w X.K X.mg X.base f fd x k ps sg F) (hr : Room k X.A) (n : Nat) (hg : Gl X x) (ha : DA X (e :: es) τ g) (hps : sg.ps = List.replicate n .sh := by rfl) (hdb : (x == ("__debug__" : Str)) = false := by decide) (he : starEach (e :: es) X.env = (false, eval e X.env) :: starEach es X.env := by rfl) (hpl : (backTo pos (starEach es X.env)).any (·.1) = false := by rfl) :
    DO X (.Call (.Name x p) (e :: es) [] pos) τ (oCallB sg.ret F g) sg.ret := do_callB' c.ok hr hg c.mg c.kp c.bd ha n hps (fun ds r h => by rw [c.len ds r h, hps]; simp) hdb he hpl
theorem do_fnI {g : Af} {t : Ty} (c : Cal X.prog X.w X.K X.mg X.base f fd x k ps sg F) (hr : Room k X.A) (i j n : Nat) (hg : Gl X x) (ha : DAi X (e :: es) τ g) (hps : sg.ps = ioPs n j t := by rfl) (ht : τ[i]? = some t := by rfl) (hno : t ≠ .no := by intro z; cases z) (hsh : t.io = t := by rfl) (hdb : (x == ("__debug__" : Str)) = false := by decide) (he : starEach (e :: es) X.env = (false, eval e X.env) :: starEach es X.env := by rfl) (hpl : (backTo pos (starEach es X.env)).any (·.1) = false := by rfl) :
    DO X (.Call (.Name x p) (e :: es) [] pos) τ (oCallI F i j g) sg.ret := do_callI i j n c.ok hr hg c.mg c.kp c.bd ha hps (fun ds r h => by rw [c.len ds r h, hps]; simp [ioPs]) ht hno hsh hdb he hpl
end
/-! ### names of built-ins -/
theorem bt_len : bootBuiltins "len" = some (.builtin "len") := by decide +kernel
theorem bt_abs : bootBuiltins "abs" = some (.builtin "abs") := by decide +kernel
theorem bt_sum : bootBuiltins "sum" = some (.builtin "sum") := by decide +kernel
theorem bt_max : bootBuiltins "max" = some (.builtin "max") := by decide +kernel
theorem bt_min : bootBuiltins "min" = some (.builtin "min") := by decide +kernel
theorem bt_any : bootBuiltins "any" = some (.builtin "any") := by decide +kernel
theorem bt_all : bootBuiltins "all" = some (.builtin "all") := by decide +kernel
theorem bt_sorted : bootBuiltins "sorted" = some (.builtin "sorted") := by decide +kernel
theorem bt_isinstance : bootBuiltins "isinstance" = some (.builtin "isinstance") := by decide +kernel
theorem bt_int : bootBuiltins "int" = some (.type "int") := by decide +kernel
theorem bt_bool : bootBuiltins "bool" = some (.type "bool") := by decide +kernel
theorem bt_str : bootBuiltins "str" = some (.type "str") := by decide +kernel
theorem bt_tuple : bootBuiltins "tuple" = some (.type "tuple") := by decide +kernel
theorem bt_list : bootBuiltins "list" = some (.type "list") := by decide +kernel
theorem bt_dict : bootBuiltins "dict" = some (.type "dict") := by decide +kernel
theorem bt_set : bootBuiltins "set" = some (.type "set") := by decide +kernel
theorem hu64 {k : Nat} {A : Around} (r : Room k A) : A.units + 64 < cLine := r.units
theorem hu65 {k : Nat} {A : Around} (r : Room k A) : A.units + 65 < cLine := by
  have := r.un
  omega
/-! ### blocks that do not fall through -/
def NN (f : Sf) : Prop := ∀ ρ ρ', f ρ ≠ some (.nx ρ')
theorem nn_ret {f : Ef} : NN (sRet f) := fun ρ ρ' e => by
  obtain ⟨p, _, e2⟩ := bindO e
  obtain ⟨p1, p2⟩ := p
  cases p1 <;> cases e2
theorem nn_retO {f : Of} : NN (sRetO f) := fun ρ ρ' e => by
  obtain ⟨p, _, e2⟩ := bindO e
  cases e2
theorem nn_retX {i : Nat} : NN (sRetX i) := fun ρ ρ' e => by cases e
theorem nn_retN : NN sRetN := fun ρ ρ' e => by cases e
theorem nn_seq {f g : Sf} (h : NN g) : NN (sSeq f g) := fun ρ ρ' e => by
  obtain ⟨o, _, e2⟩ := bindO e
  cases o with
  | nx r => exact h _ _ e2
  | _ => cases e2
theorem nn_if {t : Tf} {f g : Sf} (h : NN f) (k : NN g) : NN (sIf t f g) := fun ρ ρ' e => by
  obtain ⟨p, _, e2⟩ := bindO e
  cases hp : p.1 with
  | true => rw [hp] at e2; exact h _ _ e2
  | false => rw [hp] at e2; exact k _ _ e2
/-! ### slots forgotten ahead of a block -/
def sKb (ks : List Nat) (f : Sf) : Sf := fun ρ => f (kill ks ρ)
theorem dss_killB {X : Cx} {γ : Gm} {τ τ' : List Ty} {sts : List Stmt} {f : Sf} (ks : List Nat) (h : DSs X γ sts (killT ks τ) f τ') : DSs X γ sts τ (sKb ks f) τ' := pss_imp h fun D σ H ⟨R, ρ, fs, o, s, e, q⟩ => by
  obtain ⟨fs1, s1, sub⟩ := s.killS ks
  exact ⟨R, kill ks ρ, fs1, o, s1, e, q.mono ((Step.refl H fs).less sub) (Kp.refl _ _) (fun ρ' σ' H' fs' eo t' k' s' => by subst eo; exact q σ' H' fs' t' k' s') rfl rfl rfl⟩
/-! ### the law -/
/-- the law's promise: True at every script -/
def sgL : Sg := ⟨[.sh], .sh⟩
def lawF (F : Fm) : Prop := ∀ ns : List Int, ns.length ≤ 63 → ∃ r, F [.scr ns] = some (.bl true, r)
theorem law_sp {K : PySem.W.Frag} {mg : Str → Option Value} {F : Fm} (h : lawF F) {H : Hp} {a : Addr} {ns : List Int} (hl : ns.length ≤ 63) (hS : SqL K H a (ns.map V.int)) {E : XK} : spD K mg sgL F [.ref a] H (fun v _ => v = .bl true) E := by
  obtain ⟨r, e⟩ := h ns hl
  refine ⟨[], [.scr ns], [], .bl true, r, ⟨.cons (f := []) (g := []) (.sh (.scr ?_)) .nil, List.nodup_nil, fun a ha => nomatch ha⟩, e, fun v H' fs' fv _ _ rp => ?_⟩
  · have eq : hide [] H = H := by funext a; simp [hide]
    rw [show ([] : List Addr) ++ [] = [] from rfl, eq]
    exact hS
  · cases rp with
    | sh rf => cases rf; rfl
end TL

/-! ### sorted of tuples of ints -/
namespace TL
open PySem PySem.Spec PyProof.Rows L2
theorem lexLt_asym : ∀ (x y : List Int), HT.lexLt x y = true → HT.lexLt y x = false
  | [], [], h => by simp [HT.lexLt] at h
  | [], _ :: _, _ => rfl
  | _ :: _, [], h => by simp [HT.lexLt] at h
  | a :: x, b :: y, h => by
    rw [HT.lexLt_cons] at h ⊢
    by_cases e : a = b
    · subst e
      simp only [if_true] at h ⊢
      exact lexLt_asym x y h
    · rw [if_neg e] at h
      rw [if_neg (fun z => e z.symm)]
      have := of_decide_eq_true h
      exact decide_eq_false (by omega)
theorem lexLt_tr : ∀ (x y z : List Int), HT.lexLt y x = false → HT.lexLt z y = false → HT.lexLt z x = false
  | [], y, z, h1, h2 => by
    cases y with
    | nil => exact h2
    | cons b y =>
      cases z with
      | nil => rfl
      | cons c z => rfl
  | a :: x, [], z, h1, h2 => by simp [HT.lexLt] at h1
  | a :: x, b :: y, [], h1, h2 => by simp [HT.lexLt] at h2
  | a :: x, b :: y, c :: z, h1, h2 => by
    rw [HT.lexLt_cons] at h1 h2 ⊢
    by_cases e1 : b = a
    · subst e1
      by_cases e2 : c = b
      · subst e2
        simp only [if_true] at h1 h2 ⊢
        exact lexLt_tr x y z h1 h2
      · rw [if_neg e2] at h2 ⊢
        exact h2
    · rw [if_neg e1] at h1
      by_cases e2 : c = b
      · subst e2
        rw [if_neg e1]
        exact h1
      · rw [if_neg e2] at h2
        have a1 := of_decide_eq_false h1
        have a2 := of_decide_eq_false h2
        rw [if_neg (by omega)]
        exact decide_eq_false (by omega)
theorem lexLt_eq : ∀ (x y : List Int), HT.lexLt x y = false → HT.lexLt y x = false → x = y
  | [], [], _, _ => rfl
  | [], _ :: _, h, _ => by simp [HT.lexLt] at h
  | _ :: _, [], _, h => by simp [HT.lexLt] at h
  | a :: x, b :: y, h1, h2 => by
    rw [HT.lexLt_cons] at h1 h2
    by_cases e : a = b
    · subst e
      simp only [if_true] at h1 h2
      rw [lexLt_eq x y h1 h2]
    · rw [if_neg e] at h1
      rw [if_neg (fun z => e z.symm)] at h2
      have a1 := of_decide_eq_false h1
      have a2 := of_decide_eq_false h2
      omega
/-- sorted, as a function -/
def sortRows (l : List (List Int)) : List (List Int) := l.mergeSort fun a b => !HT.lexLt b a
theorem sortRows_perm (l : List (List Int)) : (sortRows l).Perm l := List.mergeSort_perm _ _
theorem sortRows_srt (l : List (List Int)) : (sortRows l).Pairwise fun a b => HT.lexLt b a = false := by
  have := List.pairwise_mergeSort (le := fun a b => !HT.lexLt b a) (fun a b c h1 h2 => by
    simp only [Bool.not_eq_true'] at h1 h2 ⊢
    exact lexLt_tr a b c h1 h2) (fun a b => by
    cases h : HT.lexLt b a with
    | false => simp
    | true => simp [lexLt_asym b a h]) l
  exact this.imp fun h => by simpa using h
theorem srt_uniq {α : Type} {lt : α → α → Bool} (ae : ∀ x y, lt x y = false → lt y x = false → x = y) : ∀ {l m : List α}, l.Perm m → (l.Pairwise fun a b => lt b a = false) → (m.Pairwise fun a b => lt b a = false) → l = m
  | [], m, p, _, _ => by simpa using p.symm.eq_nil
  | x :: l, [], p, _, _ => by simpa using p.eq_nil
  | x :: l, y :: m, p, h1, h2 => by
    have hxy : x = y := by
      have hx : x ∈ y :: m := p.mem_iff.mp (by simp)
      have hy : y ∈ x :: l := p.mem_iff.mpr (by simp)
      rcases List.mem_cons.mp hx with e | hx
      · exact e
      rcases List.mem_cons.mp hy with e | hy
      · exact e.symm
      exact ae x y ((List.pairwise_cons.mp h2).1 x hx) ((List.pairwise_cons.mp h1).1 y hy)
    subst hxy
    rw [srt_uniq ae p.cons_inv (List.pairwise_cons.mp h1).2 (List.pairwise_cons.mp h2).2]
end TL
namespace SrtO
open PySem PySem.Calls PyProof.Rows
/-- a tuple of ints -/
def IsRow (h : Heap) (v : Value) (ns : List Int) : Prop := ∃ (a : Addr) (us : List Value), v = .ref a ∧ IsTup h a us.toArray ∧ IntsAre us ns
theorem ints_inj : ∀ {us : List Value} {ns ms : List Int}, IntsAre us ns → IntsAre us ms → ns = ms := fun {us ns ms} h k => by
  have h1 := L2.vals_of_ints h
  have h2 := L2.vals_of_ints k
  have := L2.Vals.inj h1 h2
  exact (List.map_inj_right (fun a b e => by injection e)).mp this
theorem IsRow.inj {h : Heap} {v : Value} {ns ms : List Int} (x : IsRow h v ns) (y : IsRow h v ms) : ns = ms := by
  obtain ⟨a, us, rfl, ⟨o, e, _, n, d⟩, i⟩ := x
  obtain ⟨b, ws, e2, ⟨o', e', _, n', d'⟩, j⟩ := y
  cases e2
  rw [e] at e'; cases e'
  rw [d] at d'
  injection d' with d1 _
  have : us = ws := by simpa using congrArg Array.toList d1
  subst this
  exact ints_inj i j
open Classical in
noncomputable def rowOf (h : Heap) (v : Value) : List Int := if x : ∃ ns, IsRow h v ns then x.choose else []
theorem rowOf_eq {h : Heap} {v : Value} {ns : List Int} (x : IsRow h v ns) : rowOf h v = ns := by
  unfold rowOf
  have e : ∃ ns, IsRow h v ns := ⟨ns, x⟩
  rw [dif_pos e]
  exact e.choose_spec.inj x
theorem swo_row (k : Value → List Int) : Swo fun v u => HT.lexLt (k v) (k u) := ⟨fun x y h => TL.lexLt_asym _ _ h, fun x y z h1 h2 => TL.lexLt_tr _ _ _ h1 h2⟩
section
variable {prog : Program} {w : World} {A : Around} {E : Value → Shared → Prop} {s : Shared}
theorem kat_ints {b fin : Bool} {Q : Bool → Shared → Prop} : ∀ {xs ys : List Value} {ns ms : List Int} (i : Nat), IntsAre xs ns → IntsAre ys ms → fin = decide (ns.length < ms.length) → Q (HT.lexLt ns ms) s → PySem.W.KatLex prog w A b fin Q (xs.zip ys) i s
  | [], ys, ns, ms, i, hx, hy, hf, q => by
    have := L2.vals_of_ints hx
    cases ns with
    | nil =>
      refine PySem.W.kat_nil ?_
      rw [hf]
      cases ms <;> exact q
    | cons _ _ => cases this
  | x :: xs, [], ns, ms, i, hx, hy, hf, q => by
    have h1 := L2.vals_of_ints hx
    have h2 := L2.vals_of_ints hy
    cases ns with
    | nil => cases h1
    | cons n ns =>
      cases ms with
      | cons _ _ => cases h2
      | nil =>
        refine PySem.W.kat_nil ?_
        rw [hf]
        exact q
  | x :: xs, y :: ys, ns, ms, i, hx, hy, hf, q => by
    have h1 := L2.vals_of_ints hx
    have h2 := L2.vals_of_ints hy
    cases ns with
    | nil => cases h1
    | cons n ns =>
      cases ms with
      | nil => cases h2
      | cons m ms =>
        cases h1 with
        | cons r1 t1 =>
          cases h2 with
          | cons r2 t2 =>
            obtain ⟨t, rfl⟩ := r1
            obtain ⟨u, rfl⟩ := r2
            refine PySem.W.kat_cons (SeqAt.EqAt.int_int n t m u prog w _ _ ?_)
            refine PySem.W.kat_go (fun e1 => ?_) (fun e1 => ?_)
            · have ex : n = m := by simpa using e1
              subst ex
              refine PySem.W.kat_yes (kat_ints (i + 1) (L2.Vals.ints t1) (L2.Vals.ints t2) (by rw [hf]; simp) ?_)
              rw [HT.lexLt_cons, if_pos rfl] at q
              exact q
            · have ex : ¬ n = m := by simpa using e1
              rw [HT.lexLt_cons, if_neg ex] at q
              exact PySem.W.kat_no (TS.oneLt_ints _ q)
theorem row_cmp {vs : List Value} {k : Value → List Int} (hp : ∀ v ∈ vs, IsRow s.heap v (k v)) : Cmp prog w A s (tuples' true) (fun p => p.1 ∈ vs) (lt2 fun v u => HT.lexLt (k v) (k u)) := by
  intro p q hm hm'
  have h1 := hp _ hm
  have h2 := hp _ hm'
  show wpAny (model prog w) A (keyLt' (tuples' true) p.1 q.1) (fun r s' => s' = s ∧ r = HT.lexLt (k p.1) (k q.1)) (fun _ _ => False) s
  generalize k p.1 = x at h1 ⊢
  generalize k q.1 = y at h2 ⊢
  obtain ⟨a, us, e, ⟨o, ho, hc, n, hd⟩, hi⟩ := h1
  obtain ⟨a', us', e', ⟨o', ho', hc', n', hd'⟩, hi'⟩ := h2
  rw [e, e']
  refine PySem.W.kat_lt ho hd ho' hd' ?_
  refine kat_ints 0 hi hi' ?_ ⟨rfl, rfl⟩
  have l1 := hi.length
  have l2 := hi'.length
  simp [l1, l2]
theorem row_firsts {h : Heap} : ∀ {vs : List Value}, (∀ v ∈ vs, ∃ n ns, IsRow h v (n :: ns)) → ∃ fs : List Value, PySem.W.KatTups h vs fs ∧ fs.length = vs.length ∧ ∀ f ∈ fs, ∃ x t, f = Value.int x t
  | [], _ => ⟨[], PySem.W.KatTups.nil, rfl, fun _ hm => by simp at hm⟩
  | v :: vs, hp => by
    obtain ⟨fs, h1, h2, h3⟩ := row_firsts (vs := vs) fun v' hm => hp v' (List.mem_cons_of_mem _ hm)
    obtain ⟨x, ns, a, us, e, ⟨o, ho, hc, n, hd⟩, hi⟩ := hp v (List.mem_cons_self ..)
    subst e
    have hv := L2.vals_of_ints hi
    cases us with
    | nil => cases hv
    | cons u us =>
      cases hv with
      | cons r _ =>
        obtain ⟨t, rfl⟩ := r
        refine ⟨.int x t :: fs, PySem.W.KatTups.cons ho hc hd rfl h1, by rw [List.length_cons, List.length_cons, h2], fun f hm => ?_⟩
        rcases List.mem_cons.mp hm with z | z
        · exact ⟨x, t, z⟩
        · exact h3 f z
theorem rows_sortableO {a : Addr} {vs : List Value} {k : Value → List Int} (h0 : 0 < vs.length) (hp : ∀ v ∈ vs, IsRow s.heap v (k v)) (hne : ∀ v ∈ vs, k v ≠ []) (ha : ∀ o, s.heap.get? a = some o → o.cls ≠ .type "tuple") : SortableO prog w A s a vs fun v u => HT.lexLt (k v) (k u) := by
  intro h' keep
  have hp' : ∀ v ∈ vs, IsRow h' v (k v) := fun v hm => by
    obtain ⟨b, us, e, ⟨o, ho, hc, n, hd⟩, hi⟩ := hp v hm
    exact ⟨b, us, e, ⟨o, keep b o (fun z => by subst z; exact ha o ho hc) ho, hc, n, hd⟩, hi⟩
  obtain ⟨fs, h1, h2, h3⟩ := row_firsts (h := h') (vs := vs) fun v hm => by
    have := hp' v hm
    have hn := hne v hm
    generalize k v = x at this hn
    cases x with
    | nil => exact absurd rfl hn
    | cons n ns => exact ⟨n, ns, this⟩
  refine ⟨tuples' true, fun Q E hq => ?_, row_cmp hp'⟩
  refine PySem.W.kat_kind (T := .type "int") h1 (by omega) (fun f hm => ?_) (by rfl) ?_
  · obtain ⟨x, t, rfl⟩ := h3 f hm
    exact PySem.W.Looks.now
  · have e : (Value.type "int" != Value.type "tuple") = true := by first | decide +kernel | rfl | decide
    rw [e]
    exact hq
end
end SrtO
namespace TL
open PySem PySem.Spec PyProof.Rows L2
def RowsAt (K : PySem.W.Frag) (H : Hp) (rows : List (List Int)) (xs : List V) : Prop := Paired (fun ns x => ∃ t, x = V.ref t ∧ SqT K H t (ns.map V.int)) rows xs
def rSortedR (K : PySem.W.Frag) : List V → Hp → VK → Prop := fun vs H Q => ∃ (a : Addr) (xs : List V) (rows : List (List Int)), vs = [V.ref a] ∧ SqL K H a xs ∧ RowsAt K H rows xs ∧ (∀ r ∈ rows, r ≠ []) ∧
  ∀ ys p, RowsAt K H (sortRows rows) ys → H p = none → Q (.ref p) (upd H p (.lst ys))
theorem paired_mem {α β : Type} {F : α → β → Prop} : ∀ {l : List α} {m : List β}, Paired F l m → ∀ b ∈ m, ∃ a ∈ l, F a b
  | _, _, .nil, b, h => by simp at h
  | _, _, .cons r t, b, h => by
    rcases List.mem_cons.mp h with e | h
    · subst e; exact ⟨_, by simp, r⟩
    · obtain ⟨a, ha, f⟩ := paired_mem t b h
      exact ⟨a, by simp [ha], f⟩
theorem paired_map {α β γ : Type} {F : α → β → Prop} (g : γ → α) (k : γ → β) : ∀ {l : List γ}, (∀ c ∈ l, F (g c) (k c)) → Paired F (l.map g) (l.map k)
  | [], _ => .nil
  | c :: r, h => .cons (h c (by simp)) (paired_map g k fun d hd => h d (by simp [hd]))
section
variable {X : Cx}
theorem cr_sortedR : CallR X (.builtin "sorted") (rSortedR X.K) := by
  intro pins s σ H vs us Q I r h
  obtain ⟨a, xs, rows, rfl, hs, hr, hne, q⟩ := h
  obtain ⟨its, rv, hl, hz⟩ := I.list hs
  obtain ⟨u, rfl, ru⟩ := vals1 r
  obtain rfl : u = Value.ref a := ru
  obtain ⟨e1, e2⟩ := refs_back rv fun x m => by
    obtain ⟨ns, _, t, e, _⟩ := paired_mem hr x m
    exact ⟨t, e⟩
  have hrow : ∀ x ∈ xs, ∀ ns, (∃ t, x = V.ref t ∧ SqT X.K H t (ns.map V.int)) → ∀ u, RelV x u → SrtO.IsRow s.heap u ns := fun x _ ns ⟨t, e, hT⟩ u ru => by
    subst e
    cases (show u = Value.ref t from ru)
    obtain ⟨ts, rt, it, _⟩ := I.tuple hT
    exact ⟨t, ts, rfl, it, rt.ints⟩
  have hp : ∀ v ∈ its, SrtO.IsRow s.heap v (SrtO.rowOf s.heap v) ∧ SrtO.rowOf s.heap v ∈ rows := fun v hv => by
    obtain ⟨t, rfl⟩ := e2 v hv
    have hm : V.ref t ∈ xs := by rw [e1]; exact List.mem_map.mpr ⟨_, hv, rfl⟩
    obtain ⟨ns, hn, hx⟩ := paired_mem hr _ hm
    have w := hrow _ hm ns hx (.ref t) rfl
    rw [SrtO.rowOf_eq w]
    exact ⟨w, hn⟩
  have erows : its.map (SrtO.rowOf s.heap) = rows := by
    clear e1 hp
    have key : ∀ {rows : List (List Int)} {xs : List V} {its : List Value}, RowsAt X.K H rows xs → Vals xs its → its.map (SrtO.rowOf s.heap) = rows := by
      intro rows xs its hr
      induction hr generalizing its with
      | nil => intro rv; cases rv; rfl
      | cons h _ ih =>
        intro rv
        cases rv with
        | cons r rt =>
          rw [List.map_cons, ih rt]
          congr 1
          obtain ⟨t, e, hT⟩ := h
          subst e
          cases (show _ = Value.ref t from r)
          obtain ⟨ts, rt', it, _⟩ := I.tuple hT
          exact SrtO.rowOf_eq ⟨t, ts, rfl, it, rt'.ints⟩
    exact key hr rv
  refine SrtO.sorted_ord (SrtO.swo_row (SrtO.rowOf s.heap)) hl.isList (by rw [← rv.length]; exact hz) (fun h2 h₁ a' ha kk => ?_) fun out h1 h2 => ?_
  · refine SrtO.rows_sortableO (s := { s with heap := h₁ }) (by omega) (fun v hm => ?_) (fun v hm => hne _ (hp v hm).2) fun o e => ?_
    · obtain ⟨b, ws, e, it, hi⟩ := (hp v hm).1
      exact ⟨b, ws, e, it.keeps fun c o eo => (kk c o eo).2, hi⟩
    · have e' : some o = some _ := e.symm.trans ha
      cases e'
      intro c
      exact absurd (Value.type.inj c) (by decide)
  · have h3 : ∀ u ∈ out, ∃ a, u = Value.ref a := fun u hu => e2 u (h2.perm.mem_iff.mp hu)
    have esort : out.map (SrtO.rowOf s.heap) = sortRows rows := by
      refine srt_uniq (lt := HT.lexLt) (fun x y h k => lexLt_eq x y h k) ?_ ?_ (sortRows_srt rows)
      · rw [← erows]
        exact (h2.perm.map _).trans (sortRows_perm _).symm
      · exact List.pairwise_map.mpr h1
    have hys : RowsAt X.K H (sortRows rows) (out.map backV) := by
      rw [← esort]
      refine paired_map _ _ fun u hu => ?_
      have hm := h2.perm.mem_iff.mp hu
      obtain ⟨t, rfl⟩ := e2 u hm
      have hx : V.ref t ∈ xs := by rw [e1]; exact List.mem_map.mpr ⟨_, hm, rfl⟩
      obtain ⟨ns, hn, hxs⟩ := paired_mem hr _ hx
      have w := hrow _ hx ns hxs (.ref t) rfl
      rw [SrtO.rowOf_eq w]
      exact hxs
    obtain ⟨ep, he'⟩ := PyProof.Rows.sortedAll_at s.heap its out.toArray
    have hlen : (out.map backV).length ≤ sizeLine := by
      rw [List.length_map, h2.perm.length_eq, ← rv.length]
      exact hz
    exact ⟨.ref _, upd H (s.heap.objs.size + 1) (.lst (out.map backV)), I.laid (t' := s.toks) (fun _ _ => PyProof.Rows.sortedAll_old) (Nat.le_succ _) ⟨hlen, out, ep, vals_back h3, he'⟩, rfl, q _ _ hys (I.hok.fresh (Nat.le_succ _))⟩
def rowD (ns : List Int) : D := .tup (ns.map D.int)
def getRows : List D → Option (List (List Int))
  | [] => some []
  | .tup l :: r => (getInts l).bind fun ns => if ns.isEmpty then none else (getRows r).map (ns :: ·)
  | _ :: _ => none
theorem getRows_of : ∀ {rows : List (List Int)}, (∀ r ∈ rows, r ≠ []) → getRows (rows.map rowD) = some rows
  | [], _ => rfl
  | r :: rows, h => by
    have hr : r.isEmpty = false := by
      cases r with
      | nil => exact absurd rfl (h [] (by simp))
      | cons _ _ => rfl
    simp [getRows, rowD, hr]
    exact ⟨h r (by simp), getRows_of (rows := rows) fun x hx => h x (List.mem_cons_of_mem _ hx)⟩
theorem getRows_inv : ∀ {l : List D} {rows : List (List Int)}, getRows l = some rows → l = rows.map rowD ∧ ∀ r ∈ rows, r ≠ []
  | [], _, e => by cases e; exact ⟨rfl, by simp⟩
  | d :: r, rows, e => by
    cases d <;> first | (cases e; done) | skip
    rename_i l
    obtain ⟨ns, e1, e2⟩ := bindO (show (getInts l).bind _ = some rows from e)
    cases hn : ns with
    | nil => rw [hn] at e2; cases e2
    | cons n ns' =>
      rw [hn] at e2
      obtain ⟨rs, e3, e4⟩ := mapO (show (getRows r).map _ = some rows from e2)
      obtain ⟨h1, h2⟩ := getRows_inv e3
      subst e4
      refine ⟨?_, fun x hx => ?_⟩
      · rw [List.map_cons, ← h1, rowD, ← hn, getInts_map e1]
      · rcases List.mem_cons.mp hx with z | z
        · subst z; simp
        · exact h2 x z
def sortR : D → Option (List D)
  | .lst l => (getRows l).map fun rows => (sortRows rows).map rowD
  | _ => none
theorem rows_rf {K : PySem.W.Frag} {mg : Str → Option Value} {G : Hp} : ∀ {rows : List (List Int)} {vs : List V}, RowsAt K G rows vs → Rfs K mg G (rows.map rowD) vs
  | _, _, .nil => .nil
  | _, _, .cons ⟨t, e, h⟩ r => by
    subst e
    exact .cons (.tup h (Rfs.of_ints _)) (rows_rf r)
theorem rf_rows {K : PySem.W.Frag} {mg : Str → Option Value} {G : Hp} : ∀ {rows : List (List Int)} {vs : List V}, Rfs K mg G (rows.map rowD) vs → RowsAt K G rows vs
  | [], _, r => by cases r; exact .nil
  | ns :: rows, _, r => by
    cases r with
    | cons h r =>
      cases h with
      | tup hT q =>
        have := q.ints
        subst this
        exact .cons ⟨_, rfl, hT⟩ (rf_rows r)
theorem RowsAt.mono {K : PySem.W.Frag} {G G' : Hp} (e : Le G G') {rows : List (List Int)} {vs : List V} (h : RowsAt K G rows vs) : RowsAt K G' rows vs := Paired.mapP h fun _ _ ⟨t, a, b⟩ => ⟨t, a, e.seqT b⟩
/-- what a hidden heap shows of tuples that a whole heap shows -/
theorem RowsAt.hide {K : PySem.W.Frag} {S : List Addr} {H : Hp} (al : ∀ a ∈ S, ∃ o, H a = some o ∧ Own o) {rows : List (List Int)} {vs : List V} (h : RowsAt K H rows vs) : RowsAt K (hide S H) rows vs := Paired.mapP h fun _ _ ⟨t, a, b⟩ => by
  refine ⟨t, a, ?_⟩
  have hid : ∀ o, H t = some o → ¬ Own o → TL.hide S H t = some o := fun o e n => hide_some.mpr ⟨fun z => by
    obtain ⟨o', e', w⟩ := al t z
    rw [e] at e'; cases e'; exact n w, e⟩
  rcases b with (b | ⟨o, b⟩) | b
  · exact .inl (.inl (hid _ b fun z => z))
  · exact .inl (.inr ⟨o, hid _ b fun z => z⟩)
  · exact .inr b
theorem co_sortR : CaO X (rSortedR X.K) (f1L sortR) := co1 fun S H d1 d v1 Q al r1 e q => by
  cases d1 <;> first | (cases e; done) | skip
  rename_i l
  obtain ⟨rows, e1, rfl⟩ := mapO (show (getRows l).map _ = some d from e)
  obtain ⟨rfl, hne⟩ := getRows_inv e1
  obtain ⟨a, vs, rfl, h1, q1⟩ := r1.lst_inv
  exact ⟨a, vs, rows, rfl, .of h1, (rf_rows q1).mono (hide_le _ _), hne, fun ys p hy hp => q p H ys (Grow.refl H) hp (rows_rf (hy.hide al))⟩
def sortInts (ns : List Int) : List Int := ns.mergeSort fun a b => decide (a ≤ b)
theorem sortInts_perm (l : List Int) : (sortInts l).Perm l := List.mergeSort_perm _ _
theorem sortInts_srt (l : List Int) : (sortInts l).Pairwise (· ≤ ·) := by
  have := List.pairwise_mergeSort (le := fun a b : Int => decide (a ≤ b)) (fun a b c h1 h2 => by
    simp only [decide_eq_true_eq] at h1 h2 ⊢
    omega) (fun a b => by
    simp only [Bool.or_eq_true, decide_eq_true_eq]
    omega) l
  exact this.imp fun h => by simpa using h
theorem ints_uniq {l m : List Int} (p : l.Perm m) (h1 : l.Pairwise (· ≤ ·)) (h2 : m.Pairwise (· ≤ ·)) : l = m :=
  srt_uniq (lt := fun a b : Int => decide (a < b)) (fun x y a b => by
    have := of_decide_eq_false a
    have := of_decide_eq_false b
    omega) p (h1.imp fun h => decide_eq_false (by omega)) (h2.imp fun h => decide_eq_false (by omega))
def sortI : D → Option (List D)
  | .lst l => (getInts l).map fun ns => (sortInts ns).map D.int
  | _ => none
theorem co_sortI : CaO X (rSortedI X.K) (f1L sortI) := co1 fun S H d1 d v1 Q al r1 e q => by
  cases d1 <;> first | (cases e; done) | skip
  rename_i l
  obtain ⟨ns, e1, rfl⟩ := mapO (show (getInts l).map _ = some d from e)
  have := getInts_map e1
  subst this
  obtain ⟨a, vs, rfl, h1, q1⟩ := r1.lst_inv
  have := q1.ints
  subst this
  refine ⟨a, ns, rfl, .of h1, fun ns' p hp hs hn => ?_⟩
  rw [ints_uniq (hp.trans (sortInts_perm ns).symm) hs (sortInts_srt ns)]
  exact q p H _ (Grow.refl H) hn (Rfs.of_ints _)
end
/-! ### zip -/
def zipD (l m : List D) : List D := (l.zip m).map fun p => .tup [p.1, p.2]
def iZp (f : Af) : Itf := fun ρ => (f ρ).bind fun p => match p.1 with
  | [.v (.lst l), .v (.lst m)] => some (zipD l m, p.2)
  | [.v (.tup l), .v (.tup m)] => some (zipD l m, p.2)
  | _ => none
section
variable {K : PySem.W.Frag} {mg : Str → Option Value} {G : Hp}
theorem zip_get {l m : List D} {i : Nat} {d : D} (e : (zipD l m)[i]? = some d) : ∃ a b, l[i]? = some a ∧ m[i]? = some b ∧ d = .tup [a, b] := by
  unfold zipD at e
  rw [List.getElem?_map] at e
  cases h : (l.zip m)[i]? with
  | none => rw [h] at e; cases e
  | some p =>
    rw [h] at e
    cases e
    obtain ⟨a, b⟩ := p
    obtain ⟨h1, h2⟩ := List.getElem?_zip_eq_some.mp h
    exact ⟨a, b, h1, h2, rfl⟩
theorem walks_zipT {a b : Addr} {vs ws : List V} {l m : List D} (h : SqT K G a vs) (k : SqT K G b ws) (r : Rfs K mg G l vs) (q : Rfs K mg G m ws) : Walks K mg (RZ.ItzT K a b) (zipD l m) G := fun i S H al le => by
  have h1 : SqT K H a vs := (hide_le S H).seqT (le.seqT h)
  have k1 : SqT K H b ws := (hide_le S H).seqT (le.seqT k)
  refine ⟨fun d e => ?_, fun e => ?_⟩
  · obtain ⟨x, y, e1, e2, rfl⟩ := zip_get e
    obtain ⟨v, ev, rv⟩ := r.get e1
    obtain ⟨w, ew, rw'⟩ := q.get e2
    refine ⟨⟨vs, ws, v, w, h1, k1, ev, ew⟩, fun z H' ⟨T, v', w', ez, nT, eH, f1, f2⟩ => ?_⟩
    subst ez; subst eH
    have a1 := f1 vs h1
    have a2 := f2 ws k1
    rw [ev] at a1; cases a1
    rw [ew] at a2; cases a2
    exact ⟨Grow.upd nT, new_tup al nT (.cons (rv.mono le) (.one (rw'.mono le)))⟩
  · refine ⟨vs, ws, h1, k1, ?_⟩
    have := r.length
    have := q.length
    unfold zipD at e
    simp at e
    omega
theorem walks_zipL {a b : Addr} {vs ws : List V} {l m : List D} (h : G a = some (.lst vs)) (k : G b = some (.lst ws)) (r : Rfs K mg G l vs) (q : Rfs K mg G m ws) : Walks K mg (Itz K a b) (zipD l m) G := fun i S H al le => by
  have h1 : SqL K H a vs := .of (hide_le _ _ _ _ (le _ _ h))
  have k1 : SqL K H b ws := .of (hide_le _ _ _ _ (le _ _ k))
  refine ⟨fun d e => ?_, fun e => ?_⟩
  · obtain ⟨x, y, e1, e2, rfl⟩ := zip_get e
    obtain ⟨v, ev, rv⟩ := r.get e1
    obtain ⟨w, ew, rw'⟩ := q.get e2
    refine ⟨⟨vs, ws, v, w, h1, k1, ev, ew⟩, fun z H' ⟨T, v', w', ez, nT, eH, f1, f2⟩ => ?_⟩
    subst ez; subst eH
    have a1 := f1 vs h1
    have a2 := f2 ws k1
    rw [ev] at a1; cases a1
    rw [ew] at a2; cases a2
    exact ⟨Grow.upd nT, new_tup al nT (.cons (rv.mono le) (.one (rw'.mono le)))⟩
  · refine ⟨vs, ws, h1, k1, ?_⟩
    have := r.length
    have := q.length
    unfold zipD at e
    simp at e
    omega
end
section
variable {X : Cx} {γ : Gm} {τ : List Ty} {e e2 o : Expr} {es : List Expr} {p pos tpos : Pos} {elts : List Expr} {kk : Nat}
theorem di_zip {f : Af} (hg : Gl X "zip") (hm : X.mg "zip" = none) (ha : DA X [e, e2] τ f) (hs : starEach [e, e2] X.env = (false, eval e X.env) :: starEach [e2] X.env := by rfl) (hpl : (backTo pos (starEach [e2] X.env)).any (·.1) = false := by rfl) :
    DI X (.Tuple elts kk tpos) (.Call (.Name "zip" p) [e, e2] [] pos) τ (iZp f) := pi_imp (RZ.pi_zipA hg hm ha hs hpl) fun σ H Q ⟨R, ρ, fs, ds, ρ', s, eq, q⟩ => by
  obtain ⟨w, e1, e2⟩ := bindO eq
  obtain ⟨w1, w2⟩ := w
  simp only at e2
  refine ⟨R, ρ, fs, _, _, s, e1, fun vs H' fs' t s' r => ?_⟩
  split at e2
  · cases e2
    cases r with
    | cons r1 rs =>
      cases rs with
      | cons r2 rs =>
        cases rs
        cases r1 with
        | lst h1 q1 =>
          cases r2 with
          | lst h2 q2 => exact ⟨_, _, _, _, rfl, .inl ⟨.of (hide_le _ _ _ _ h1), .of (hide_le _ _ _ _ h2), q _ H' fs' t s' (walks_zipL h1 h2 q1 q2)⟩⟩
  · cases e2
    cases r with
    | cons r1 rs =>
      cases rs with
      | cons r2 rs =>
        cases rs
        cases r1 with
        | tup h1 q1 =>
          cases r2 with
          | tup h2 q2 => exact ⟨_, _, _, _, rfl, .inr ⟨(hide_le _ _).seqT h1, (hide_le _ _).seqT h2, q _ H' fs' t s' (walks_zipT h1 h2 q1 q2)⟩⟩
  · cases e2
/-! ### methods -/
def isLst : D → Bool
  | .lst _ => true
  | _ => false
def eMtL (g : D → List D → Option D) (f : Ef) (a : Af) : Ef := fun ρ => (f ρ).bind fun p => if isLst (p.1.res p.2) then (a p.2).bind fun q => (g (p.1.res q.2) (q.1.map fun h => h.res q.2)).bind fun d => some (.v d, q.2) else none
/-- a built-in type's method: list T is seen as one -/
theorem de_mtL {r : V → List V → Hp → VK → Prop} {g : D → List D → Option D} {f : Ef} {a : Af} {name : Str} {id : String} {apos cpos : Pos} (slot : Slot "list" name id) (hty : typeOf (.builtin id) = pure (.type "method_descriptor")) (hm : MtR X id r) (o' : MtD X "list" r g)
    (ho : DE X o τ f) (ha : DA X (e :: es) τ a)
    (hbase : attributeBase o name X.env (eval o X.env) = eval o X.env := by rfl)
    (hfew : ((backTo cpos (starEach (e :: es) X.env)).all (fun x => !x.1) && (backToKw cpos (keywordEach [] X.env)).all (fun x => x.1.isSome)
      && decide ((e :: es).length + ([] : List Keyword).length + (if ([] : List Keyword).isEmpty then 0 else 1) < 30)) = true := by rfl)
    (hline : (apos.endLine == cpos.line) = true := by rfl) (hs : starEach (e :: es) X.env = (false, eval e X.env) :: starEach es X.env := by rfl) (hplain : (backTo cpos (starEach es X.env)).any (·.1) = false := by rfl) :
    DE X (.Call (.Attribute o name apos) (e :: es) [] cpos) τ (eMtL g f a) := pe_imp (pe_bm PySem.F.plainAttrs_list slot hty hm ho ha hbase hfew hline hs hplain) fun σ H Q ⟨R, ρ, fs, h, ρ', s, eq, q⟩ => by
  obtain ⟨w, e1, e2⟩ := bindO eq
  obtain ⟨hl, e2⟩ := ifSomeO e2
  obtain ⟨z, e3, e4⟩ := bindO e2
  obtain ⟨d, e5, e6⟩ := bindO e4
  cases e6
  refine ⟨R, ρ, fs, w.1, w.2, s, e1, fun v H1 fs1 t1 s1 r1 => ⟨?_, R, w.2, fs1, z.1, z.2, s1, e3, fun vs H2 fs2 t2 s2 r2 => ?_⟩⟩
  · have rv := s1.res r1
    revert rv hl
    generalize w.1.res w.2 = dd
    intro hl rv
    cases dd <;> first | (cases hl; done) | skip
    obtain ⟨a, vs, rfl, h1, _⟩ := rv.lst_inv
    exact .inl ⟨rfl, _, .of h1⟩
  · exact o' (R ++ fs2) H2 _ _ _ v vs Q s2.own (s2.res (s1.holdH t2 r1)) (s2.ress r2) e5 fun v4 H4 g4 rf => q v4 H4 fs2 ((t1.trans t2).trans (Step.grow g4 _)) (s2.grow g4) rf
def indexD : D → List D → Option D
  | .lst l, [d] => if pyOk 39 d && l.all (pyOk 39) then (l.findIdx? fun z => dq z d).map fun j => .int (j : Nat) else none
  | _, _ => none
theorem pys_get : ∀ {l : List D} {i : Nat}, (pys l)[i]? = (l[i]?).map py
  | [], i => by simp [pys]
  | a :: r, 0 => by simp [pys]
  | a :: r, i + 1 => by simpa [pys] using pys_get (l := r) (i := i)
theorem mtd_index : MtD X "list" (rIndexD X.K) indexD := fun S H d1 ds d v1 vs Q al r1 rs e q => by
  match d1, ds, rs, e with
  | .lst l, [x], rs, e =>
    obtain ⟨v, rfl, r2⟩ := rs.one
    obtain ⟨h, e⟩ := ifSomeO (show (if pyOk 39 x && l.all (pyOk 39) then (l.findIdx? fun z => dq z x).map fun j => D.int (j : Nat) else none) = some d from e)
    rw [Bool.and_eq_true] at h
    obtain ⟨j, e1, rfl⟩ := mapO e
    obtain ⟨hj, e2, e3⟩ := List.findIdx?_eq_some_iff_getElem.mp e1
    have r1' := r1.dpL h.2
    obtain ⟨a, ws, rfl, h1, q1⟩ := r1.lst_inv
    have hall : ∀ i (hi : i < l.length), pyOk 39 l[i] = true := fun i hi => List.all_eq_true.mp h.2 _ (List.getElem_mem hi)
    refine ⟨a, v, py x, pys l, j, py l[j], rfl, rfl, r1', r2.dp h.1, shaped_of (d := .lst l) h.2, shaped_of39 h.1, ?_, ?_, fun m z' hm hz => ?_, q _ H (Grow.refl H) (.int _)⟩
    · rw [pys_get, List.getElem?_eq_getElem hj]; rfl
    · rw [eqv_dq 39 _ _ (hall j hj) h.1]; exact e2
    · rw [pys_get, List.getElem?_eq_getElem (by omega)] at hz
      cases hz
      rw [eqv_dq 39 _ _ (hall m (by omega)) h.1]
      have := e3 m hm
      simpa using this
/-! ### isinstance(x, (list, tuple)) -/
def eIsLT (f : Ef) : Ef := fun ρ => (f ρ).bind fun p => (isB .list (p.1.res p.2)).bind fun k => (isB .tuple (p.1.res p.2)).bind fun k' => some (.v (.bl (k || k')), p.2)
theorem de_isLT {f : Ef} {x : Str} {p2 p3 pt : Pos} {kt : Nat} (hg : Gl X x) (hm : X.mg x = none) (hv : bootBuiltins x = some (.builtin "isinstance")) (hgl : Gl X "list") (hml : X.mg "list" = none) (hvl : bootBuiltins "list" = some (.type "list")) (hgt : Gl X "tuple") (hmt : X.mg "tuple" = none) (hvt : bootBuiltins "tuple" = some (.type "tuple")) (he : DE X e τ f) (hn : x ≠ "__name__" := by decide) (hdb : (x == ("__debug__" : Str)) = false := by decide)
    (hs : starEach [e, .Tuple [.Name "list" p2, .Name "tuple" p3] kt pt] X.env = (false, eval e X.env) :: starEach [.Tuple [.Name "list" p2, .Name "tuple" p3] kt pt] X.env := by rfl) (hpl : (backTo pos (starEach [Expr.Tuple [.Name "list" p2, .Name "tuple" p3] kt pt] X.env)).any (·.1) = false := by rfl) :
    DE X (.Call (.Name x p) [e, .Tuple [.Name "list" p2, .Name "tuple" p3] kt pt] [] pos) τ (eIsLT f) :=
  pe_imp (pe_callB call_isiT hg hm hv (pa_cons he (pa_cons (pe_tup (pa_cons (pe_bltn (v := .ty "list") hgl hml hvl rfl) (pa_cons (pe_bltn (v := .ty "tuple") hgt hmt hvt rfl) pa_nil rfl) rfl)) pa_nil rfl) hs) hn hdb hs hpl) fun σ H Q ⟨R, ρ, fs, h, ρ', s, e, q⟩ => by
  obtain ⟨w, e1, e2⟩ := bindO e
  obtain ⟨k, e3, e4⟩ := bindO e2
  obtain ⟨k', e5, e6⟩ := bindO e4
  cases e6
  refine ⟨R, ρ, fs, w.1, w.2, s, e1, fun v H1 fs1 t1 s1 r => ⟨by decide, fun tp htp => ?_⟩⟩
  have g := Grow.upd (o := .tup [V.ty "list", V.ty "tuple"]) htp
  refine ⟨v, tp, [.ty "list", .ty "tuple"], .type (tyNm (w.1.res w.2)), [.type "list", .type "tuple"], k || k', rfl, upd_same, .cons (.ty "list") (.cons (.ty "tuple") .nil), ?_, ?_, ?_⟩
  · exact ((s1.grow g).res ((s1.holdH (Step.grow g fs1) r))).tyx e3
  · refine kitAny_cons (b := k) (kit_isB e3) (fun hk => ?_) (fun hk => by rw [hk]; rfl)
    refine kitAny_cons (b := k') (kit_isB e5) (fun hk' => ?_) (fun hk' => by rw [hk']; simp)
    rw [hk, hk']
    exact kitAny_nil
  · exact q _ _ fs1 (t1.trans (Step.grow g _)) (s1.grow g) (.bl _)
end
/-! ### constants of the module -/
structure KC (K : PySem.W.Frag) (m : Str → Option Value) (x : Str) (d : D) where
  v : V
  u : Value
  mg : m x = some u
  rl : RelV v u
  rf : ∀ G, Rf K m G d v
/-! ### a list of lists: o[i][j] = e, the indices quiet -/
abbrev Qf := Rho → Option D
def tQ (X : Cx) (τ : List Ty) (f : Qf) : TE := fun σ H Q => ∃ R ρ fs d, SR X.K X.mg R τ ρ σ H fs ∧ f ρ = some d ∧ ∀ v H', Grow H H' → Rf X.K X.mg (hide (R ++ fs) H') d v → Q v H'
abbrev DQ (X : Cx) (e : Expr) (τ : List Ty) (f : Qf) : Prop := PE X e (tQ X τ f)
def qVar (i : Nat) : Qf := fun ρ => some (ρ.getD i .non)
def qInt (n : Int) : Qf := fun _ => some (.int n)
section
variable {X : Cx} {γ : Gm} {τ : List Ty} {e ok ei ej : Expr} {p pp pos : Pos}
theorem dq_var {e : Expr} (i : Nat) (h : PE X e (tVar i)) (ht : τ[i]? = some .sh := by rfl) : DQ X e τ (qVar i) := pe_imp h fun σ H Q ⟨R, ρ, fs, d, s, e, q⟩ => by
  cases e
  obtain ⟨v, f, ev, r, _⟩ := s.get ht (by intro z; cases z)
  cases r with
  | sh r => exact ⟨v, ev, q v H (Grow.refl H) r⟩
theorem dq_int {i j} {pos : Pos} : DQ X (.Constant (.int i) j pos) τ (qInt i) := pe_imp pe_int fun σ H Q ⟨R, ρ, fs, d, s, e, q⟩ => by
  cases e
  exact q _ H (Grow.refl H) (.int _)
theorem Rps.split {K : PySem.W.Frag} {mg : Str → Option Value} {H G : Hp} : ∀ {ts : List Ty} {ds : List D} {vs : List V} {f : List Addr} {i : Nat} {t : Ty}, Rps K mg H G ts ds vs f → ts[i]? = some t →
    ∃ d v f1 fo f2, ds[i]? = some d ∧ vs[i]? = some v ∧ f = f1 ++ fo ++ f2 ∧ Rp K mg H G t d v fo ∧
      ∀ {H' G' : Hp} {d' : D} {fo' : List Addr}, (∀ a ∈ f1 ++ f2, H' a = H a) → Le G G' → Rp K mg H' G' t d' v fo' → Rps K mg H' G' ts (ds.set i d') vs (f1 ++ fo' ++ f2)
  | _, _, _, _, _, _, .nil, e => by simp at e
  | _, _, _, _, 0, t, .cons (d := d) (v := v) (f := f0) (g := g) h r, e => by
    simp at e
    subst e
    refine ⟨d, v, [], f0, g, rfl, rfl, by simp, h, fun {H' G' d' fo'} k le h' => ?_⟩
    exact .cons h' (r.mono le fun a ha => k a (by simpa using ha))
  | _, _, _, _, i + 1, t, .cons (d := d0) (v := v0) (f := f0) (g := g) h r, e => by
    obtain ⟨d, v, f1, fo, f2, e1, e2, ef, hp, k⟩ := Rps.split (i := i) r (by simpa using e)
    refine ⟨d, v, f0 ++ f1, fo, f2, by simpa using e1, by simpa using e2, by rw [ef]; simp, hp, fun {H' G' d' fo'} kk le h' => ?_⟩
    have := Rps.cons (h.mono le fun a ha => kk a (by simp [ha])) (k (fun a ha => kk a (by simp at ha ⊢; rcases ha with h | h <;> simp [h])) le h')
    simpa using this
def sSetIx2 (i : Nat) (f : Ef) (fi fj : Qf) : Sf := fun ρ => (f ρ).bind fun p => (fi p.2).bind fun di => (fj p.2).bind fun dj => match p.1, di, dj, p.2.getD i .non with
  | .v d, .int k, .int m, .lst l => (ixN l.length k).bind fun j => (l[j]?).bind fun c => match c with
      | .lst r => (setL r m d).bind fun r' => some (.nx (p.2.set i (.lst (l.set j (.lst r')))))
      | _ => none
  | _, _, _, _ => none
theorem sSetIx2_inv {i : Nat} {f : Ef} {fi fj : Qf} {ρ : Rho} {o : Out} (e : sSetIx2 i f fi fj ρ = some o) : ∃ d ρ1 k m l j r j2, f ρ = some (.v d, ρ1) ∧ fi ρ1 = some (.int k) ∧ fj ρ1 = some (.int m) ∧ ρ1.getD i .non = .lst l ∧ ixN l.length k = some j ∧ l[j]? = some (.lst r) ∧ ixN r.length m = some j2 ∧ o = .nx (ρ1.set i (.lst (l.set j (.lst (r.set j2 d))))) := by
  obtain ⟨p, e1, e2⟩ := bindO e
  obtain ⟨di, e3, e4⟩ := bindO e2
  obtain ⟨dj, e5, e6⟩ := bindO e4
  obtain ⟨p1, p2⟩ := p
  cases p1 with
  | x i => cases e6
  | v d =>
    cases di <;> first | (cases e6; done) | skip
    cases dj <;> first | (cases e6; done) | skip
    rename_i k m
    simp only at e6 e3 e5
    cases hl : p2.getD i .non <;> rw [hl] at e6 <;> first | (cases e6; done) | skip
    rename_i l
    obtain ⟨j, e7, e8⟩ := bindO e6
    obtain ⟨c, e9, e10⟩ := bindO e8
    cases c <;> first | (cases e10; done) | skip
    rename_i r
    obtain ⟨r', e11, e12⟩ := bindO e10
    obtain ⟨j2, e13, e14⟩ := bindO e11
    cases e14
    cases e12
    exact ⟨d, p2, k, m, l, j, r, j2, e1, e3, e5, hl, e7, e9, e13, rfl⟩
theorem ds_setix2 {f : Ef} {fi fj : Qf} (i : Nat) (he : DE X e τ f) (ho : PE X ok (tVar i)) (hi : DQ X ei τ fi) (hj : DQ X ej τ fj) (ht : τ[i]? = some (.oL (.oL .sh)) := by rfl) (hpl : PlainIx ei := by exact fun _ _ => rfl)
    (ha : ∀ v, assign (.Subscript (.Subscript ok ei pp) ej p) X.env v = (do
      let ov ← holding [v] (eval (.Subscript ok ei pp) X.env)
      let iv ← holding [v, ov] (eval ej X.env)
      standAt p
      holding [v, ov, iv] (setItem ov iv v)
      release [v, ov, iv] []) := by intro _; rfl)
    (hs : swapsWithSole [.Subscript (.Subscript ok ei pp) ej p] e pos.line X.env = pure false := by rfl) (hw : swappedStores [.Subscript (.Subscript ok ei pp) ej p] e X.env = pure none := by rfl)
    (h1 : (assignEach [.Subscript (.Subscript ok ei pp) ej p] X.env).map (·.2) = [assign (.Subscript (.Subscript ok ei pp) ej p) X.env] := by rfl) :
    DS X γ (.Assign [.Subscript (.Subscript ok ei pp) ej p] e pos) τ (sSetIx2 i f fi fj) τ := ps_imp (ps_asg he (pg_sub (pe_ix ix_list ho hi hpl) hj set_list ha) hs hw h1) fun D σ H ⟨R, ρ, fs, out, s, e, q⟩ => by
  obtain ⟨d, ρ1, k, m, l, j, r, j2, e1, e3, e5, hl, e7, e9, e13, rfl⟩ := sSetIx2_inv e
  obtain ⟨v0, f0, ev0, r0, _⟩ := s.get ht (by intro z; cases z)
  refine ⟨R, ρ, fs, _, _, s, e1, fun v H1 fs1 t1 s1 rv => ⟨v0, ev0, R, ρ1, fs1, _, s1, e3, fun vi H2 g2 ri => ?_⟩⟩
  cases ri
  have s2 := s1.grow g2
  have rv2 : Rf X.K X.mg (hide (R ++ fs1) H2) d v := Rf.mono (hide_grow _ g2) rv
  obtain ⟨f1, fo, f2, ef, hos, _, _, h2', _⟩ := s2.sl.split ht
  rcases hos with ⟨z, _⟩ | ⟨v1, ev1, r1⟩
  · cases z
  rw [ev0] at ev1; cases ev1
  rw [hl] at r1
  cases r1 with
  | @oL t a vs ds g h rs =>
    have hjl : j < l.length := (List.getElem?_eq_some_iff.mp e9).1
    obtain ⟨dd, vb, g1, go, g2', ed, evb, eg, rb, mkb⟩ := rs.split (i := j) (t := .oL .sh) (by rw [List.getElem?_replicate, if_pos hjl])
    rw [e9] at ed; cases ed
    cases rb with
    | @oL t b ws ds' gg hb rbs =>
      obtain ⟨rfb, egg⟩ := rbs.to_sh
      subst egg
      refine ⟨a, vs, k, .ref b, rfl, rfl, .of h, ?_, R, ρ1, fs1, _, s2, e5, fun vj H3 g3 rj => ?_⟩
      · unfold atI
        rw [← rs.len, e7]
        exact evb
      cases rj
      have hb3 := g3 _ _ hb
      refine ⟨b, ws, m, j2, rfl, rfl, hb3, by rw [← rfb.length]; exact e13, ?_⟩
      have s3 := s2.grow g3
      have nd := s3.nd
      have hbfs : b ∈ fs1 := by rw [ef, eg]; simp
      have hab : a ≠ b := fun z => by
        rw [ef, eg] at nd
        simp only [List.nodup_append, List.nodup_cons, List.mem_append, List.mem_cons] at nd
        exact nd.2.1.1.2.1.1 (.inl (.inr (.inl z)))
      have le : Le (hide (R ++ fs1) H2) (hide (R ++ fs1) (upd H3 b (.lst (ws.set j2 v)))) := (hide_grow _ g3).trans (hide_mono fun c u n e => ⟨n, by rw [upd_ne fun z => n (by rw [z]; exact List.mem_append_right _ hbfs)]; exact e⟩)
      have keepF : ∀ c ∈ fs1, c ≠ b → upd H3 b (.lst (ws.set j2 v)) c = H2 c := fun c hc z => by
        obtain ⟨u, eu, _⟩ := s2.sl.there c hc
        rw [upd_ne z, eu]
        exact g3 _ _ eu
      have nin : ∀ c ∈ g1 ++ g2', c ≠ b := fun c hc z => by
        subst z
        rw [ef, eg] at nd
        simp only [List.nodup_append, List.nodup_cons, List.mem_append, List.mem_cons] at nd
        rcases List.mem_append.mp hc with hc | hc
        · exact nd.2.1.1.2.1.2.1.2.2 c hc c (.inl rfl) rfl
        · exact nd.2.1.1.2.1.2.2.2 c (.inr (.inl rfl)) c hc rfl
      have nin2 : ∀ c ∈ f1 ++ f2, c ≠ b := fun c hc z => by
        subst z
        rw [ef, eg] at nd
        simp only [List.nodup_append, List.nodup_cons, List.mem_append, List.mem_cons] at nd
        rcases List.mem_append.mp hc with hc | hc
        · exact nd.2.1.1.2.2 c hc c (.inr (.inl (.inr (.inl rfl)))) rfl
        · exact nd.2.1.2.2 c (.inr (.inr (.inl (.inr (.inl rfl))))) c hc rfl
      have rbn : Rp X.K X.mg (upd H3 b (.lst (ws.set j2 v))) (hide (R ++ fs1) (upd H3 b (.lst (ws.set j2 v)))) (.oL .sh) (.lst (r.set j2 d)) (.ref b) [b] := .oL upd_same (Rps.of_sh ((rfb.set j2 rv2).mono le))
      have rsn := mkb (fun c hc => keepF c (by rw [ef, eg]; simp only [List.mem_append, List.mem_cons] at hc ⊢; rcases hc with h | h <;> simp [h]) (nin c hc)) le rbn
      have ra : Rp X.K X.mg (upd H3 b (.lst (ws.set j2 v))) (hide (R ++ fs1) (upd H3 b (.lst (ws.set j2 v)))) (.oL (.oL .sh)) (.lst (l.set j (.lst (r.set j2 d)))) (.ref a) (a :: g) := by
        refine .oL (vs := vs) ?_ ?_
        · rw [upd_ne hab]; exact g3 _ _ h
        · rw [List.length_set, eg]; exact rsn
      have sl' := h2' (H' := upd H3 b (.lst (ws.set j2 v))) (fun c hc => keepF c (by rw [ef]; simp only [List.mem_append, List.mem_cons] at hc ⊢; rcases hc with h | h <;> simp [h]) (nin2 c hc)) le ev0 ra
      rw [set_at ht, ← ef] at sl'
      refine q σ _ fs1 (t1.trans ((Step.grow (g2.trans g3) fs1).trans ⟨fun c u n e => ?_, fun c hc => .inl hc, fun c u e => ?_⟩)) (Kp.refl _ _) ⟨sl', nd, fun c hc => ?_⟩
      · rw [upd_ne fun z => n (by rw [z]; exact hbfs)]; exact e
      · by_cases z : c = b
        · exact ⟨_, by rw [z, upd_same]⟩
        · exact ⟨u, by rw [upd_ne z]; exact e⟩
      · obtain ⟨u, eu, w⟩ := s3.al c hc
        exact ⟨u, by rw [upd_ne fun z => (List.nodup_append.mp nd).2.2 c hc b hbfs z]; exact eu, w⟩
end
end TL

namespace TL
open PySem PySem.Spec PyProof.Rows L2

def spL (K : PySem.W.Frag) : Sp := fun vs H Q _ => ∃ (a : Addr) (ns : List Int), vs = [.ref a] ∧ SqL K H a (ns.map V.int) ∧ ns.length ≤ 63 ∧ ∀ H', Q (.bl true) H'
theorem law_imp {K : PySem.W.Frag} {mg : Str → Option Value} {F : Fm} (h : lawF F) : ∀ vs H Q E, spL K vs H Q E → spD K mg sgL F vs H Q E := fun vs H Q E ⟨a, ns, ev, hS, hl, q⟩ => by
  subst ev
  obtain ⟨r, e⟩ := h ns hl
  refine ⟨[], [.scr ns], [], .bl true, r, ⟨.cons (f := []) (g := []) (.sh (.scr ?_)) .nil, List.nodup_nil, fun a ha => nomatch ha⟩, e, fun v H' fs' fv _ _ rp => ?_⟩
  · have eq : hide [] H = H := by funext a; simp [hide]
    rw [show ([] : List Addr) ++ [] = [] from rfl, eq]
    exact hS
  · cases rp with
    | sh rf => cases rf; exact q H'
theorem toL {P : Program} {w : World} {K : PySem.W.Frag} {mg : Str → Option Value} {fa : Addr} {k : Nat} {F : Fm} {B : FuncData → Prop} (h : lawF F)
    (x : ∃ fd : FuncData, B fd ∧ ∀ base : Heap, K.In base → base.Ns mainGlobals mg → FnOk P w K mg base CX0 k fa fd ["script"] (spD K mg sgL F)) :
    ∃ fd : FuncData, B fd ∧ ∀ base : Heap, K.In base → base.Ns mainGlobals mg → FnOk P w K mg base CX0 k fa fd ["script"] (spL K) := by
  obtain ⟨fd, b, f⟩ := x
  exact ⟨fd, b, fun base h1 h2 => (f base h1 h2).imp (law_imp h)⟩
theorem Cal.none {P : Program} {w : World} {K : PySem.W.Frag} {mg : Str → Option Value} {base : Heap} {f : Addr} {fd : FuncData} {x : Str} {st : Stmt} {k : Nat} {ps : List Str} {sg : Sg} (D : Dfn K mg x st ps f fd) : Cal P w K mg base f fd x k ps sg (fun _ => none) :=
  ⟨{ len := fun vs H Q E h => (by obtain ⟨_, _, _, _, _, _, e, _⟩ := h; cases e), run := fun A outer s H args us vs Q E _ _ _ _ h => (by obtain ⟨_, _, _, _, _, _, e, _⟩ := h; cases e) }, D.mg, D.fn.kp, D.bd, fun ds r e => by cases e⟩
end TL

namespace TL
open PySem PySem.Spec PyProof.Rows L2

section ev
variable (ρ : Rho) (f f' f'' : Ef) (t t' : Tf) (g : Af) (b b' : Sf) (o : Of)
@[simp] theorem v_eC (d : D) : eC d ρ = some (.v d, ρ) := rfl
@[simp] theorem v_eVar (i : Nat) : eVar i ρ = some (.v (ρ.getD i .non), ρ) := rfl
@[simp] theorem v_eOwn (i : Nat) : eOwn i ρ = some (.x i, ρ) := rfl
@[simp] theorem v_res (d : D) : Hd.res (.v d) ρ = d := rfl
@[simp] theorem x_res (i : Nat) : Hd.res (.x i) ρ = ρ.getD i .non := rfl
@[simp] theorem v_eBin (k : D → D → Option D) : eBin k f f' ρ = (f ρ).bind fun p => (f' p.2).bind fun q => (k (p.1.res q.2) (q.1.res q.2)).bind fun d => some (.v d, q.2) := rfl
@[simp] theorem v_eBinO (k : D → D → Option (List D)) : eBinO k f f' ρ = (f ρ).bind fun p => (f' p.2).bind fun q => (k (p.1.res q.2) (q.1.res q.2)).bind fun d => some (.lst d, q.2) := rfl
@[simp] theorem v_eF : eF o ρ = (o ρ).bind fun p => some (.v p.1, p.2) := rfl
@[simp] theorem v_tB : tB f ρ = (f ρ).bind fun p => (truthD (p.1.res p.2)).bind fun k => some (k, p.2) := rfl
def blOf (p : Hd × Rho) : Option (Bool × Rho) := match p.1 with
  | .v (.bl k) => some (k, p.2)
  | _ => none
@[simp] theorem v_blOf (k : Bool) : blOf (.v (.bl k), ρ) = some (k, ρ) := rfl
@[simp] theorem v_tBl : tBl f ρ = (f ρ).bind blOf := rfl
@[simp] theorem v_tAnd : tAnd' t t' ρ = (t ρ).bind fun p => if p.1 then t' p.2 else some (false, p.2) := rfl
@[simp] theorem v_tOr : tOr' t t' ρ = (t ρ).bind fun p => if p.1 then some (true, p.2) else t' p.2 := rfl
@[simp] theorem v_tNot : tNot' t ρ = (t ρ).bind fun p => some (!p.1, p.2) := rfl
@[simp] theorem v_tYes : tYesF ρ = some (true, ρ) := rfl
@[simp] theorem v_eAnd : eAnd f f' ρ = (f ρ).bind fun p => (truthD (p.1.res p.2)).bind fun k => if k then f' p.2 else some p := rfl
@[simp] theorem v_eOr : eOr f f' ρ = (f ρ).bind fun p => (truthD (p.1.res p.2)).bind fun k => if k then some p else f' p.2 := rfl
@[simp] theorem v_eNot : eNot f ρ = (f ρ).bind fun p => (truthD (p.1.res p.2)).bind fun k => some (.v (.bl (!k)), p.2) := rfl
@[simp] theorem v_eIf : eIf t f f' ρ = (t ρ).bind fun p => if p.1 then f p.2 else f' p.2 := rfl
def chain2 (k' : D → D → Option D) (q : Hd × Rho) (r : Ef) : D → Option (Hd × Rho)
  | .bl true => (r q.2).bind fun r => (k' (q.1.res r.2) (r.1.res r.2)).bind fun d' => some (.v d', r.2)
  | .bl false => some (.v (.bl false), q.2)
  | _ => none
@[simp] theorem v_chain2 (k' : D → D → Option D) (q : Hd × Rho) (r : Ef) (c : Bool) : chain2 k' q r (.bl c) = if c then (r q.2).bind fun r => (k' (q.1.res r.2) (r.1.res r.2)).bind fun d' => some (.v d', r.2) else some (.v (.bl false), q.2) := by
  cases c <;> rfl
@[simp] theorem v_eChain (k k' : D → D → Option D) : eChain k k' f f' f'' ρ = (f ρ).bind fun p => (f' p.2).bind fun q => (k (p.1.res q.2) (q.1.res q.2)).bind (chain2 k' q f'') := by
  unfold eChain
  congr 1
@[simp] theorem v_aNil : aNil ρ = some ([], ρ) := rfl
@[simp] theorem v_aCons : aCons f g ρ = (f ρ).bind fun p => (g p.2).bind fun q => some (p.1 :: q.1, q.2) := rfl
@[simp] theorem v_hv0 : hvals [] = some [] := rfl
@[simp] theorem v_hv1 (d : D) (r : List Hd) : hvals (.v d :: r) = (hvals r).bind fun ds => some (d :: ds) := rfl
@[simp] theorem v_eTup : eTup g ρ = (g ρ).bind fun p => (hvals p.1).bind fun ds => if okLen ds.length then some (.v (.tup ds), p.2) else none := rfl
@[simp] theorem v_oLst : oLst g ρ = (g ρ).bind fun p => (hvals p.1).bind fun ds => if okLen ds.length then some (.lst ds, p.2) else none := rfl
@[simp] theorem v_eUn (k : D → Option D) : eUn k f ρ = (f ρ).bind fun p => (k (p.1.res p.2)).bind fun d => some (.v d, p.2) := rfl
@[simp] theorem v_eCa (k : List D → Option D) : eCa k g ρ = (g ρ).bind fun p => (k (p.1.map fun h => h.res p.2)).bind fun d => some (.v d, p.2) := rfl
@[simp] theorem v_oCa (k : List D → Option (List D)) : oCa k g ρ = (g ρ).bind fun p => (k (p.1.map fun h => h.res p.2)).bind fun d => some (.lst d, p.2) := rfl
@[simp] theorem v_f1 (k : D → Option D) (d : D) : f1 k [d] = k d := rfl
@[simp] theorem v_f1L (k : D → Option (List D)) (d : D) : f1L k [d] = k d := rfl
@[simp] theorem v_f2 (k : D → D → Option D) (d e : D) : f2 k [d, e] = k d e := rfl
@[simp] theorem v_pNo : pNo ρ = some (none, ρ) := rfl
def ptOf (p : Hd × Rho) : Option (Option Int × Rho) := match p.1 with
  | .v (.int i) => some (some i, p.2)
  | _ => none
@[simp] theorem v_ptOf (i : Int) : ptOf (.v (.int i), ρ) = some (some i, ρ) := rfl
@[simp] theorem v_pSome : pSome f ρ = (f ρ).bind ptOf := rfl
@[simp] theorem v_eSl (k : D → Option Int → Option Int → Option D) (lo hi : Pf) : eSl k f lo hi ρ = (f ρ).bind fun p => (lo p.2).bind fun l => (hi l.2).bind fun h => (k (p.1.res h.2) l.1 h.1).bind fun d => some (.v d, h.2) := rfl
@[simp] theorem v_oSl (k : D → Option Int → Option Int → Option (List D)) (lo hi : Pf) : oSl k f lo hi ρ = (f ρ).bind fun p => (lo p.2).bind fun l => (hi l.2).bind fun h => (k (p.1.res h.2) l.1 h.1).bind fun d => some (.lst d, h.2) := rfl
@[simp] theorem v_eIsI (bt : Bt) : eIsI bt f ρ = (f ρ).bind fun p => (isB bt (p.1.res p.2)).bind fun k => some (.v (.bl k), p.2) := rfl
@[simp] theorem v_eIsLT : eIsLT f ρ = (f ρ).bind fun p => (isB .list (p.1.res p.2)).bind fun k => (isB .tuple (p.1.res p.2)).bind fun k' => some (.v (.bl (k || k')), p.2) := rfl
@[simp] theorem v_eMtL (k : D → List D → Option D) : eMtL k f g ρ = (f ρ).bind fun p => if isLst (p.1.res p.2) then (g p.2).bind fun q => (k (p.1.res q.2) (q.1.map fun h => h.res q.2)).bind fun d => some (.v d, q.2) else none := rfl
def oeOf (p : Hd × Rho) : Option (D × Rho) := match p.1 with
  | .v d => some (d, p.2)
  | _ => none
@[simp] theorem v_oeOf (d : D) : oeOf (.v d, ρ) = some (d, ρ) := rfl
@[simp] theorem v_oE : oE f ρ = (f ρ).bind oeOf := rfl
@[simp] theorem v_oCall (F : Fm) : oCall F g ρ = (g ρ).bind fun p => (hvals p.1).bind fun ds => (F ds).bind fun r => some (r.1, p.2) := rfl
@[simp] theorem v_oCallB (ty : Ty) (F : Fm) : oCallB ty F g ρ = (g ρ).bind fun p => (F (p.1.map fun h => h.res p.2)).bind fun r => if immR ty r.1 then some (r.1, p.2) else none := rfl
@[simp] theorem v_oCallI (F : Fm) (i j : Nat) : oCallI F i j g ρ = (g ρ).bind fun p => (hvI i p.1 j p.2).bind fun ds => (F ds).bind fun r => some (r.1, p.2.set i (r.2.getD j .non)) := rfl
@[simp] theorem v_hvI (i : Nat) (r : List Hd) : hvI i (.x i :: r) 0 ρ = (hvals r).bind fun ds => some (ρ.getD i .non :: ds) := by simp [hvI]
@[simp] theorem v_hvI1 (i j : Nat) (d : D) (r : List Hd) : hvI i (.v d :: r) (j + 1) ρ = (hvI i r j ρ).bind fun ds => some (d :: ds) := rfl
/-! statements -/
@[simp] theorem v_sNil : sNil ρ = some (.nx ρ) := rfl
def andThen (b : Sf) : Out → Option Out
  | .nx ρ => b ρ
  | o => some o
@[simp] theorem v_then_nx : andThen b (.nx ρ) = b ρ := rfl
@[simp] theorem v_then_rt (d : D) : andThen b (.rt d ρ) = some (.rt d ρ) := rfl
@[simp] theorem v_then_bk : andThen b (.bk ρ) = some (.bk ρ) := rfl
@[simp] theorem v_then_ct : andThen b (.ct ρ) = some (.ct ρ) := rfl
@[simp] theorem v_sSeq : sSeq b b' ρ = (b ρ).bind (andThen b') := by
  unfold sSeq
  congr 1
def thenKl (ks : List Nat) : Out → Option Out
  | .nx ρ => some (.nx (kill ks ρ))
  | o => some o
@[simp] theorem v_thenKl_nx (ks : List Nat) : thenKl ks (.nx ρ) = some (.nx (kill ks ρ)) := rfl
@[simp] theorem v_thenKl_rt (ks : List Nat) (d : D) : thenKl ks (.rt d ρ) = some (.rt d ρ) := rfl
@[simp] theorem v_thenKl_bk (ks : List Nat) : thenKl ks (.bk ρ) = some (.bk ρ) := rfl
@[simp] theorem v_thenKl_ct (ks : List Nat) : thenKl ks (.ct ρ) = some (.ct ρ) := rfl
@[simp] theorem v_sKl (ks : List Nat) : sKl ks b ρ = (b ρ).bind (thenKl ks) := by
  unfold sKl
  congr 1
@[simp] theorem v_sKb (ks : List Nat) : sKb ks b ρ = b (kill ks ρ) := rfl
@[simp] theorem v_sPass : sPass ρ = some (.nx ρ) := rfl
@[simp] theorem v_sBrk : sBrk ρ = some (.bk ρ) := rfl
@[simp] theorem v_sCont : sCont ρ = some (.ct ρ) := rfl
def rtOf (p : Hd × Rho) : Option Out := match p.1 with
  | .v d => some (.rt d p.2)
  | _ => none
@[simp] theorem v_rtOf (d : D) : rtOf (.v d, ρ) = some (.rt d ρ) := rfl
@[simp] theorem v_sRet : sRet f ρ = (f ρ).bind rtOf := rfl
@[simp] theorem v_sRetO : sRetO o ρ = (o ρ).bind fun p => some (.rt p.1 p.2) := rfl
@[simp] theorem v_sRetX (i : Nat) : sRetX i ρ = some (.rt (ρ.getD i .non) ρ) := rfl
@[simp] theorem v_sRetN : sRetN ρ = some (.rt .non ρ) := rfl
@[simp] theorem v_sIf : sIf t b b' ρ = (t ρ).bind fun p => if p.1 then b p.2 else b' p.2 := rfl
@[simp] theorem v_gNm (i : Nat) (d : D) : gNm i d ρ = some (ρ.set i d) := rfl
@[simp] theorem v_gsNil : gsNil [] ρ = some ρ := rfl
@[simp] theorem v_gsCons (k : Gf) (h : List D → Rho → Option Rho) (d : D) (r : List D) : gsCons k h (d :: r) ρ = (k d ρ).bind fun ρ' => h r ρ' := rfl
@[simp] theorem v_gTp (k : List D → Rho → Option Rho) (ds : List D) : gTp k (.tup ds) ρ = k ds ρ := rfl
def asgOf (k : Gf) (p : Hd × Rho) : Option Out := match p.1 with
  | .v d => (k d p.2).bind fun ρ' => some (.nx ρ')
  | _ => none
@[simp] theorem v_asgOf (k : Gf) (d : D) : asgOf k (.v d, ρ) = (k d ρ).bind fun ρ' => some (.nx ρ') := rfl
@[simp] theorem v_sAsg (k : Gf) : sAsg f k ρ = (f ρ).bind (asgOf k) := rfl
@[simp] theorem v_sSetO (i : Nat) : sSetO i o ρ = (o ρ).bind fun p => some (.nx (p.2.set i p.1)) := rfl
def appOf (i : Nat) (p : Hd × Rho) : Option Out := match p.1, p.2.getD i .non with
  | .v d, .lst l => if okLen (l.length + 1) then some (.nx (p.2.set i (.lst (l ++ [d])))) else none
  | _, _ => none
theorem v_appOf (i : Nat) (d : D) (l : List D) (h : ρ.getD i .non = .lst l) : appOf i (.v d, ρ) = if okLen (l.length + 1) then some (.nx (ρ.set i (.lst (l ++ [d])))) else none := by
  unfold appOf; simp only [h]
@[simp] theorem v_sApp (i : Nat) : sApp i f ρ = (f ρ).bind (appOf i) := rfl
def setIxOf (i : Nat) (fk : Ef) : Hd × Rho → Option Out := fun p => (fk p.2).bind fun q => match p.1, q.1, q.2.getD i .non with
  | .v d, .v (.int k), .lst l => (setL l k d).bind fun l' => some (.nx (q.2.set i (.lst l')))
  | _, _, _ => none
theorem v_setIxOf (i : Nat) (fk : Ef) (d : D) (k : Int) (ρ' : Rho) (l : List D) (h : fk ρ = some (.v (.int k), ρ')) (h' : ρ'.getD i .non = .lst l) : setIxOf i fk (.v d, ρ) = (setL l k d).bind fun l' => some (.nx (ρ'.set i (.lst l'))) := by
  unfold setIxOf; simp only [h, Option.bind_some, h']
@[simp] theorem v_sSetIx (i : Nat) (fk : Ef) : sSetIx i f fk ρ = (f ρ).bind (setIxOf i fk) := rfl
@[simp] theorem v_lNil : lNil ρ = some ([], ρ) := rfl
@[simp] theorem v_lCons (h : Lf) : lCons o h ρ = (o ρ).bind fun p => (h p.2).bind fun q => some (p.1 :: q.1, q.2) := rfl
def parOf (i j : Nat) : List D × Rho → Option Out
  | ([a, b], ρ) => some (.nx ((ρ.set i a).set j b))
  | _ => none
@[simp] theorem v_parOf (i j : Nat) (a b : D) : parOf i j ([a, b], ρ) = some (.nx ((ρ.set i a).set j b)) := rfl
@[simp] theorem v_sPar (i j : Nat) (h : Lf) : sPar i j h ρ = (h ρ).bind (parOf i j) := by
  unfold sPar
  congr 1; funext p; obtain ⟨p1, p2⟩ := p; unfold parOf; split <;> simp_all
def parOf3 (i j l : Nat) : List D × Rho → Option Out
  | ([a, b, c], ρ) => some (.nx (((ρ.set i a).set j b).set l c))
  | _ => none
@[simp] theorem v_parOf3 (i j l : Nat) (a b c : D) : parOf3 i j l ([a, b, c], ρ) = some (.nx (((ρ.set i a).set j b).set l c)) := rfl
@[simp] theorem v_sPar3 (i j l : Nat) (h : Lf) : sPar3 i j l h ρ = (h ρ).bind (parOf3 i j l) := by
  unfold sPar3
  congr 1; funext p; obtain ⟨p1, p2⟩ := p; unfold parOf3; split <;> simp_all
/-! walks -/
@[simp] theorem v_seqL (l : List D) : seqD (.v (.lst l)) = some l := rfl
@[simp] theorem v_seqT (l : List D) : seqD (.v (.tup l)) = some l := rfl
@[simp] theorem v_iSeq : iSeq f ρ = (f ρ).bind fun p => (seqD p.1).bind fun l => some (l, p.2) := rfl
def rng1Of : List Hd × Rho → Option (List D × Rho)
  | ([.v (.int j)], ρ) => if small62 j then some (intsD 0 j.toNat, ρ) else none
  | _ => none
@[simp] theorem v_rng1Of (j : Int) (h : small62 j = true) : rng1Of ([.v (.int j)], ρ) = some (intsD 0 j.toNat, ρ) := by
  simp only [rng1Of, h, if_true]
@[simp] theorem v_iRng1 : TL.iRng1 g ρ = (g ρ).bind rng1Of := by
  unfold TL.iRng1
  congr 1; funext p; obtain ⟨p1, p2⟩ := p; unfold rng1Of; split <;> simp_all
def rng2Of : List Hd × Rho → Option (List D × Rho)
  | ([.v (.int i), .v (.int j)], ρ) => if small62 i && small62 j then some (intsD i (j - i).toNat, ρ) else none
  | _ => none
@[simp] theorem v_rng2Of (i j : Int) (h : small62 i = true) (h' : small62 j = true) : rng2Of ([.v (.int i), .v (.int j)], ρ) = some (intsD i (j - i).toNat, ρ) := by
  simp only [rng2Of, h, h', Bool.and_self, if_true]
@[simp] theorem v_iRng2 : TL.iRng2 g ρ = (g ρ).bind rng2Of := by
  unfold TL.iRng2
  congr 1; funext p; obtain ⟨p1, p2⟩ := p; unfold rng2Of; split <;> simp_all
def zpOf : List Hd × Rho → Option (List D × Rho)
  | ([.v (.lst l), .v (.lst m)], ρ) => some (zipD l m, ρ)
  | ([.v (.tup l), .v (.tup m)], ρ) => some (zipD l m, ρ)
  | _ => none
@[simp] theorem v_zpL (l m : List D) : zpOf ([.v (.lst l), .v (.lst m)], ρ) = some (zipD l m, ρ) := rfl
@[simp] theorem v_zpT (l m : List D) : zpOf ([.v (.tup l), .v (.tup m)], ρ) = some (zipD l m, ρ) := rfl
@[simp] theorem v_iZp : iZp g ρ = (g ρ).bind zpOf := by
  unfold iZp
  congr 1; funext p; obtain ⟨p1, p2⟩ := p; unfold zpOf; split <;> simp_all
/-- one round of a loop -/
def stepB (k : Gf) (b : Sf) (d : D) (ρ : Rho) : Option Out := (k d ρ).bind b
@[simp] theorem v_stepB (k : Gf) (d : D) : stepB k b d ρ = (k d ρ).bind b := rfl
@[simp] theorem v_sFor (ks : List Nat) (it : Itf) (k : Gf) : sFor ks it k b ρ = (it ρ).bind fun p => loopF (stepB k b) ks p.1 (kill ks p.2) := rfl
@[simp] theorem v_stepLc (own : List Nat) (k : Gf) (el : Of) (d : D) : stepLc own k t el d ρ = (k d ρ).bind fun ρ1 => (t ρ1).bind fun p => if p.1 then (el p.2).bind fun q => some (some q.1, kill own q.2) else some (none, kill own p.2) := rfl
@[simp] theorem v_oLc (own : List Nat) (it : Itf) (k : Gf) (el : Of) : oLc own it k t el ρ = (it ρ).bind fun p => if okLen p.1.length then (lcF (stepLc own k t el) p.1 p.2).bind fun r => some (.lst r.1, r.2) else none := rfl
@[simp] theorem v_kill0 : kill [] ρ = ρ := rfl
@[simp] theorem v_kill1 (k : Nat) (ks : List Nat) : kill (k :: ks) ρ = kill ks (ρ.set k .non) := rfl
end ev

/-! ### values -/
@[simp] theorem d_add (i j : Int) : dAdd (.int i) (.int j) = some (.int (i + j)) := rfl
@[simp] theorem d_sub (i j : Int) : dSub (.int i) (.int j) = some (.int (i - j)) := rfl
@[simp] theorem d_lt (i j : Int) : dLt (.int i) (.int j) = some (.bl (decide (i < j))) := rfl
@[simp] theorem d_le (i j : Int) : dLe (.int i) (.int j) = some (.bl (decide (i ≤ j))) := rfl
@[simp] theorem d_gt (i j : Int) : dGt (.int i) (.int j) = some (.bl (decide (j < i))) := rfl
@[simp] theorem d_ge (i j : Int) : dGe (.int i) (.int j) = some (.bl (decide (j ≤ i))) := rfl
@[simp] theorem d_mod (i j : Int) : dMod (.int i) (.int j) = if decide (0 < j) then some (.int (i % j)) else none := rfl
@[simp] theorem d_div (i j : Int) : dDiv (.int i) (.int j) = if decide (0 < j) && sm j then some (.int (i / j)) else none := rfl
@[simp] theorem d_mul (i j : Int) : dMul (.int i) (.int j) = if sm i && sm j then some (.int (i * j)) else none := rfl
@[simp] theorem d_neg (i : Int) : dNeg (.int i) = some (.int (-i)) := rfl
@[simp] theorem d_is0 (a : D) : dIs a .non = some (.bl (isNonD a)) := by cases a <;> rfl
@[simp] theorem d_isb (a b : Bool) : dIs (.bl a) (.bl b) = some (.bl (decide (a = b))) := rfl
@[simp] theorem d_isNot0 (a : D) : dIsNot a .non = some (.bl (!isNonD a)) := by cases a <;> rfl
@[simp] theorem d_isNotb (a b : Bool) : dIsNot (.bl a) (.bl b) = some (.bl (!decide (a = b))) := rfl
@[simp] theorem d_nn : isNonD .non = true := rfl
@[simp] theorem d_ni (i : Int) : isNonD (.int i) = false := rfl
@[simp] theorem d_nb (i : Bool) : isNonD (.bl i) = false := rfl
@[simp] theorem d_ns (i : Str) : isNonD (.str i) = false := rfl
@[simp] theorem d_nt (i : List D) : isNonD (.tup i) = false := rfl
@[simp] theorem d_nl (i : List D) : isNonD (.lst i) = false := rfl
@[simp] theorem d_eqi (i j : Int) : dEq (.int i) (.int j) = some (.bl (i == j)) := rfl
@[simp] theorem d_nei (i j : Int) : dNe (.int i) (.int j) = some (.bl (!(i == j))) := rfl
@[simp] theorem d_eqb (i j : Bool) : dEq (.bl i) (.bl j) = some (.bl (i == j)) := rfl
@[simp] theorem d_neb (i j : Bool) : dNe (.bl i) (.bl j) = some (.bl (!(i == j))) := rfl
@[simp] theorem pyOk_n (n : Nat) : pyOk n .non = true := by cases n <;> rfl
@[simp] theorem pyOk_b (n : Nat) (b : Bool) : pyOk n (.bl b) = true := by cases n <;> rfl
@[simp] theorem pyOk_i (n : Nat) (b : Int) : pyOk n (.int b) = true := by cases n <;> rfl
@[simp] theorem pyOk_s (n : Nat) (b : Str) : pyOk n (.str b) = sOk b := by cases n <;> rfl
theorem d_eqs (s : Str) (h : sOk s = true) : dEq (.str s) (.str s) = some (.bl true) := by
  unfold dEq; rw [pyOk_s, h]; simp [dq]
@[simp] theorem d_tr_n : truthD .non = some false := rfl
@[simp] theorem d_tr_b (b : Bool) : truthD (.bl b) = some b := rfl
@[simp] theorem d_tr_i (i : Int) : truthD (.int i) = some (i != 0) := rfl
@[simp] theorem d_tr_t (l : List D) : truthD (.tup l) = some (!l.isEmpty) := rfl
@[simp] theorem d_tr_l (l : List D) : truthD (.lst l) = some (!l.isEmpty) := rfl
@[simp] theorem d_len_t (l : List D) : lenD (.tup l) = some (.int l.length) := rfl
@[simp] theorem d_len_l (l : List D) : lenD (.lst l) = some (.int l.length) := rfl
@[simp] theorem d_abs (i : Int) : absD (.int i) = some (.int (if i < 0 then -i else i)) := rfl
@[simp] theorem d_int (i : Int) : intD (.int i) = some (.int i) := rfl
@[simp] theorem d_intb (i : Bool) : intD (.bl i) = some (.int (if i then 1 else 0)) := rfl
@[simp] theorem d_max2 (i j : Int) : max2D (.int i) (.int j) = some (.int (if j > i then j else i)) := rfl
@[simp] theorem d_min2 (i j : Int) : min2D (.int i) (.int j) = some (.int (if j < i then j else i)) := rfl
@[simp] theorem d_tup_l (l : List D) : tupleD (.lst l) = some (.tup l) := rfl
@[simp] theorem d_tup_t (l : List D) : tupleD (.tup l) = some (.tup l) := rfl
@[simp] theorem d_lst_l (l : List D) : listD (.lst l) = some l := rfl
@[simp] theorem d_lst_t (l : List D) : listD (.tup l) = some l := rfl
@[simp] theorem d_lst_s (l : List Int) : listD (.scr l) = some (l.map D.int) := rfl
@[simp] theorem d_ix_l (l : List D) (i : Int) : dIx (.lst l) (.int i) = atI l i := rfl
@[simp] theorem d_ix_t (l : List D) (i : Int) : dIx (.tup l) (.int i) = atI l i := rfl
@[simp] theorem d_sl_t (l : List D) (lo hi : Option Int) : dSl (.tup l) lo hi = some (.tup (cutD l lo hi)) := rfl
@[simp] theorem d_sl_l (l : List D) (lo hi : Option Int) : dSl (.lst l) lo hi = some (.lst (cutD l lo hi)) := rfl
@[simp] theorem d_slL (l : List D) (lo hi : Option Int) : dSlL (.lst l) lo hi = some (cutD l lo hi) := rfl
@[simp] theorem d_addL (l m : List D) : dAddL (.lst l) (.lst m) = if okLen (l.length + m.length) then some (l ++ m) else none := rfl
@[simp] theorem d_add_l (l m : List D) : dAdd (.lst l) (.lst m) = if okLen (l.length + m.length) then some (.lst (l ++ m)) else none := rfl
@[simp] theorem d_add_t (l m : List D) : dAdd (.tup l) (.tup m) = if okLen (l.length + m.length) then some (.tup (l ++ m)) else none := rfl
@[simp] theorem d_isB_n (b : Bt) : isB b .non = some false := by cases b <;> rfl
@[simp] theorem d_isB_b (b : Bt) (x : Bool) : isB b (.bl x) = some (decide (b = .bool) || decide (b = .int)) := by cases b <;> rfl
@[simp] theorem d_isB_i (b : Bt) (x : Int) : isB b (.int x) = some (decide (b = .int)) := by cases b <;> rfl
@[simp] theorem d_isB_s (b : Bt) (x : Str) : isB b (.str x) = some (decide (b = .str)) := by cases b <;> rfl
@[simp] theorem d_isB_t (b : Bt) (x : List D) : isB b (.tup x) = some (decide (b = .tuple)) := by cases b <;> rfl
@[simp] theorem d_isB_l (b : Bt) (x : List D) : isB b (.lst x) = some (decide (b = .list)) := by cases b <;> rfl
theorem ix_nat {α : Type} (l : List α) (n : Nat) (h : n < l.length) : atI l (n : Int) = some l[n] := by
  unfold atI ixN; simp [h]
theorem ix_get {α : Type} (l : List α) (i : Int) (h0 : 0 ≤ i) (h : i < l.length) : atI l i = l[i.toNat]? := by
  unfold atI ixN; simp [h0, h]
@[simp] theorem ix_0 {α : Type} (a : α) (l : List α) : atI (a :: l) 0 = some a := by
  unfold atI ixN; simp
@[simp] theorem ix_1 {α : Type} (a b : α) (l : List α) : atI (a :: b :: l) 1 = some b := by
  unfold atI ixN; simp
  rw [if_pos (by omega)]; rfl
@[simp] theorem ix_2 {α : Type} (a b c : α) (l : List α) : atI (a :: b :: c :: l) 2 = some c := by
  unfold atI ixN; simp
  rw [if_pos (by omega)]; rfl
@[simp] theorem ix_3 {α : Type} (a b c d : α) (l : List α) : atI (a :: b :: c :: d :: l) 3 = some d := by
  unfold atI ixN; simp
  rw [if_pos (by omega)]; rfl
theorem s62_of {i : Int} (h : -1000000000000 ≤ i) (h' : i ≤ 1000000000000) : small62 i = true := by
  exact Nat.ble_eq_true_of_le (by omega)
theorem okLen_of {n : Nat} (h : n ≤ 16777216) : okLen n = true := by
  unfold okLen; simpa using h
theorem sm_of {i : Int} (h : -1000000000000000000 ≤ i) (h' : i ≤ 1000000000000000000) : sm i = true := by
  exact Nat.ble_eq_true_of_le (by omega)
@[simp] theorem intsD_len (lo : Int) (n : Nat) : (intsD lo n).length = n := by simp [intsD]

/-! ### calls -/
def fin (n : Nat) : Out → Option (D × List D)
  | .rt d ρ => some (d, ρ.take n)
  | .nx ρ => some (.non, ρ.take n)
  | _ => none
@[simp] theorem fin_rt (n : Nat) (d : D) (ρ : Rho) : fin n (.rt d ρ) = some (d, ρ.take n) := rfl
@[simp] theorem fin_nx (n : Nat) (ρ : Rho) : fin n (.nx ρ) = some (.non, ρ.take n) := rfl
theorem v_runF (b : Sf) (n m : Nat) (ds : List D) (h : ds.length = n) : runF b n m ds = (b (ds ++ List.replicate m .non)).bind (fin n) := by
  unfold runF; rw [if_pos h]
  congr 1
theorem v_run1 (b : Sf) (m : Nat) (a0 : D) : runF b 1 m [a0] = (b ([a0] ++ List.replicate m .non)).bind (fin 1) := v_runF _ _ _ _ rfl
theorem v_run2 (b : Sf) (m : Nat) (a0 b0 : D) : runF b 2 m [a0, b0] = (b ([a0, b0] ++ List.replicate m .non)).bind (fin 2) := v_runF _ _ _ _ rfl
theorem v_run3 (b : Sf) (m : Nat) (a0 b0 c0 : D) : runF b 3 m [a0, b0, c0] = (b ([a0, b0, c0] ++ List.replicate m .non)).bind (fin 3) := v_runF _ _ _ _ rfl
theorem v_run4 (b : Sf) (m : Nat) (a0 b0 c0 d0 : D) : runF b 4 m [a0, b0, c0, d0] = (b ([a0, b0, c0, d0] ++ List.replicate m .non)).bind (fin 4) := v_runF _ _ _ _ rfl
theorem v_run5 (b : Sf) (m : Nat) (a0 b0 c0 d0 e0 : D) : runF b 5 m [a0, b0, c0, d0, e0] = (b ([a0, b0, c0, d0, e0] ++ List.replicate m .non)).bind (fin 5) := v_runF _ _ _ _ rfl
theorem v_run6 (b : Sf) (m : Nat) (a0 b0 c0 d0 e0 f0 : D) : runF b 6 m [a0, b0, c0, d0, e0, f0] = (b ([a0, b0, c0, d0, e0, f0] ++ List.replicate m .non)).bind (fin 6) := v_runF _ _ _ _ rfl
theorem v_run7 (b : Sf) (m : Nat) (a0 b0 c0 d0 e0 f0 g0 : D) : runF b 7 m [a0, b0, c0, d0, e0, f0, g0] = (b ([a0, b0, c0, d0, e0, f0, g0] ++ List.replicate m .non)).bind (fin 7) := v_runF _ _ _ _ rfl
theorem v_run8 (b : Sf) (m : Nat) (a0 b0 c0 d0 e0 f0 g0 h0 : D) : runF b 8 m [a0, b0, c0, d0, e0, f0, g0, h0] = (b ([a0, b0, c0, d0, e0, f0, g0, h0] ++ List.replicate m .non)).bind (fin 8) := v_runF _ _ _ _ rfl

/-! ### loops -/
theorem loop_nil (b : D → Rho → Option Out) (ks : List Nat) (ρ : Rho) : loopF b ks [] ρ = some (.nx ρ) := rfl
theorem loop_nx {b : D → Rho → Option Out} {ks : List Nat} {d : D} {ds : List D} {ρ ρ' : Rho} (h : b d ρ = some (.nx ρ')) : loopF b ks (d :: ds) ρ = loopF b ks ds (kill ks ρ') := by
  show (b d ρ).bind _ = _
  rw [h]; rfl
theorem loop_rt {b : D → Rho → Option Out} {ks : List Nat} {d e : D} {ds : List D} {ρ ρ' : Rho} (h : b d ρ = some (.rt e ρ')) : loopF b ks (d :: ds) ρ = some (.rt e ρ') := by
  show (b d ρ).bind _ = _
  rw [h]; rfl
/-- what goes on behind a round -/
def nxOf (ks : List Nat) : Out → Option Rho
  | .nx ρ => some (kill ks ρ)
  | .ct ρ => some (kill ks ρ)
  | _ => none
@[simp] theorem v_nxOf (ks : List Nat) (ρ : Rho) : nxOf ks (.nx ρ) = some (kill ks ρ) := rfl
@[simp] theorem v_nxOfc (ks : List Nat) (ρ : Rho) : nxOf ks (.ct ρ) = some (kill ks ρ) := rfl
theorem loop_go {b : D → Rho → Option Out} {ks : List Nat} {d : D} {ds : List D} {ρ ρ' : Rho} (h : (b d ρ).bind (nxOf ks) = some ρ') : loopF b ks (d :: ds) ρ = loopF b ks ds ρ' := by
  show (b d ρ).bind _ = _
  cases e : b d ρ with
  | none => rw [e] at h; cases h
  | some o =>
    rw [e] at h
    cases o with
    | nx r => cases h; rfl
    | ct r => cases h; rfl
    | bk r => cases h
    | rt d r => cases h
/-- a loop that goes through: the state as a fold -/
theorem loop_fold {α σ : Type} {b : D → Rho → Option Out} {ks : List Nat} (emb : α → D) (st : σ → Rho) (f : σ → α → σ) (inv : σ → Prop) : ∀ (l : List α) (s : σ), inv s →
    (∀ a ∈ l, ∀ s, inv s → inv (f s a) ∧ (b (emb a) (st s)).bind (nxOf ks) = some (st (f s a))) → loopF b ks (l.map emb) (st s) = some (.nx (st (l.foldl f s)))
  | [], s, _, _ => rfl
  | a :: l, s, hi, h => by
    obtain ⟨i1, e1⟩ := h a (by simp) s hi
    rw [List.map_cons, loop_go e1]
    exact loop_fold emb st f inv l _ i1 fun a ha => h a (by simp [ha])
/-- .. with an invariant only -/
theorem loop_inv {α σ : Type} {b : D → Rho → Option Out} {ks : List Nat} (emb : α → D) (st : σ → Rho) (I : List α → σ → Prop) : ∀ (l pre : List α) (s : σ), I pre s →
    (∀ pre' a post, pre ++ l = pre' ++ a :: post → ∀ s, I pre' s → ∃ s', (b (emb a) (st s)).bind (nxOf ks) = some (st s') ∧ I (pre' ++ [a]) s') → ∃ s', loopF b ks (l.map emb) (st s) = some (.nx (st s')) ∧ I (pre ++ l) s'
  | [], pre, s, hi, _ => ⟨s, rfl, by simpa using hi⟩
  | a :: l, pre, s, hi, h => by
    obtain ⟨s', e1, i1⟩ := h pre a l rfl s hi
    obtain ⟨s2, e2, i2⟩ := loop_inv emb st I l (pre ++ [a]) _ i1 fun pre' a' post e => h pre' a' post (by simpa using e)
    exact ⟨s2, by rw [List.map_cons, loop_go e1, e2], by simpa using i2⟩
/-- a search -/
theorem loop_find {α : Type} {b : D → Rho → Option Out} {ks : List Nat} (emb : α → D) (ρ : Rho) (p : α → Bool) (res : α → D) (rr : α → Rho) : ∀ (l : List α),
    (∀ a ∈ l, if p a then b (emb a) ρ = some (.rt (res a) (rr a)) else (b (emb a) ρ).bind (nxOf ks) = some ρ) →
    loopF b ks (l.map emb) ρ = match l.find? p with | some a => some (.rt (res a) (rr a)) | none => some (.nx ρ)
  | [], _ => rfl
  | a :: l, h => by
    have h1 := h a (by simp)
    cases hp : p a with
    | true =>
      rw [hp, if_pos rfl] at h1
      rw [List.map_cons, loop_rt h1, List.find?_cons, hp]
    | false =>
      rw [hp, if_neg (by simp)] at h1
      rw [List.map_cons, loop_go h1, List.find?_cons, hp]
      exact loop_find emb ρ p res rr l fun a ha => h a (by simp [ha])
/-- comprehensions -/
theorem lc_map {α : Type} {step : D → Rho → Option (Option D × Rho)} (emb : α → D) (g : α → Option D) (ρ : Rho) : ∀ (l : List α), (∀ a ∈ l, step (emb a) ρ = some (g a, ρ)) → lcF step (l.map emb) ρ = some (l.filterMap g, ρ)
  | [], _ => rfl
  | a :: l, h => by
    show (step (emb a) ρ).bind _ = _
    rw [h a (by simp)]
    simp only [Option.bind_some]
    rw [lc_map emb g ρ l fun a ha => h a (by simp [ha])]
    simp only [Option.bind_some, List.filterMap_cons]
    cases g a <;> rfl
theorem lc_all {α : Type} {step : D → Rho → Option (Option D × Rho)} (emb : α → D) (g : α → D) (ρ : Rho) (l : List α) (h : ∀ a ∈ l, step (emb a) ρ = some (some (g a), ρ)) : lcF step (l.map emb) ρ = some (l.map g, ρ) := by
  rw [lc_map emb (fun a => some (g a)) ρ l h]
  simp
/-- .. with a state that changes -/
theorem lc_st {α σ : Type} {step : D → Rho → Option (Option D × Rho)} (emb : α → D) (st : σ → Rho) (inv : σ → Prop) (Q : α → D → Prop) : ∀ (l : List α) (s : σ), inv s →
    (∀ a ∈ l, ∀ s, inv s → ∃ d s', inv s' ∧ Q a d ∧ step (emb a) (st s) = some (some d, st s')) → ∃ (ds : List D) (s' : σ), inv s' ∧ ds.length = l.length ∧ (∀ (i : Nat) (a : α) (d : D), l[i]? = some a → ds[i]? = some d → Q a d) ∧ lcF step (l.map emb) (st s) = some (ds, st s')
  | [], s, hi, _ => ⟨[], s, hi, rfl, by simp, rfl⟩
  | a :: l, s, hi, h => by
    obtain ⟨d, s1, i1, q1, e1⟩ := h a (by simp) s hi
    obtain ⟨ds, s2, i2, hl, q2, e2⟩ := lc_st emb st inv Q l s1 i1 fun a ha => h a (by simp [ha])
    refine ⟨d :: ds, s2, i2, by simp [hl], fun i a' d' ha hd => ?_, ?_⟩
    · cases i with
      | zero => simp at ha hd; subst ha; subst hd; exact q1
      | succ i => simp at ha hd; exact q2 i a' d' ha hd
    · show (step (emb a) (st s)).bind _ = _
      rw [e1]
      simp only [Option.bind_some]
      rw [e2]; rfl
theorem loop_ext {α β : Type} {b : D → Rho → Option Out} {ks : List Nat} (emb : α → D) (st : List β → Rho) (g : α → List β) (M B : Nat) : ∀ (l : List α) (acc : List β),
    (∀ a ∈ l, (g a).length ≤ M) → acc.length + l.length * M ≤ B →
    (∀ a ∈ l, ∀ acc : List β, acc.length + M ≤ B → (b (emb a) (st acc)).bind (nxOf ks) = some (st (acc ++ g a))) → loopF b ks (l.map emb) (st acc) = some (.nx (st (acc ++ l.flatMap g)))
  | [], acc, _, _, _ => by simp [loop_nil]
  | a :: l, acc, hM, hB, h => by
    have hl : (a :: l).length * M = l.length * M + M := by simp [Nat.succ_mul]
    have e1 := h a (by simp) acc (by omega)
    have hg := hM a (by simp)
    rw [List.map_cons, loop_go e1, loop_ext emb st g M B l (acc ++ g a) (fun a ha => hM a (by simp [ha])) (by simp; omega) fun a ha => h a (by simp [ha])]
    simp
theorem len_flat {α β : Type} (g : α → List β) (M : Nat) : ∀ l : List α, (∀ a ∈ l, (g a).length ≤ M) → (l.flatMap g).length ≤ l.length * M
  | [], _ => by simp
  | a :: l, h => by
    have h1 := len_flat g M l fun a ha => h a (by simp [ha])
    have h2 := h a (by simp)
    simp only [List.flatMap_cons, List.length_append, List.length_cons, Nat.succ_mul]
    omega
theorem intsD0 (n : Nat) : intsD 0 n = (List.range n).map fun i : Nat => D.int (i : Int) := by
  unfold intsD; simp
theorem loopF_cons (b : D → Rho → Option Out) (ks : List Nat) (d : D) (ds : List D) (ρ : Rho) : loopF b ks (d :: ds) ρ = (b d ρ).bind fun o => match o with
    | .nx ρ' => loopF b ks ds (kill ks ρ')
    | .ct ρ' => loopF b ks ds (kill ks ρ')
    | .bk ρ' => some (.nx (kill ks ρ'))
    | .rt d ρ' => some (.rt d ρ') := rfl
theorem lcF_nil (b : D → Rho → Option (Option D × Rho)) (ρ : Rho) : lcF b [] ρ = some ([], ρ) := rfl
theorem lcF_cons (b : D → Rho → Option (Option D × Rho)) (d : D) (ds : List D) (ρ : Rho) : lcF b (d :: ds) ρ = (b d ρ).bind fun q => (lcF b ds q.2).bind fun w => some (q.1.toList ++ w.1, w.2) := rfl
end TL

namespace TL
open PySem PySem.Spec PyProof.Rows L2

def b__law_draw : Sf := (sRetO (oLst (aCons (eF (oCa (f1L listD) (aCons (eVar 0) aNil))) (aCons (eC (.int 0)) (aCons (eC (.int 0)) (aCons (eC (.int 17)) aNil))))))
def b__law_next : Sf := (sSeq (sIf (tBl (eBin dGt (eBin dIx (eOwn 0) (eC (.int 2))) (eC (.int 0)))) (sSeq (sAsg (eBin dMod (eCa (f1 intD) (aCons (eBin dIx (eOwn 0) (eC (.int 2))) aNil)) (eVar 1)) (gNm 2)) (sSeq (sSetIx 0 (eBin dDiv (eBin dIx (eOwn 0) (eC (.int 2))) (eVar 1)) (eC (.int 2))) (sRet (eVar 2)))) sNil) (sSeq (sIf (tBl (eBin dLt (eBin dIx (eOwn 0) (eC (.int 1))) (eCa (f1 lenD) (aCons (eBin dIx (eOwn 0) (eC (.int 0))) aNil)))) (sKl [3] (sSeq (sAsg (eCa (f1 absD) (aCons (eBin dIx (eBin dIx (eOwn 0) (eC (.int 0))) (eBin dIx (eOwn 0) (eC (.int 1)))) aNil)) (gNm 3)) (sSeq (sSetIx 0 (eBin dAdd (eBin dIx (eOwn 0) (eC (.int 1))) (eC (.int 1))) (eC (.int 1))) (sSeq (sIf (tBl (eBin dGe (eVar 3) (eBin dPow (eC (.int 10)) (eC (.int 18))))) (sSeq (sSetIx 0 (eBin dDiv (eVar 3) (eVar 1)) (eC (.int 2))) (sRet (eBin dMod (eCa (f1 intD) (aCons (eVar 3) aNil)) (eVar 1)))) sNil) (sSetIx 0 (eBin dMod (eCa (f1 intD) (aCons (eBin dAdd (eBin dAdd (eBin dMul (eBin dIx (eOwn 0) (eC (.int 3))) (eC (.int 48271))) (eVar 3)) (eC (.int 11))) aNil)) (eC (.int 2147483647))) (eC (.int 3))))))) (sSetIx 0 (eBin dMod (eCa (f1 intD) (aCons (eBin dAdd (eBin dMul (eBin dIx (eOwn 0) (eC (.int 3))) (eC (.int 48271))) (eC (.int 12345))) aNil)) (eC (.int 2147483647))) (eC (.int 3)))) (sRet (eBin dMod (eBin dDiv (eCa (f1 intD) (aCons (eBin dMod (eBin dMul (eBin dIx (eOwn 0) (eC (.int 3))) (eC (.int 69621))) (eC (.int 2147483629))) aNil)) (eC (.int 7))) (eVar 1)))))
def b__law_same (G__law_same : Fm) : Sf := (sSeq (sIf (tB (eIsLT (eVar 1))) (sSeq (sIf (tOr' (tBl (eBin dNe (eIsI .list (eVar 1)) (eIsI .list (eVar 0)))) (tBl (eBin dNe (eIsI .tuple (eVar 1)) (eIsI .tuple (eVar 0))))) (sRet (eC (.bl false))) sNil) (sSeq (sIf (tBl (eBin dNe (eCa (f1 lenD) (aCons (eVar 0) aNil)) (eCa (f1 lenD) (aCons (eVar 1) aNil)))) (sRet (eC (.bl false))) sNil) (sRet (eCa (f1 allD) (aCons (eF (oLc [2] (TL.iRng1 (aCons (eCa (f1 lenD) (aCons (eVar 1) aNil)) aNil)) (gNm 2) tYesF (oE (eF (oCall G__law_same (aCons (eBin dIx (eVar 0) (eVar 2)) (aCons (eBin dIx (eVar 1) (eVar 2)) aNil))))))) aNil))))) sNil) (sSeq (sIf (tBl (eBin dIs (eVar 1) (eC .non))) (sRet (eBin dIs (eVar 0) (eC .non))) sNil) (sSeq (sIf (tBl (eBin dNe (eIsI .bool (eVar 1)) (eIsI .bool (eVar 0)))) (sRet (eC (.bl false))) sNil) (sSeq (sIf (tB (eIsI .str (eVar 1))) (sRet (eAnd (eIsI .str (eVar 0)) (eBin dEq (eVar 0) (eVar 1)))) sNil) (sRet (eAnd (eIsI .int (eVar 0)) (eBin dEq (eVar 0) (eVar 1))))))))
/-! ### draws -/
structure Dr where
  pos : Int
  pend : Int
  seed : Int
def drD (ns : List Int) (s : Dr) : D := .lst [.lst (ns.map D.int), .int s.pos, .int s.pend, .int s.seed]
def Dr.ok (s : Dr) : Prop := 0 ≤ s.pos ∧ 0 ≤ s.seed ∧ s.seed < 2147483647
def Dr0 : Dr := ⟨0, 0, 17⟩
theorem Dr0.ok : Dr0.ok := by simp [Dr.ok, Dr0]
theorem draw_ok (ns : List Int) : runF b__law_draw 1 0 [.scr ns] = some (drD ns Dr0, [.scr ns]) := by
  simp [v_run1, b__law_draw, okLen, drD, Dr0]
theorem setL_1 (a b : D) (l : List D) (d : D) : setL (a :: b :: l) 1 d = some (a :: d :: l) := by
  unfold setL ixN; simp; rw [if_pos (by omega)]; rfl
theorem setL_2 (a b c : D) (l : List D) (d : D) : setL (a :: b :: c :: l) 2 d = some (a :: b :: d :: l) := by
  unfold setL ixN; simp; rw [if_pos (by omega)]; rfl
theorem setL_3 (a b c e : D) (l : List D) (d : D) : setL (a :: b :: c :: e :: l) 3 d = some (a :: b :: c :: d :: l) := by
  unfold setL ixN; simp; rw [if_pos (by omega)]; rfl
theorem next_ok (ns : List Int) (s : Dr) (h : s.ok) (m : Int) (h0 : 0 < m) (hm : m ≤ 1000000000000000000) : ∃ v s', s'.ok ∧ 0 ≤ v ∧ v < m ∧ runF b__law_next 2 2 [drD ns s, .int m] = some (.int v, [drD ns s', .int m]) := by
  obtain ⟨pos, pend, seed⟩ := s
  obtain ⟨k1, k2, k3⟩ := h
  simp only at k1 k2 k3
  have hsm : sm m = true := sm_of (by omega) (by omega)
  have fin7 : ∀ (z : Int), 0 ≤ z → z < 2147483647 → sm z = true := fun z a b => sm_of (by omega) (by omega)
  simp only [v_run2]
  unfold b__law_next
  by_cases hp : 0 < pend
  · refine ⟨pend % m, ⟨pos, pend / m, seed⟩, ⟨k1, k2, k3⟩, Int.emod_nonneg _ (by omega), Int.emod_lt_of_pos _ h0, ?_⟩
    simp [drD, hp, h0, hsm, setIxOf, setL_2]
  · by_cases hq : pos < ns.length
    · have e1 : atI (ns.map D.int) pos = some (.int (ns[pos.toNat]'(by omega))) := by
        rw [ix_get _ _ k1 (by simpa using hq)]
        simp [List.getElem?_eq_getElem (show pos.toNat < ns.length by omega)]
      generalize ns[pos.toNat]'(by omega) = c at e1
      have e2 : dPow (.int 10) (.int 18) = some (.int 1000000000000000000) := by kernel_rfl
      generalize hcell : (if c < 0 then -c else c) = cell
      have hc0 : 0 ≤ cell := by subst hcell; split <;> omega
      by_cases hb : 1000000000000000000 ≤ cell
      · refine ⟨cell % m, ⟨pos + 1, cell / m, seed⟩, ⟨by simp; omega, k2, k3⟩, Int.emod_nonneg _ (by omega), Int.emod_lt_of_pos _ h0, ?_⟩
        simp [drD, hp, hq, h0, hsm, setIxOf, setL_1, setL_2, e1, e2, hcell, hb]
      · have r1 := Int.emod_nonneg (seed * 48271 + cell + 11) (show (2147483647 : Int) ≠ 0 by omega)
        have r2 := Int.emod_lt_of_pos (seed * 48271 + cell + 11) (show (0 : Int) < 2147483647 by omega)
        generalize hr : (seed * 48271 + cell + 11) % 2147483647 = r at r1 r2
        refine ⟨r * 69621 % 2147483629 / 7 % m, ⟨pos + 1, pend, r⟩, ⟨by simp; omega, r1, r2⟩, Int.emod_nonneg _ (by omega), Int.emod_lt_of_pos _ h0, ?_⟩
        simp [drD, hp, hq, h0, hsm, setIxOf, setL_1, setL_3, e1, e2, hcell, hb, fin7 seed k2 k3, fin7 r r1 r2, sm_of (i := 48271) (by omega) (by omega), sm_of (i := 69621) (by omega) (by omega), sm_of (i := 7) (by omega) (by omega), hr]
    · have r1 := Int.emod_nonneg (seed * 48271 + 12345) (show (2147483647 : Int) ≠ 0 by omega)
      have r2 := Int.emod_lt_of_pos (seed * 48271 + 12345) (show (0 : Int) < 2147483647 by omega)
      generalize hr : (seed * 48271 + 12345) % 2147483647 = r at r1 r2
      refine ⟨r * 69621 % 2147483629 / 7 % m, ⟨pos, pend, r⟩, ⟨k1, r1, r2⟩, Int.emod_nonneg _ (by omega), Int.emod_lt_of_pos _ h0, ?_⟩
      simp [drD, hp, hq, h0, hsm, setIxOf, setL_3, fin7 seed k2 k3, fin7 r r1 r2, sm_of (i := 48271) (by omega) (by omega), sm_of (i := 69621) (by omega) (by omega), sm_of (i := 7) (by omega) (by omega), hr]
/-! ### the same -/
def R_same : Nat → Fm
  | 0 => fun _ => none
  | r + 1 => runF (b__law_same (R_same r)) 2 1
def okS (n : Nat) : Bool := Nat.ble n 10000
theorem okS_le {n : Nat} (h : okS n = true) : n ≤ 10000 := Nat.le_of_ble_eq_true h
theorem okS_of {n : Nat} (h : n ≤ 10000) : okS n = true := Nat.ble_eq_true_of_le h
def plain : Nat → D → Bool
  | _, .non => true
  | _, .bl _ => true
  | _, .int _ => true
  | _, .str s => sOk s
  | n + 1, .tup l => okS l.length && l.all (plain n)
  | n + 1, .lst l => okS l.length && l.all (plain n)
  | _, _ => false
mutual
theorem dq_self : ∀ (n : Nat) (d : D), plain n d = true → dq d d = true
  | n, .non, _ => rfl
  | n, .bl _, _ => by simp [dq]
  | n, .int _, _ => by simp [dq]
  | n, .str _, _ => by simp [dq]
  | n + 1, .tup l, h => by
    simp only [plain, Bool.and_eq_true, List.all_eq_true] at h
    simp only [dq]; exact dqs_self n l h.2
  | n + 1, .lst l, h => by
    simp only [plain, Bool.and_eq_true, List.all_eq_true] at h
    simp only [dq]; exact dqs_self n l h.2
  | 0, .tup _, h => by simp [plain] at h
  | 0, .lst _, h => by simp [plain] at h
  | n, .dct _, h => by cases n <;> simp [plain] at h
  | n, .set _, h => by cases n <;> simp [plain] at h
  | n, .obj _ _, h => by cases n <;> simp [plain] at h
  | n, .scr _, h => by cases n <;> simp [plain] at h
theorem dqs_self : ∀ (n : Nat) (l : List D), (∀ d ∈ l, plain n d = true) → dqs l l = true
  | n, [], _ => rfl
  | n, d :: l, h => by
    simp only [dqs, Bool.and_eq_true]
    exact ⟨dq_self n d (h d (by simp)), dqs_self n l fun d hd => h d (by simp [hd])⟩
end
theorem getBls_true (n : Nat) : getBls (List.replicate n (D.bl true)) = some (List.replicate n true) := by
  induction n with
  | zero => rfl
  | succ n ih => simp [List.replicate_succ, getBls, ih]
theorem same_ok : ∀ (n : Nat) (d : D), plain n d = true → R_same (n + 1) [d, d] = some (.bl true, [d, d]) := by
  intro n
  induction n with
  | zero =>
    intro d h
    show runF (b__law_same (R_same 0)) 2 1 [d, d] = _
    rw [v_run2]
    unfold b__law_same
    cases d <;> first | (cases h; done) | skip
    · simp
    · simp
    · simp
    · simp [d_eqs _ (show sOk _ = true from h)]
  | succ n ih =>
    intro d h
    show runF (b__law_same (R_same (n + 1))) 2 1 [d, d] = _
    rw [v_run2]
    unfold b__law_same
    have key : ∀ (l : List D), l.length ≤ 10000 → (∀ d ∈ l, plain n d = true) → ∀ (w : List D → D), (∀ m : List D, w m = .tup m ∨ w m = .lst m) →
        lcF (stepLc [2] (gNm 2) tYesF (oE (eF (oCall (R_same (n + 1)) (aCons (eBin dIx (eVar 0) (eVar 2)) (aCons (eBin dIx (eVar 1) (eVar 2)) aNil)))))) (intsD 0 l.length) [w l, w l, .non] = some (List.replicate l.length (.bl true), [w l, w l, .non]) := by
      intro l hl hp w hw
      unfold intsD
      rw [lc_all (fun i : Nat => D.int (0 + (i : Nat))) (fun _ => D.bl true)]
      · have : (List.range l.length).map (fun _ => D.bl true) = List.replicate l.length (D.bl true) := by
          rw [List.map_const', List.length_range]
        rw [this]
      · intro a ha
        have ha := List.mem_range.mp ha
        have e := ix_nat l a ha
        have e2 := ih l[a] (hp _ (List.getElem_mem ha))
        rcases hw l with e3 | e3 <;> simp [e3, e, e2]
    match d, h with
    | .non, _ => simp
    | .bl _, _ => simp
    | .int _, _ => simp
    | .str _, h => simp [d_eqs _ (show sOk _ = true from h)]
    | .dct _, h => simp [plain] at h
    | .set _, h => simp [plain] at h
    | .obj _ _, h => simp [plain] at h
    | .scr _, h => simp [plain] at h
    | .tup l, h =>
      simp only [plain, Bool.and_eq_true, List.all_eq_true] at h
      have h1 := okS_le h.1
      simp [s62_of (i := (l.length : Int)) (by omega) (by omega), okLen_of (n := l.length) (by omega), key l h1 h.2 D.tup (fun m => .inl rfl), allD, getBls_true]
    | .lst l, h =>
      simp only [plain, Bool.and_eq_true, List.all_eq_true] at h
      have h1 := okS_le h.1
      simp [s62_of (i := (l.length : Int)) (by omega) (by omega), okLen_of (n := l.length) (by omega), key l h1 h.2 D.lst (fun m => .inr rfl), allD, getBls_true]
end TL

namespace TL
open PySem PySem.Spec PyProof.Rows L2
/-! ### the order of data -/
def rLtG (K : PySem.W.Frag) : R2 := fun x y H Q => ∃ d e, Dp K H x d ∧ Dp K H y e ∧ PySem.W.alike d e = true ∧ d ≠ .none ∧ d.depth ≤ 60 ∧ Q (.bl (PySem.W.dataLt d e)) H
theorem op_ltG {X : Cx} (hu : X.A.units + 64 < cLine) : OpR X (compareOp .Lt) (rLtG X.K) := by
  intro pins s σ H x y v u Q I rx ry h
  obtain ⟨d, e, hd, he, hal, hn, dp, q⟩ := h
  obtain ⟨as, r1⟩ := Dp.reads I d x v hd rx
  obtain ⟨bs, r2⟩ := Dp.reads I e y u he ry
  have R := PySem.W.rcLt_alike d e X.A s v u as bs r1 r2 hal hn (by omega)
  exact R X.prog X.w X.xe (EP X pins σ Q) ⟨.bl _, H, I, rfl, q⟩
def alikeD (a b : D) : Bool := PySem.W.alike (py a) (py b)
def ltD (a b : D) : Bool := PySem.W.dataLt (py a) (py b)
def dLtG (a b : D) : Option D := if pyOk 40 a && pyOk 40 b && alikeD a b && !isNonD a then some (.bl (ltD a b)) else none
theorem py_none {n : Nat} {d : D} (h : pyOk n d = true) (h2 : isNonD d = false) : py d ≠ .none := by
  cases d <;> cases n <;> simp_all [py, isNonD, pyOk]
theorem od_ltG {X : Cx} : OpD X (rLtG X.K) dLtG := fun S H d1 d2 d v1 v2 Q al r1 r2 e q => by
  obtain ⟨h, e⟩ := ifSome' e
  subst e
  simp only [Bool.and_eq_true, Bool.not_eq_true'] at h
  obtain ⟨⟨⟨h1, h2⟩, h3⟩, h4⟩ := h
  have sh := (pyOk_ok 40 d1 h1).2
  exact ⟨_, _, r1.dp h1, r2.dp h2, h3, py_none h1 h4, by omega, q _ H (Grow.refl H) (.bl _)⟩
end TL

namespace PySem.W
open PySem PySem.SeqAt PyProof.Rows
section
variable {prog : Program} {w : World} {A : Around} {E : Value → Shared → Prop} {s : Shared}
/-- min(a, b) of two alike data -/
theorem min_two_data {a b : Value} {da db : PyData} {as bs : List Addr} {Q : Value → Shared → Prop} (hh : A.handled = none) (ra : Reads s.heap a da as) (rb : Reads s.heap b db bs) (hal : AlikeAll [da, db]) (hu : A.units + 1 + PyData.depthAll [da, db] < cLine)
    (h : ∀ h' tk, (∀ c o, s.heap.get? c = some o → h'.get? c = some o) → Q (if dataLt db da then b else a) { s with heap := h', toks := tk }) : wpAny (model prog w) A (call (.builtin "min") [a, b]) Q E s := by
  have hname : (toString "min" ++ toString ".loop" : String) = "min.loop" := by decide
  refine call_function_tree F.kind_min F.plain_min F.entry_min (F.args_min2 _ _) ?_; show wpAny _ A.in1 (Builtin.Builtins.bindParams "min" ["key", "default"] 0 ⟨[], []⟩ >>= _) _ _ s
  refine wpAny_bind (wpAny_of_eq (show Builtin.Builtins.bindParams "min" ["key", "default"] 0 ⟨[], []⟩ = pure [none, none] from rfl) ?_); show wpAny _ A.in1 (newTuple [a, b] >>= _) _ _ s
  refine wpAny_bind (wpAny_newObj_type (wpAny_bind ?_))
  have g1 : ∀ c o, s.heap.get? c = some o → (s.heap.push { cls := .type "tuple", data := .seq #[a, b] }).get? c = some o := fun c o e => Heap.get?_push_of_some _ e
  have hT : (s.heap.push { cls := .type "tuple", data := .seq #[a, b] }).IsTuple s.heap.objs.size #[a, b] := ⟨_, Heap.get?_push_size _ rfl, rfl, 0, rfl⟩
  have hr : ReadsAll (s.heap.push { cls := .type "tuple", data := .seq #[a, b] }) [a, b] [da, db] (as ++ (bs ++ [])) := .cons (reads_keeps g1 ra) (.cons (reads_keeps g1 rb) .nil)
  refine iter_tupleW (s := { s with heap := s.heap.push { cls := .type "tuple", data := .seq #[a, b] } }) (A := A.in1) hh hT fun s₂ e W st hfp hw hk => wpAny_bind (wpAny_newObj_type ?_)
  have hSf : s₂.heap.objs.size ∉ _ := fun hm => Nat.lt_irrefl _ (hfp _ hm)
  rw [hname]
  refine wpAny_pure ⟨plainId_quiet F.plain_min_loop _, codeAny_min_loop_firstH W _ hw _ (cmpIn_lt (s := { s with heap := s.heap.push { cls := .type "tuple", data := .seq #[a, b] } }) (A := A.in1) (vs := #[a, b]) hr hal (by show A.units + 1 + _ < _; exact hu)) s₂.heap.objs.size hSf (fresh_in hk) _ (by simp) (fun b o e => Heap.get?_push_of_some _ (hk b o e)) (W.frame 0 s₂ _ s₂.toks st (Nat.le_refl _) fun b _ o e => Heap.get?_push_of_some _ e) (Heap.get?_push_size _ rfl) fun v s' hP hm => ?_⟩
  obtain ⟨h', tk, rfl, hk'⟩ := moved_old e rfl (Moved.drop_new (tk := s₂.toks) hm (Nat.le_refl _))
  have hv : v = if dataLt db da then b else a := by
    have hP' : (#[a, b] : Array Value)[argBest (fun i j => dataLt ([da, db].getD i .none) ([da, db].getD j .none)) 1]? = some v := hP
    cases hd : dataLt db da <;> simp [argBest, hd] at hP' <;> simp [hP']
  rw [hv]
  exact h h' tk fun c o e2 => hk' c o (g1 c o e2)
end
end PySem.W
namespace TL
open PySem PySem.Spec PyProof.Rows L2
def rMin2G (K : PySem.W.Frag) : List V → Hp → VK → Prop := fun xs H Q => ∃ x y d e, xs = [x, y] ∧ Dp K H x d ∧ Dp K H y e ∧ PySem.W.AlikeAll [d, e] ∧ d.depth ≤ 60 ∧ e.depth ≤ 60 ∧ Q (if PySem.W.dataLt e d then y else x) H
theorem call_min2G {X : Cx} (hc : X.calm = true) (hu : X.A.units + 64 < cLine) : CallR X (.builtin "min") (rMin2G X.K) := by
  intro pins s σ H xs us Q I r h
  obtain ⟨x, y, d, e, rfl, hd, he, hal, d1, d2, q⟩ := h
  obtain ⟨u, w', rfl, r1, r2⟩ := vals2 r
  obtain ⟨as, ra⟩ := Dp.reads I d x u hd r1
  obtain ⟨bs, rb⟩ := Dp.reads I e y w' he r2
  refine PySem.W.min_two_data (I.ok.hd hc) ra rb hal (by simp only [PyData.depthAll]; omega) fun h' tk k => ⟨_, H, I.kept k, ?_, q⟩
  cases PySem.W.dataLt e d
  · exact r1
  · exact r2
def loose : D → Bool
  | .lst _ => false
  | .dct _ => false
  | _ => true
theorem Rv.rf_of {K : PySem.W.Frag} {mg : Str → Option Value} {S : List Addr} {H : Hp} {d : D} {v : V} (r : Rv K mg S H d v) (h : loose d = true) : Rf K mg (hide S H) d v := by
  cases r with
  | rf r => exact r
  | lst _ _ => cases h
  | dK _ _ _ => cases h
  | dT _ _ _ => cases h
def min2G (a b : D) : Option D := if (pyOk 40 a && pyOk 40 b && loose a && loose b && !isNonD a && !isNonD b) && (alikeD a a && alikeD a b && alikeD b a && alikeD b b) then some (if ltD b a then b else a) else none
theorem ca_min2G {X : Cx} : CaD X (rMin2G X.K) (f2 min2G) := ca2 fun S H d1 d2 d v1 v2 Q al r1 r2 e q => by
  obtain ⟨h, e⟩ := ifSome' e
  simp only [Bool.and_eq_true, Bool.not_eq_true'] at h
  obtain ⟨⟨⟨⟨⟨⟨h1, h2⟩, h3⟩, h4⟩, h5⟩, h6⟩, ⟨⟨h7, h8⟩, h9⟩, h10⟩ := h
  have s1 := (pyOk_ok 40 d1 h1).2
  have s2 := (pyOk_ok 40 d2 h2).2
  refine ⟨_, _, _, _, rfl, r1.dp h1, r2.dp h2, ⟨fun x hx y hy => ?_, fun x hx => ?_⟩, by omega, by omega, ?_⟩
  · simp only [List.mem_cons, List.not_mem_nil, or_false] at hx hy
    rcases hx with rfl | rfl <;> rcases hy with rfl | rfl <;> assumption
  · simp only [List.mem_cons, List.not_mem_nil, or_false] at hx
    rcases hx with rfl | rfl
    · exact py_none h1 h5
    · exact py_none h2 h6
  · show Q (if ltD d2 d1 then v2 else v1) H
    cases hl : ltD d2 d1
    · rw [hl] at e; subst e; exact q _ H (Grow.refl H) (r1.rf_of h3)
    · rw [hl] at e; subst e; exact q _ H (Grow.refl H) (r2.rf_of h4)
end TL

namespace L2
open PySem PySem.Spec PyProof.Rows
/-- t * 1 is t -/
theorem tuple_mul1 (l : Addr) (items : Array Value) (n : Nat) (dd : Option Addr) (sl : Array (Option Value)) (u : Tok) :
    Meets (Builtin.«tuple.__mul__» ⟨[.ref l, .int 1 u], []⟩) (fun _ R s => s.heap.get? l = some { cls := .type "tuple", dict := dd, data := .seq items n, slots := sl } ∧ R (.ok (.ret (Value.ref l))) s) :=
  .of_wp fun prog w A R s h => by
    obtain ⟨hp, g, d, tk, os⟩ := s; obtain ⟨hl, h⟩ := h
    have f1 := AutoSeq1.idx_int
    have c0 : (decide ((1 : Int) < -(2 ^ 63)) || decide ((1 : Int) ≥ 2 ^ 63)) = false := by decide
    have c1 : (items.isEmpty || (1 : Int) == 1) = true := by simp
    wp_walk using wpAny_loadPart' hl
    repeat (first | (refine wpAny_ite_false (decide_eq_false (by rw [c0]; exact Bool.false_ne_true)) ?_; wp_walk using wpAny_loadPart' hl) | (refine wpAny_ite_true (decide_eq_true c1) ?_; wp_walk using wpAny_loadPart' hl))
    all_goals first | exact ⟨_, rfl, h⟩ | skip
def rRepT1 (K : PySem.W.Frag) : R2 := fun x y H Q => ∃ l xs, x = .ref l ∧ y = .int 1 ∧ SqT K H l xs ∧ Q (.ref l) H
theorem op_repT1 {X : Cx} : OpR X (binaryOp .Mult) (rRepT1 X.K) := by
  intro pins s σ H x y v u Q I rx ry h
  obtain ⟨l, xs, rfl, rfl, hT, q⟩ := h
  cases rx; obtain ⟨t, rfl⟩ := ry
  obtain ⟨its, r, ⟨⟨cls, dd, data, sl⟩, ho, hc, n, hd⟩, hs⟩ := I.tuple hT
  simp only at hc hd; subst hc hd
  exact wpAny_binaryOp_repeat_ref (T := "tuple") (U := "int") (by decide) ⟨_, ho, rfl⟩ (fun s' => typeIs_int s' 1 t) noFill_tuple_mul F.fills_int_mul F.slot_int_rmul repeat_tuple F.slot_int_index.lookup (call_meets F.slot_int_rmul (typeIs_int s 1 t) F.entry_int_rmul (F.args_int_rmul_2 _ _) (int_rmul_tuple 1 t l its.toArray n dd sl) ⟨ho, rfl, ⟨_, ho, rfl⟩, call_meets F.slot_tuple_mul ⟨_, ho, rfl⟩ F.entry_tuple_mul (F.args_tuple_mul_2 _ _) (tuple_mul1 l its.toArray n dd sl t) ⟨ho, ⟨.ref l, H, I, rfl, q⟩⟩⟩)
end L2
namespace TL
open PySem PySem.Spec PyProof.Rows L2
def dMulT1 : D → D → Option D
  | .tup l, .int i => if i == 1 then some (.tup l) else none
  | _, _ => none
theorem od_mulT1 {X : Cx} : OpD X (rRepT1 X.K) dMulT1 := fun S H d1 d2 d v1 v2 Q al r1 r2 e q => by
  cases d1 <;> cases d2 <;> first | (cases e; done) | skip
  obtain ⟨h, e⟩ := ifSome' e
  subst e
  have hi := eq_of_beq h
  subst hi
  obtain ⟨a, vs, rfl, h1, h1', q1⟩ := r1.tup_inv
  exact ⟨a, vs, rfl, r2.int_inv, h1, q _ H (Grow.refl H) (r1.rf_of rfl)⟩
/-- * with a tuple once -/
def dMul' : D → D → Option D := orG dMul dMulT1
theorem op_mulD' {X : Cx} : OpR X (binaryOp .Mult) (fun x y H Q => rMulD X.K x y H Q ∨ rRepT1 X.K x y H Q) := OpR.or op_mulD op_repT1
theorem od_mul' {X : Cx} : OpD X (fun x y H Q => rMulD X.K x y H Q ∨ rRepT1 X.K x y H Q) dMul' := OpD.or od_mul od_mulT1
/-- < of ints or of data -/
def dLt' : D → D → Option D := orG dLt dLtG
end TL

namespace TL
open PySem PySem.Spec PyProof.Rows L2
/-! side conditions for simp (disch := omega) -/
theorem okLen_s {n : Nat} (h : n ≤ 16777216) : okLen n = true := okLen_of h
theorem s62_s {i : Int} (h : -1000000000000 ≤ i ∧ i ≤ 1000000000000) : small62 i = true := s62_of h.1 h.2
theorem sm_s {i : Int} (h : -1000000000000000000 ≤ i ∧ i ≤ 1000000000000000000) : sm i = true := sm_of h.1 h.2
theorem ix_s {α : Type} [Inhabited α] (f : α → D) (l : List α) (i : Int) (h : 0 ≤ i ∧ i < l.length) : atI (l.map f) i = some (f (l.getD i.toNat default)) := by
  rw [ix_get _ _ h.1 (by simpa using h.2), List.getElem?_map, List.getElem?_eq_getElem (by omega)]
  simp [List.getD_eq_getElem?_getD, List.getElem?_eq_getElem (show i.toNat < l.length by omega)]
theorem ix_last {α : Type} [Inhabited α] (f : α → D) (l : List α) (h : 0 < l.length) : atI (l.map f) (-1) = some (f (l.getD (l.length - 1) default)) := by
  unfold atI ixN
  rw [if_neg (by omega), if_pos (by simp; omega)]
  have e : ((-1 : Int) + ((l.map f).length : Int)).toNat = l.length - 1 := by simp; omega
  rw [e, Option.bind_some, List.getElem?_map, List.getElem?_eq_getElem (by omega)]
  simp [List.getD_eq_getElem?_getD, List.getElem?_eq_getElem (show l.length - 1 < l.length by omega)]
theorem ix_snoc (l : List D) (d : D) : atI (l ++ [d]) (-1) = some d := by
  unfold atI ixN
  rw [if_neg (by omega), if_pos (by simp; omega)]
  simp
  rw [show ((-1 : Int) + ((l.length : Int) + 1)).toNat = l.length by omega]
  simp
theorem setL_snoc (l : List D) (d e : D) : setL (l ++ [d]) (-1) e = some (l ++ [e]) := by
  unfold setL ixN
  rw [if_neg (by omega), if_pos (by simp; omega)]
  simp
  rw [show ((-1 : Int) + ((l.length : Int) + 1)).toNat = l.length by omega]
  simp
theorem setL_s {α : Type} (f : α → D) (l : List α) (i : Int) (a : α) (h : 0 ≤ i ∧ i < l.length) : setL (l.map f) i (f a) = some ((l.set i.toNat a).map f) := by
  unfold setL ixN
  rw [if_pos h.1]
  simp [List.map_set, h]
/-! slices -/
theorem cut_from (l : List D) (k : Int) (h : 0 ≤ k) : cutD l (some k) none = l.drop k.toNat := by
  obtain ⟨n, rfl⟩ : ∃ n : Nat, k = n := ⟨k.toNat, by omega⟩
  unfold cutD
  rw [HT.sIx_nat, HT.sIx_none, Int.toNat_natCast]
  rw [List.take_of_length_le (by simp)]
  by_cases hn : n ≤ l.length
  · rw [Nat.min_eq_left hn]
  · rw [Nat.min_eq_right (by omega), List.drop_eq_nil_of_le (Nat.le_refl _), List.drop_eq_nil_of_le (by omega)]
theorem cut_to (l : List D) (k : Int) (h : 0 ≤ k) : cutD l none (some k) = l.take k.toNat := by
  obtain ⟨n, rfl⟩ : ∃ n : Nat, k = n := ⟨k.toNat, by omega⟩
  unfold cutD
  rw [HT.sIx_nat, HT.sIx_none, Int.toNat_natCast]
  rw [List.drop_zero, Nat.sub_zero]
  by_cases hn : n ≤ l.length
  · rw [Nat.min_eq_left hn]
  · rw [Nat.min_eq_right (by omega), List.take_of_length_le (Nat.le_refl _), List.take_of_length_le (by omega)]
theorem cut_mid (l : List D) (k m : Int) (h : 0 ≤ k) (h' : 0 ≤ m) : cutD l (some k) (some m) = (l.take m.toNat).drop k.toNat := by
  obtain ⟨n, rfl⟩ : ∃ n : Nat, k = n := ⟨k.toNat, by omega⟩
  obtain ⟨j, rfl⟩ : ∃ n : Nat, m = n := ⟨m.toNat, by omega⟩
  unfold cutD
  rw [HT.sIx_nat, HT.sIx_nat, Int.toNat_natCast, Int.toNat_natCast]
  apply List.ext_getElem?
  intro i
  rw [List.getElem?_take, List.getElem?_drop, List.getElem?_drop, List.getElem?_take]
  by_cases h1 : n ≤ l.length
  · rw [Nat.min_eq_left h1]
    by_cases h2 : n + i < l.length
    · by_cases h3 : n + i < j
      · rw [if_pos (by omega), if_pos h3]
      · rw [if_neg (by omega), if_neg h3]
    · rw [List.getElem?_eq_none (by omega)]
      simp
  · have a1 : l[l.length + i]? = none := List.getElem?_eq_none (by omega)
    have a2 : l[n + i]? = none := List.getElem?_eq_none (by omega)
    rw [Nat.min_eq_right (show l.length ≤ n by omega), a1, a2]
    simp
/-! sums, all, any of embedded lists -/
theorem getInts_m {α : Type} (f : α → Int) (l : List α) : getInts (l.map fun a => D.int (f a)) = some (l.map f) := by
  have := getInts_of (l.map f)
  rwa [List.map_map] at this
theorem getBls_m {α : Type} (f : α → Bool) (l : List α) : getBls (l.map fun a => D.bl (f a)) = some (l.map f) := by
  have := getBls_of (l.map f)
  rwa [List.map_map] at this
theorem sum_m {α : Type} (f : α → Int) (l : List α) : sumD (.lst (l.map fun a => D.int (f a))) = some (.int (l.map f).sum) := by
  show (getInts _).map _ = _
  rw [getInts_m]; rfl
theorem all_m {α : Type} (f : α → Bool) (l : List α) : allD (.lst (l.map fun a => D.bl (f a))) = some (.bl (l.all f)) := by
  show (getBls _).map _ = _
  rw [getBls_m]; simp
theorem any_m {α : Type} (f : α → Bool) (l : List α) : anyD (.lst (l.map fun a => D.bl (f a))) = some (.bl (l.any f)) := by
  show (getBls _).map _ = _
  rw [getBls_m]; simp
/-! while -/
theorem loopW_succ (t : Tf) (b : Sf) (ks : List Nat) (n : Nat) (ρ : Rho) : loopW t b ks (n + 1) ρ = (t ρ).bind fun p => if p.1 then (b p.2).bind fun o => match o with
      | .nx ρ' => loopW t b ks n (kill ks ρ')
      | .ct ρ' => loopW t b ks n (kill ks ρ')
      | .bk ρ' => some (.nx (kill ks ρ'))
      | .rt d ρ' => some (.rt d ρ')
    else some (.nx p.2) := rfl
theorem loopW_go {t : Tf} {b : Sf} {ks : List Nat} {n : Nat} {ρ ρ1 ρ2 : Rho} (h : t ρ = some (true, ρ1)) (k : (b ρ1).bind (nxOf ks) = some ρ2) : loopW t b ks (n + 1) ρ = loopW t b ks n ρ2 := by
  rw [loopW_succ, h]
  simp only [Option.bind_some, if_true]
  cases e : b ρ1 with
  | none => rw [e] at k; cases k
  | some o =>
    rw [e] at k
    cases o with
    | nx r => cases k; rfl
    | ct r => cases k; rfl
    | bk r => cases k
    | rt d r => cases k
theorem loopW_end {t : Tf} {b : Sf} {ks : List Nat} {n : Nat} {ρ ρ1 : Rho} (h : t ρ = some (false, ρ1)) : loopW t b ks (n + 1) ρ = some (.nx ρ1) := by
  rw [loopW_succ, h]; rfl
theorem sWhile_eq (n : Nat) (ks : List Nat) (t : Tf) (b : Sf) (ρ : Rho) : sWhile n ks t b ρ = loopW t b ks n (kill ks ρ) := rfl
/-- a loop whose turns all go on: by the turn's function on states -/
theorem loop_all {α σ : Type} {b : D → Rho → Option Out} {ks : List Nat} (emb : α → D) (st : σ → Rho) (f : σ → α → σ) (I : List α → σ → Prop) : ∀ (l pre : List α) (s : σ), I pre s →
    (∀ pre' a post, pre ++ l = pre' ++ a :: post → ∀ s, I pre' s → (b (emb a) (st s)).bind (nxOf ks) = some (st (f s a)) ∧ I (pre' ++ [a]) (f s a)) → loopF b ks (l.map emb) (st s) = some (.nx (st (l.foldl f s))) ∧ I (pre ++ l) (l.foldl f s)
  | [], pre, s, hi, _ => ⟨rfl, by simpa using hi⟩
  | a :: l, pre, s, hi, h => by
    obtain ⟨e1, i1⟩ := h pre a l rfl s hi
    obtain ⟨e2, i2⟩ := loop_all emb st f I l (pre ++ [a]) _ i1 fun pre' a' post e => h pre' a' post (by simpa using e)
    exact ⟨by rw [List.map_cons, loop_go e1, e2]; rfl, by simpa using i2⟩
/-! zip -/
theorem zip_m {α β : Type} (f : α → D) (g : β → D) (l : List α) (m : List β) : zipD (l.map f) (m.map g) = (l.zip m).map fun p => D.tup [f p.1, g p.2] := by
  unfold zipD
  rw [List.zip_map, List.map_map]
  rfl
/-! the order of data is total -/
theorem ltD_irr (a : D) : ltD a a = false := PyProof.Rows.lex_irrefl _
theorem ltD_asym {a b : D} (h : ltD a b = true) : ltD b a = false := by
  cases e : ltD b a with
  | false => rfl
  | true =>
    have := PyProof.Rows.lex_trans _ _ _ h e
    rw [PyProof.Rows.lex_irrefl] at this
    cases this
theorem ltD_tri {a b : D} (h : ltD a b = false) (k : ltD b a = false) : PySem.W.keyToks (py a) = PySem.W.keyToks (py b) := PyProof.Rows.lex_total _ _ h k
theorem ltD_trans {a b c : D} (h : ltD a b = true) (k : ltD b c = true) : ltD a c = true := PyProof.Rows.lex_trans _ _ _ h k
theorem pys_map {α : Type} (f : α → D) : ∀ l : List α, pys (l.map f) = l.map fun a => py (f a)
  | [] => rfl
  | a :: l => by rw [List.map_cons, List.map_cons, pys, pys_map f l]
end TL

namespace TL
open PySem PySem.Spec PyProof.Rows L2
/-- a loop that may end with a result -/
theorem loop_ret {α : Type} {b : D → Rho → Option Out} {ks : List Nat} (emb : α → D) (ρ : Rho) (p : α → Bool) (d : D) : ∀ (l : List α),
    (∀ a ∈ l, (p a = true → ∃ r, b (emb a) ρ = some (.rt d r)) ∧ (p a = false → (b (emb a) ρ).bind (nxOf ks) = some ρ)) →
    (l.any p = true → ∃ r, loopF b ks (l.map emb) ρ = some (.rt d r)) ∧ (l.any p = false → loopF b ks (l.map emb) ρ = some (.nx ρ))
  | [], h => ⟨fun h => by simp at h, fun _ => rfl⟩
  | a :: l, h => by
    obtain ⟨h1, h2⟩ := h a (by simp)
    obtain ⟨h3, h4⟩ := loop_ret emb ρ p d l fun a ha => h a (by simp [ha])
    cases hp : p a with
    | true =>
      obtain ⟨r, e⟩ := h1 hp
      refine ⟨fun _ => ⟨r, ?_⟩, fun k => ?_⟩
      · rw [List.map_cons, loop_rt e]
      · simp [hp] at k
    | false =>
      rw [List.any_cons, hp, Bool.false_or, List.map_cons, loop_go (h2 hp)]
      exact ⟨h3, h4⟩
/-- a result, whatever becomes of the slots -/
theorem exo {α β : Type} {x : Option (α × β)} {v : α} (h : x.map (fun p => p.1) = some v) : ∃ l, x = some (v, l) := by
  cases x with
  | none => cases h
  | some p => obtain ⟨a, b⟩ := p; simp at h; subst h; exact ⟨b, rfl⟩
/-- ends with True -/
def Tru (b : Sf) (ρ : Rho) : Prop := ∃ r, b ρ = some (.rt (.bl true) r)
theorem Tru.seq {f g : Sf} {ρ ρ1 : Rho} (h : f ρ = some (.nx ρ1)) (k : Tru g ρ1) : Tru (sSeq f g) ρ := by
  obtain ⟨r, e⟩ := k
  exact ⟨r, by rw [v_sSeq, h]; exact e⟩
theorem Tru.law {b : Sf} {m : Nat} {ns : List Int} (h : Tru b ([D.scr ns] ++ List.replicate m .non)) : ∃ r, runF b 1 m [.scr ns] = some (.bl true, r) := by
  obtain ⟨r, e⟩ := h
  rw [v_run1, e]
  exact ⟨_, rfl⟩
theorem next_nat (ns : List Int) (s : Dr) (h : s.ok) (m : Int) (h0 : 0 < m) (hm : m ≤ 1000000000000000000) : ∃ (v : Nat) (s' : Dr), s'.ok ∧ (v : Int) < m ∧ runF b__law_next 2 2 [drD ns s, .int m] = some (.int (v : Int), [drD ns s', .int m]) := by
  obtain ⟨v, s', ok, v0, vm, e⟩ := next_ok ns s h m h0 hm
  refine ⟨v.toNat, s', ok, by omega, ?_⟩
  rw [show ((v.toNat : Nat) : Int) = v by omega]
  exact e
/-- prefix of a range -/
theorem range_pre {n : Nat} {pre post : List Nat} {a : Nat} (h : [] ++ List.range n = pre ++ a :: post) : a = pre.length ∧ pre.length < n := by
  have h1 : (List.range n)[pre.length]? = some a := by
    rw [List.nil_append] at h
    rw [h]; simp
  have h2 : pre.length < n := by
    have := (List.getElem?_eq_some_iff.mp h1).1
    simpa using this
  rw [List.getElem?_range h2] at h1
  exact ⟨(Option.some.inj h1).symm, h2⟩
end TL

namespace K51
open PySem PySem.Spec PyProof.Rows L2 TL
-- printed by gen.py from the linked text
def nT : Nat := 1000
def topS (i : Nat) : Stmt := PySem.Challenge.pw_farcall_k51_phrases_and_marks.main.body.getD i (.Pass ⟨0, 0, 0, 0⟩)
def k_SIGN_COST : D := (.int 9)
def k_COPY_COST : D := (.int 17)
def k_BACK_MOST : D := (.int 255)
def k_MANY_MOST : D := (.int 60)
/-! ### is_integer(thing): slots 0 thing -/
abbrev s_is_integer : Stmt := topS 1
theorem sc_is_integer : FnScope ["thing"] ["thing"] (defScope s_is_integer) := ⟨rfl, rfl, rfl, by decide +kernel, rfl, by decide +kernel, by decide +kernel⟩
def b_is_integer : Sf := (sRet (eAnd (eIsI .int (eVar 0)) (eNot (eIsI .bool (eVar 0)))))
abbrev sg_is_integer : Sg := ⟨[.sh], .sh⟩
abbrev ps_is_integer : List Str := ["thing"]
theorem c_is_integer {P : Program} {w : World} {K : PySem.W.Frag} {mg : Str → Option Value} {base : Heap} {f : Addr} {fd : FuncData} {k : Nat} (D : Dfn K mg "is_integer" s_is_integer ps_is_integer f fd) (z_isinstance : mg "isinstance" = none) (z_int : mg "int" = none) (z_bool : mg "bool" = none) :
    Cal P w K mg base f fd "is_integer" (k + 1) ps_is_integer sg_is_integer (runF (b_is_integer) 1 0) := by
  unfold b_is_integer 
  exact cal_ok (sg := sg_is_integer) (τ' := [.no]) D sc_is_integer ⟨[], .sh, [.no], [], []⟩ 0 rfl rfl rfl rfl rfl rfl (.inl rfl) fun cdv A outer s H E hr => (dss_one (ds_ret (de_and (de_isI .int (by rfl) z_isinstance bt_isinstance (by rfl) z_int bt_int (de_var 0 (pv 0))) (de_one (de_not (de_isI .bool (by rfl) z_isinstance bt_isinstance (by rfl) z_bool bt_bool (de_var 0 (pv 0))))))))
def F_is_integer : Fm := runF b_is_integer 1 0
/-! ### runs_of(signs): slots 0 signs 1 found 2 sign -/
abbrev s_runs_of : Stmt := topS 7
theorem sc_runs_of : FnScope ["signs", "found", "sign"] ["signs"] (defScope s_runs_of) := ⟨rfl, rfl, rfl, by decide +kernel, rfl, by decide +kernel, by decide +kernel⟩
def q1_runs_of : Sf := (sIf (tAnd' (tB (eOwn 1)) (tBl (eBin dEq (eBin dIx (eBin dIx (eOwn 1) (eUn dNeg (eC (.int 1)))) (eC (.int 0))) (eVar 2)))) (sSetIx 1 (eTup (aCons (eVar 2) (aCons (eBin dAdd (eBin dIx (eBin dIx (eOwn 1) (eUn dNeg (eC (.int 1)))) (eC (.int 1))) (eC (.int 1))) aNil))) (eUn dNeg (eC (.int 1)))) (sApp 1 (eTup (aCons (eVar 2) (aCons (eC (.int 1)) aNil)))))
def b_runs_of : Sf := (sSeq (sSetO 1 (oLst aNil)) (sSeq (sFor [2] (iSeq (eVar 0)) (gNm 2) q1_runs_of) (sRet (eCa (f1 tupleD) (aCons (eOwn 1) aNil)))))
abbrev sg_runs_of : Sg := ⟨[.sh], .sh⟩
abbrev ps_runs_of : List Str := ["signs"]
theorem c_runs_of {P : Program} {w : World} {K : PySem.W.Frag} {mg : Str → Option Value} {base : Heap} {f : Addr} {fd : FuncData} {k : Nat} (D : Dfn K mg "runs_of" s_runs_of ps_runs_of f fd) (z_tuple : mg "tuple" = none) :
    Cal P w K mg base f fd "runs_of" (k + 1) ps_runs_of sg_runs_of (runF (b_runs_of) 1 2) := by
  unfold b_runs_of q1_runs_of
  exact cal_ok (sg := sg_runs_of) (τ' := [.no, .no, .no]) D sc_runs_of ⟨[], .sh, [.no, .no, .no], [], []⟩ 2 rfl rfl rfl rfl rfl rfl (.inl rfl) fun cdv A outer s H E hr => (dss_cons (ds_setO 1 sc_runs_of.nd rfl (by first | exact .inl rfl | exact .inr rfl) (do_lst da_nil)) (dss_cons (ds_for (tbk := [.sh, (.oL .sh), .no]) (tct := [.sh, (.oL .sh), .no]) [2] PassesOwn.never rfl (di_seq (de_var 0 (pv 0))) (dg_name 2 sc_runs_of.nd rfl (by first | exact .inl rfl | exact .inr rfl)) (dss_one (ds_if (dt_w (dw_and (dt_truth (de_own 1 (pv 1))) (dw_and1 (dt_cmp (op_eqD (hu64 hr)) od_eq (de_ix ix_seq od_ix (de_ix ix_seq od_ix (de_own 1 (pv 1)) (de_un un_neg ud_neg de_int) (fun _ _ => rfl)) de_int (fun _ _ => rfl)) (de_var 2 (pv 2)) (nomark _))))) (dss_one (ds_setix 1 (de_tup (da_cons (de_var 2 (pv 2)) (da_cons (de_bin op_addD od_add (de_ix ix_seq od_ix (de_ix ix_seq od_ix (de_own 1 (pv 1)) (de_un un_neg ud_neg de_int) (fun _ _ => rfl)) de_int (fun _ _ => rfl)) de_int) da_nil))) (pv 1) (de_un un_neg ud_neg de_int))) (dss_one (ds_app 1 (pv 1) (de_tup (da_cons (de_var 2 (pv 2)) (da_cons de_int da_nil)))))))) (dss_one (ds_ret (de_callTy call_tuple_of ca_tuple (by rfl) z_tuple bt_tuple (da_cons (de_own 1 (pv 1)) da_nil))))))
def F_runs_of : Fm := runF b_runs_of 1 2
/-! ### signs_of_runs(runs): slots 0 runs 1 found 2 sign 3 many -/
abbrev s_signs_of_runs : Stmt := topS 8
theorem sc_signs_of_runs : FnScope ["runs", "found", "sign", "many"] ["runs"] (defScope s_signs_of_runs) := ⟨rfl, rfl, rfl, by decide +kernel, rfl, by decide +kernel, by decide +kernel⟩
def q1_signs_of_runs : Sf := (sAsg (eBin dAdd (eVar 1) (eBin dMul' (eTup (aCons (eVar 2) aNil)) (eVar 3))) (gNm 1))
def b_signs_of_runs : Sf := (sSeq (sAsg (eTup aNil) (gNm 1)) (sSeq (sFor [2, 3] (iSeq (eVar 0)) (gTp (gsCons (gNm 2) (gsCons (gNm 3) gsNil))) q1_signs_of_runs) (sRet (eVar 1))))
abbrev sg_signs_of_runs : Sg := ⟨[.sh], .sh⟩
abbrev ps_signs_of_runs : List Str := ["runs"]
theorem c_signs_of_runs {P : Program} {w : World} {K : PySem.W.Frag} {mg : Str → Option Value} {base : Heap} {f : Addr} {fd : FuncData} {k : Nat} (D : Dfn K mg "signs_of_runs" s_signs_of_runs ps_signs_of_runs f fd) :
    Cal P w K mg base f fd "signs_of_runs" (k + 1) ps_signs_of_runs sg_signs_of_runs (runF (b_signs_of_runs) 1 3) := by
  unfold b_signs_of_runs q1_signs_of_runs
  exact cal_ok (sg := sg_signs_of_runs) (τ' := [.no, .no, .no, .no]) D sc_signs_of_runs ⟨[], .sh, [.no, .no, .no, .no], [], []⟩ 3 rfl rfl rfl rfl rfl rfl (.inl rfl) fun cdv A outer s H E hr => (dss_cons (ds_set 1 sc_signs_of_runs.nd rfl (by first | exact .inl rfl | exact .inr rfl) (de_tup da_nil)) (dss_cons (ds_for (tbk := [.sh, .sh, .no, .no]) (tct := [.sh, .sh, .no, .no]) [2, 3] PassesOwn.never rfl (di_seq (de_var 0 (pv 0))) (dg_tup rfl (dgs_cons (dg_name 2 sc_signs_of_runs.nd rfl (by first | exact .inl rfl | exact .inr rfl)) (dgs_cons (dg_name 3 sc_signs_of_runs.nd rfl (by first | exact .inl rfl | exact .inr rfl)) dgs_nil)) (gsCons_len (gsCons_len gsNil_len))) (dss_one (ds_set 1 sc_signs_of_runs.nd rfl (by first | exact .inl rfl | exact .inr rfl) (de_bin op_addD od_add (de_var 1 (pv 1)) (de_bin op_mulD' od_mul' (de_tup (da_cons (de_var 2 (pv 2)) da_nil)) (de_var 3 (pv 3))))))) (dss_one (ds_ret (de_var 1 (pv 1))))))
def F_signs_of_runs : Fm := runF b_signs_of_runs 1 3
/-! ### steps_of(signs): slots 0 signs 1 found 2 before 3 sign -/
abbrev s_steps_of : Stmt := topS 9
theorem sc_steps_of : FnScope ["signs", "found", "before", "sign"] ["signs"] (defScope s_steps_of) := ⟨rfl, rfl, rfl, by decide +kernel, rfl, by decide +kernel, by decide +kernel⟩
def q1_steps_of : Sf := (sApp 1 (eBin dMod (eBin dSub (eVar 3) (eVar 2)) (eC (.int 256))))
def b_steps_of : Sf := (sSeq (sSetO 1 (oCa (f1L listD) (aCons (eSl dSl (eVar 0) pNo (pSome (eC (.int 1)))) aNil))) (sSeq (sFor [2, 3] (iZp (aCons (eVar 0) (aCons (eSl dSl (eVar 0) (pSome (eC (.int 1))) pNo) aNil))) (gTp (gsCons (gNm 2) (gsCons (gNm 3) gsNil))) q1_steps_of) (sRet (eCa (f1 tupleD) (aCons (eOwn 1) aNil)))))
abbrev sg_steps_of : Sg := ⟨[.sh], .sh⟩
abbrev ps_steps_of : List Str := ["signs"]
theorem c_steps_of {P : Program} {w : World} {K : PySem.W.Frag} {mg : Str → Option Value} {base : Heap} {f : Addr} {fd : FuncData} {k : Nat} (D : Dfn K mg "steps_of" s_steps_of ps_steps_of f fd) (z_list : mg "list" = none) (z_zip : mg "zip" = none) (z_tuple : mg "tuple" = none) :
    Cal P w K mg base f fd "steps_of" (k + 1) ps_steps_of sg_steps_of (runF (b_steps_of) 1 3) := by
  unfold b_steps_of q1_steps_of
  exact cal_ok (sg := sg_steps_of) (τ' := [.no, .no, .no, .no]) D sc_steps_of ⟨[], .sh, [.no, .no, .no, .no], [], []⟩ 3 rfl rfl rfl rfl rfl rfl (.inl rfl) fun cdv A outer s H E hr => (dss_cons (ds_setO 1 sc_steps_of.nd rfl (by first | exact .inl rfl | exact .inr rfl) (do_callTy call_list_of co_list (by rfl) z_list bt_list (da_cons (de_slice sl_D sd_sl (de_var 0 (pv 0)) dp_no (dp_some de_int)) da_nil))) (dss_cons (ds_for (tbk := [.sh, (.oL .sh), .no, .no]) (tct := [.sh, (.oL .sh), .no, .no]) [2, 3] PassesOwn.never rfl (di_zip (by rfl) z_zip (da_cons (de_var 0 (pv 0)) (da_cons (de_slice sl_D sd_sl (de_var 0 (pv 0)) (dp_some de_int) dp_no) da_nil))) (dg_tup rfl (dgs_cons (dg_name 2 sc_steps_of.nd rfl (by first | exact .inl rfl | exact .inr rfl)) (dgs_cons (dg_name 3 sc_steps_of.nd rfl (by first | exact .inl rfl | exact .inr rfl)) dgs_nil)) (gsCons_len (gsCons_len gsNil_len))) (dss_one (ds_app 1 (pv 1) (de_bin op_mod od_mod (de_bin op_sub od_sub (de_var 3 (pv 3)) (de_var 2 (pv 2))) de_int)))) (dss_one (ds_ret (de_callTy call_tuple_of ca_tuple (by rfl) z_tuple bt_tuple (da_cons (de_own 1 (pv 1)) da_nil))))))
def F_steps_of : Fm := runF b_steps_of 1 3
/-! ### signs_of_steps(steps): slots 0 steps 1 found 2 step -/
abbrev s_signs_of_steps : Stmt := topS 10
theorem sc_signs_of_steps : FnScope ["steps", "found", "step"] ["steps"] (defScope s_signs_of_steps) := ⟨rfl, rfl, rfl, by decide +kernel, rfl, by decide +kernel, by decide +kernel⟩
def q1_signs_of_steps : Sf := (sApp 1 (eIf (tB (eOwn 1)) (eBin dMod (eBin dAdd (eBin dIx (eOwn 1) (eUn dNeg (eC (.int 1)))) (eVar 2)) (eC (.int 256))) (eVar 2)))
def b_signs_of_steps : Sf := (sSeq (sSetO 1 (oLst aNil)) (sSeq (sFor [2] (iSeq (eVar 0)) (gNm 2) q1_signs_of_steps) (sRet (eCa (f1 tupleD) (aCons (eOwn 1) aNil)))))
abbrev sg_signs_of_steps : Sg := ⟨[.sh], .sh⟩
abbrev ps_signs_of_steps : List Str := ["steps"]
theorem c_signs_of_steps {P : Program} {w : World} {K : PySem.W.Frag} {mg : Str → Option Value} {base : Heap} {f : Addr} {fd : FuncData} {k : Nat} (D : Dfn K mg "signs_of_steps" s_signs_of_steps ps_signs_of_steps f fd) (z_tuple : mg "tuple" = none) :
    Cal P w K mg base f fd "signs_of_steps" (k + 1) ps_signs_of_steps sg_signs_of_steps (runF (b_signs_of_steps) 1 2) := by
  unfold b_signs_of_steps q1_signs_of_steps
  exact cal_ok (sg := sg_signs_of_steps) (τ' := [.no, .no, .no]) D sc_signs_of_steps ⟨[], .sh, [.no, .no, .no], [], []⟩ 2 rfl rfl rfl rfl rfl rfl (.inl rfl) fun cdv A outer s H E hr => (dss_cons (ds_setO 1 sc_signs_of_steps.nd rfl (by first | exact .inl rfl | exact .inr rfl) (do_lst da_nil)) (dss_cons (ds_for (tbk := [.sh, (.oL .sh), .no]) (tct := [.sh, (.oL .sh), .no]) [2] PassesOwn.never rfl (di_seq (de_var 0 (pv 0))) (dg_name 2 sc_signs_of_steps.nd rfl (by first | exact .inl rfl | exact .inr rfl)) (dss_one (ds_app 1 (pv 1) (de_if (dt_truth (de_own 1 (pv 1))) (de_bin op_mod od_mod (de_bin op_addD od_add (de_ix ix_seq od_ix (de_own 1 (pv 1)) (de_un un_neg ud_neg de_int) (fun _ _ => rfl)) (de_var 2 (pv 2))) de_int) (de_var 2 (pv 2)))))) (dss_one (ds_ret (de_callTy call_tuple_of ca_tuple (by rfl) z_tuple bt_tuple (da_cons (de_own 1 (pv 1)) da_nil))))))
def F_signs_of_steps : Fm := runF b_signs_of_steps 1 2
/-! ### length_of(phrase): slots 0 phrase -/
abbrev s_length_of : Stmt := topS 12
theorem sc_length_of : FnScope ["phrase"] ["phrase"] (defScope s_length_of) := ⟨rfl, rfl, rfl, by decide +kernel, rfl, by decide +kernel, by decide +kernel⟩
def b_length_of : Sf := (sRet (eIf (tBl (eBin dEq (eBin dIx (eVar 0) (eC (.int 0))) (eC (.str "sign")))) (eC (.int 1)) (eBin dIx (eVar 0) (eC (.int 2)))))
abbrev sg_length_of : Sg := ⟨[.sh], .sh⟩
abbrev ps_length_of : List Str := ["phrase"]
theorem c_length_of {P : Program} {w : World} {K : PySem.W.Frag} {mg : Str → Option Value} {base : Heap} {f : Addr} {fd : FuncData} {k : Nat} (D : Dfn K mg "length_of" s_length_of ps_length_of f fd) :
    Cal P w K mg base f fd "length_of" (k + 1) ps_length_of sg_length_of (runF (b_length_of) 1 0) := by
  unfold b_length_of 
  exact cal_ok (sg := sg_length_of) (τ' := [.no]) D sc_length_of ⟨[], .sh, [.no], [], []⟩ 0 rfl rfl rfl rfl rfl rfl (.inl rfl) fun cdv A outer s H E hr => (dss_one (ds_ret (de_if (dt_cmp (op_eqD (hu64 hr)) od_eq (de_ix ix_seq od_ix (de_var 0 (pv 0)) de_int (fun _ _ => rfl)) de_str (nomark _)) de_int (de_ix ix_seq od_ix (de_var 0 (pv 0)) de_int (fun _ _ => rfl)))))
def F_length_of : Fm := runF b_length_of 1 0
/-! ### is_sound(phrases): slots 0 phrases 1 place 2 phrase -/
abbrev s_is_sound : Stmt := topS 11
theorem sc_is_sound : FnScope ["phrases", "place", "phrase"] ["phrases"] (defScope s_is_sound) := ⟨rfl, rfl, rfl, by decide +kernel, rfl, by decide +kernel, by decide +kernel⟩
def q1_is_sound : Sf := (sSeq (sIf (tAnd' (tBl (eBin dEq (eBin dIx (eVar 2) (eC (.int 0))) (eC (.str "copy")))) (tBl (eBin dGt (eBin dIx (eVar 2) (eC (.int 1))) (eVar 1)))) (sRet (eC (.bl false))) sNil) (sAsg (eBin dAdd (eVar 1) (eF (oCall F_length_of (aCons (eVar 2) aNil)))) (gNm 1)))
def b_is_sound : Sf := (sSeq (sAsg (eC (.int 0)) (gNm 1)) (sSeq (sFor [2] (iSeq (eVar 0)) (gNm 2) q1_is_sound) (sRet (eC (.bl true)))))
abbrev sg_is_sound : Sg := ⟨[.sh], .sh⟩
abbrev ps_is_sound : List Str := ["phrases"]
theorem c_is_sound {P : Program} {w : World} {K : PySem.W.Frag} {mg : Str → Option Value} {base : Heap} {f : Addr} {fd : FuncData} {k : Nat} (D : Dfn K mg "is_sound" s_is_sound ps_is_sound f fd) {f_length_of : Addr} {fd_length_of : FuncData} (c_length_of : Cal P w K mg base f_length_of fd_length_of "length_of" k ps_length_of sg_length_of F_length_of) :
    Cal P w K mg base f fd "is_sound" (k + 1) ps_is_sound sg_is_sound (runF (b_is_sound) 1 2) := by
  unfold b_is_sound q1_is_sound
  exact cal_ok (sg := sg_is_sound) (τ' := [.no, .no, .no]) D sc_is_sound ⟨[], .sh, [.no, .no, .no], [], []⟩ 2 rfl rfl rfl rfl rfl rfl (.inl rfl) fun cdv A outer s H E hr => (dss_cons (ds_set 1 sc_is_sound.nd rfl (by first | exact .inl rfl | exact .inr rfl) de_int) (dss_cons (ds_for (tbk := [.sh, .sh, .no]) (tct := [.sh, .sh, .no]) [2] PassesOwn.never rfl (di_seq (de_var 0 (pv 0))) (dg_name 2 sc_is_sound.nd rfl (by first | exact .inl rfl | exact .inr rfl)) (dss_cons (ds_if (dt_w (dw_and (dt_cmp (op_eqD (hu64 hr)) od_eq (de_ix ix_seq od_ix (de_var 2 (pv 2)) de_int (fun _ _ => rfl)) de_str (nomark _)) (dw_and1 (dt_cmp op_gt od_gt (de_ix ix_seq od_ix (de_var 2 (pv 2)) de_int (fun _ _ => rfl)) (de_var 1 (pv 1)) (nomark _))))) (dss_one (ds_ret de_bl)) dss_nil) (dss_one (ds_set 1 sc_is_sound.nd rfl (by first | exact .inl rfl | exact .inr rfl) (de_bin op_addD od_add (de_var 1 (pv 1)) (de_F (do_fn c_length_of hr 1 (by rfl) (da_cons (de_var 2 (pv 2)) da_nil)))))))) (dss_one (ds_ret de_bl))))
def F_is_sound : Fm := runF b_is_sound 1 2
/-! ### told_signs(phrases): slots 0 phrases 1 found 2 phrase 3 _ -/
abbrev s_told_signs : Stmt := topS 13
theorem sc_told_signs : FnScope ["phrases", "found", "phrase", "_"] ["phrases"] (defScope s_told_signs) := ⟨rfl, rfl, rfl, by decide +kernel, rfl, by decide +kernel, by decide +kernel⟩
def q1_told_signs : Sf := (sApp 1 (eBin dIx (eOwn 1) (eUn dNeg (eBin dIx (eVar 2) (eC (.int 1))))))
def q2_told_signs : Sf := (sIf (tBl (eBin dEq (eBin dIx (eVar 2) (eC (.int 0))) (eC (.str "sign")))) (sApp 1 (eBin dIx (eVar 2) (eC (.int 1)))) (sFor [3] (TL.iRng1 (aCons (eBin dIx (eVar 2) (eC (.int 2))) aNil)) (gNm 3) q1_told_signs))
def b_told_signs : Sf := (sSeq (sSetO 1 (oLst aNil)) (sSeq (sFor [2, 3] (iSeq (eVar 0)) (gNm 2) q2_told_signs) (sRet (eCa (f1 tupleD) (aCons (eOwn 1) aNil)))))
abbrev sg_told_signs : Sg := ⟨[.sh], .sh⟩
abbrev ps_told_signs : List Str := ["phrases"]
theorem c_told_signs {P : Program} {w : World} {K : PySem.W.Frag} {mg : Str → Option Value} {base : Heap} {f : Addr} {fd : FuncData} {k : Nat} (D : Dfn K mg "told_signs" s_told_signs ps_told_signs f fd) (z_range : mg "range" = none) (z_tuple : mg "tuple" = none) :
    Cal P w K mg base f fd "told_signs" (k + 1) ps_told_signs sg_told_signs (runF (b_told_signs) 1 3) := by
  unfold b_told_signs q2_told_signs q1_told_signs
  exact cal_ok (sg := sg_told_signs) (τ' := [.no, .no, .no, .no]) D sc_told_signs ⟨[], .sh, [.no, .no, .no, .no], [], []⟩ 3 rfl rfl rfl rfl rfl rfl (.inl rfl) fun cdv A outer s H E hr => (dss_cons (ds_setO 1 sc_told_signs.nd rfl (by first | exact .inl rfl | exact .inr rfl) (do_lst da_nil)) (dss_cons (ds_for (tbk := [.sh, (.oL .sh), .no, .no]) (tct := [.sh, (.oL .sh), .no, .no]) [2, 3] PassesOwn.never rfl (di_seq (de_var 0 (pv 0))) (dg_name 2 sc_told_signs.nd rfl (by first | exact .inl rfl | exact .inr rfl)) (dss_one (ds_if (dt_cmp (op_eqD (hu64 hr)) od_eq (de_ix ix_seq od_ix (de_var 2 (pv 2)) de_int (fun _ _ => rfl)) de_str (nomark _)) (dss_one (ds_app 1 (pv 1) (de_ix ix_seq od_ix (de_var 2 (pv 2)) de_int (fun _ _ => rfl)))) (dss_one (ds_for (tbk := [.sh, (.oL .sh), .sh, .no]) (tct := [.sh, (.oL .sh), .sh, .no]) [3] PassesOwn.never rfl (di_range1 (by rfl) z_range (da_cons (de_ix ix_seq od_ix (de_var 2 (pv 2)) de_int (fun _ _ => rfl)) da_nil)) (dg_name 3 sc_told_signs.nd rfl (by first | exact .inl rfl | exact .inr rfl)) (dss_one (ds_app 1 (pv 1) (de_ix ix_seq od_ix (de_own 1 (pv 1)) (de_un un_neg ud_neg (de_ix ix_seq od_ix (de_var 2 (pv 2)) de_int (fun _ _ => rfl))) (fun _ _ => rfl))))))))) (dss_one (ds_ret (de_callTy call_tuple_of ca_tuple (by rfl) z_tuple bt_tuple (da_cons (de_own 1 (pv 1)) da_nil))))))
def F_told_signs : Fm := runF b_told_signs 1 3
/-! ### cost_of(phrases): slots 0 phrases 1 phrase -/
abbrev s_cost_of : Stmt := topS 14
theorem sc_cost_of : FnScope ["phrases", "phrase"] ["phrases"] (defScope s_cost_of) := ⟨rfl, rfl, rfl, by decide +kernel, rfl, by decide +kernel, by decide +kernel⟩
def e1_cost_of : Of := (oE (eIf (tBl (eBin dEq (eBin dIx (eVar 1) (eC (.int 0))) (eC (.str "sign")))) (eC k_SIGN_COST) (eC k_COPY_COST)))
def b_cost_of : Sf := (sRet (eCa (f1 sumD) (aCons (eF (oLc [1] (iSeq (eVar 0)) (gNm 1) tYesF e1_cost_of)) aNil)))
abbrev sg_cost_of : Sg := ⟨[.sh], .sh⟩
abbrev ps_cost_of : List Str := ["phrases"]
theorem c_cost_of {P : Program} {w : World} {K : PySem.W.Frag} {mg : Str → Option Value} {base : Heap} {f : Addr} {fd : FuncData} {k : Nat} (D : Dfn K mg "cost_of" s_cost_of ps_cost_of f fd) (z_sum : mg "sum" = none) (c_SIGN_COST : KC K mg "SIGN_COST" k_SIGN_COST) (c_COPY_COST : KC K mg "COPY_COST" k_COPY_COST) :
    Cal P w K mg base f fd "cost_of" (k + 1) ps_cost_of sg_cost_of (runF (b_cost_of) 1 1) := by
  unfold b_cost_of e1_cost_of
  exact cal_ok (sg := sg_cost_of) (τ' := [.no, .no]) D sc_cost_of ⟨[], .sh, [.no, .no], [], []⟩ 1 rfl rfl rfl rfl rfl rfl (.inl rfl) fun cdv A outer s H E hr => (dss_one (ds_ret (de_callB (cr_sum rfl) ca_sum (by rfl) z_sum bt_sum (da_cons (de_F (do_lc (own := [("phrase", 1)]) rfl sc_cost_of.nd (di_seq (de_var 0 (pv 0))) (blkOk_by (by kernel_rfl)) (fun _ _ _ _ _ => (dg_name 1 sc_cost_of.nd rfl (by first | exact .inl rfl | exact .inr rfl))) (fun _ _ _ _ _ => dts_nil) (fun _ _ _ _ _ => (do_E (de_if (dt_cmp (op_eqD (hu64 hr)) od_eq (de_ix ix_seq od_ix (de_var 1 (pv 1)) de_int (fun _ _ => rfl)) de_str (nomark _)) (de_C (pe_glob (by rfl) c_SIGN_COST.mg c_SIGN_COST.rl) (fun G => c_SIGN_COST.rf G)) (de_C (pe_glob (by rfl) c_COPY_COST.mg c_COPY_COST.rl) (fun G => c_COPY_COST.rf G))))))) da_nil))))
def F_cost_of : Fm := runF b_cost_of 1 1
/-! ### copies_at(signs, place): slots 0 signs 1 place 2 found 3 back 4 many -/
abbrev s_copies_at : Stmt := topS 15
theorem sc_copies_at : FnScope ["signs", "place", "found", "back", "many"] ["signs", "place"] (defScope s_copies_at) := ⟨rfl, rfl, rfl, by decide +kernel, rfl, by decide +kernel, by decide +kernel⟩
def q1_copies_at : Sf := (sSeq (sAsg (eBin dAdd (eVar 4) (eC (.int 1))) (gNm 4)) (sIf (tBl (eBin dGe (eVar 4) (eC (.int 2)))) (sApp 2 (eTup (aCons (eC (.str "copy")) (aCons (eVar 3) (aCons (eVar 4) aNil))))) sNil))
def q2_copies_at : Sf := (sSeq (sAsg (eC (.int 0)) (gNm 4)) (sWhile nT [] (tAnd' (tBl (eBin dLt (eVar 4) (eC k_MANY_MOST))) (tAnd' (tBl (eBin dLt (eBin dAdd (eVar 1) (eVar 4)) (eCa (f1 lenD) (aCons (eVar 0) aNil)))) (tBl (eBin dEq (eBin dIx (eVar 0) (eBin dAdd (eVar 1) (eVar 4))) (eBin dIx (eVar 0) (eBin dSub (eBin dAdd (eVar 1) (eVar 4)) (eVar 3))))))) q1_copies_at))
def b_copies_at : Sf := (sSeq (sSetO 2 (oLst aNil)) (sSeq (sFor [3, 4] (TL.iRng2 (aCons (eC (.int 1)) (aCons (eBin dAdd (eCa (f2 min2D) (aCons (eC k_BACK_MOST) (aCons (eVar 1) aNil))) (eC (.int 1))) aNil))) (gNm 3) q2_copies_at) (sRet (eVar 2))))
abbrev sg_copies_at : Sg := ⟨[.sh, .sh], .sh⟩
abbrev ps_copies_at : List Str := ["signs", "place"]
theorem c_copies_at {P : Program} {w : World} {K : PySem.W.Frag} {mg : Str → Option Value} {base : Heap} {f : Addr} {fd : FuncData} {k : Nat} (D : Dfn K mg "copies_at" s_copies_at ps_copies_at f fd) (z_min : mg "min" = none) (z_range : mg "range" = none) (z_len : mg "len" = none) (c_BACK_MOST : KC K mg "BACK_MOST" k_BACK_MOST) (c_MANY_MOST : KC K mg "MANY_MOST" k_MANY_MOST) :
    Cal P w K mg base f fd "copies_at" (k + 1) ps_copies_at sg_copies_at (runF (b_copies_at) 2 3) := by
  unfold b_copies_at q2_copies_at q1_copies_at
  exact cal_ok (sg := sg_copies_at) (τ' := [.no, .no, .no, .no, .no]) D sc_copies_at ⟨[], .sh, [.no, .no, .no, .no, .no], [], []⟩ 3 rfl rfl rfl rfl rfl rfl (.inl rfl) fun cdv A outer s H E hr => (dss_cons (ds_setO 2 sc_copies_at.nd rfl (by first | exact .inl rfl | exact .inr rfl) (do_lst da_nil)) (dss_cons (ds_for (tbk := [.sh, .sh, (.oL .sh), .no, .no]) (tct := [.sh, .sh, (.oL .sh), .no, .no]) [3, 4] PassesOwn.never rfl (di_range2 (by rfl) z_range (da_cons de_int (da_cons (de_bin op_addD od_add (de_callB (call_min2 rfl) ca_min2 (by rfl) z_min bt_min (da_cons (de_C (pe_glob (by rfl) c_BACK_MOST.mg c_BACK_MOST.rl) (fun G => c_BACK_MOST.rf G)) (da_cons (de_var 1 (pv 1)) da_nil))) de_int) da_nil))) (dg_name 3 sc_copies_at.nd rfl (by first | exact .inl rfl | exact .inr rfl)) (dss_cons (ds_set 4 sc_copies_at.nd rfl (by first | exact .inl rfl | exact .inr rfl) de_int) (dss_one (ds_while (tbk := [.sh, .sh, (.oL .sh), .sh, .sh]) (tct := [.sh, .sh, (.oL .sh), .sh, .sh]) nT [] PassesOwn.never (dt_w (dw_and (dt_cmp op_lt od_lt (de_var 4 (pv 4)) (de_C (pe_glob (by rfl) c_MANY_MOST.mg c_MANY_MOST.rl) (fun G => c_MANY_MOST.rf G)) (nomark _)) (dw_and (dt_cmp op_lt od_lt (de_bin op_addD od_add (de_var 1 (pv 1)) (de_var 4 (pv 4))) (de_callB call_len ca_len (by rfl) z_len bt_len (da_cons (de_var 0 (pv 0)) da_nil)) (nomark _)) (dw_and1 (dt_cmp (op_eqD (hu64 hr)) od_eq (de_ix ix_seq od_ix (de_var 0 (pv 0)) (de_bin op_addD od_add (de_var 1 (pv 1)) (de_var 4 (pv 4))) (fun _ _ => rfl)) (de_ix ix_seq od_ix (de_var 0 (pv 0)) (de_bin op_sub od_sub (de_bin op_addD od_add (de_var 1 (pv 1)) (de_var 4 (pv 4))) (de_var 3 (pv 3))) (fun _ _ => rfl)) (nomark _)))))) (dss_cons (ds_set 4 sc_copies_at.nd rfl (by first | exact .inl rfl | exact .inr rfl) (de_bin op_addD od_add (de_var 4 (pv 4)) de_int)) (dss_one (ds_if (dt_cmp op_ge od_ge (de_var 4 (pv 4)) de_int (nomark _)) (dss_one (ds_app 2 (pv 2) (de_tup (da_cons de_str (da_cons (de_var 3 (pv 3)) (da_cons (de_var 4 (pv 4)) da_nil)))))) dss_nil))))))) (dss_frz 2 (dss_one (ds_ret (de_var 2 (pv 2)))))))
def F_copies_at : Fm := runF b_copies_at 2 3
/-! ### phrases_at(signs, place): slots 0 signs 1 place -/
abbrev s_phrases_at : Stmt := topS 16
theorem sc_phrases_at : FnScope ["signs", "place"] ["signs", "place"] (defScope s_phrases_at) := ⟨rfl, rfl, rfl, by decide +kernel, rfl, by decide +kernel, by decide +kernel⟩
def b_phrases_at : Sf := (sRet (eBin dAdd (eF (oLst (aCons (eTup (aCons (eC (.str "sign")) (aCons (eBin dIx (eVar 0) (eVar 1)) aNil))) aNil))) (eF (oCall F_copies_at (aCons (eVar 0) (aCons (eVar 1) aNil))))))
abbrev sg_phrases_at : Sg := ⟨[.sh, .sh], .sh⟩
abbrev ps_phrases_at : List Str := ["signs", "place"]
theorem c_phrases_at {P : Program} {w : World} {K : PySem.W.Frag} {mg : Str → Option Value} {base : Heap} {f : Addr} {fd : FuncData} {k : Nat} (D : Dfn K mg "phrases_at" s_phrases_at ps_phrases_at f fd) {f_copies_at : Addr} {fd_copies_at : FuncData} (c_copies_at : Cal P w K mg base f_copies_at fd_copies_at "copies_at" k ps_copies_at sg_copies_at F_copies_at) :
    Cal P w K mg base f fd "phrases_at" (k + 1) ps_phrases_at sg_phrases_at (runF (b_phrases_at) 2 0) := by
  unfold b_phrases_at 
  exact cal_ok (sg := sg_phrases_at) (τ' := [.no, .no]) D sc_phrases_at ⟨[], .sh, [.no, .no], [], []⟩ 0 rfl rfl rfl rfl rfl rfl (.inl rfl) fun cdv A outer s H E hr => (dss_one (ds_ret (de_bin op_addD od_add (de_F (do_lst (da_cons (de_tup (da_cons de_str (da_cons (de_ix ix_seq od_ix (de_var 0 (pv 0)) (de_var 1 (pv 1)) (fun _ _ => rfl)) da_nil))) da_nil))) (de_F (do_fn c_copies_at hr 2 (by rfl) (da_cons (de_var 0 (pv 0)) (da_cons (de_var 1 (pv 1)) da_nil)))))))
def F_phrases_at : Fm := runF b_phrases_at 2 0
/-! ### cheapest_phrases(signs): slots 0 signs 1 best 2 place 3 phrase 4 total 5 many 6 phrases 7 told 8 stop 9 _ -/
abbrev s_cheapest_phrases : Stmt := topS 17
theorem sc_cheapest_phrases : FnScope ["signs", "best", "place", "phrase", "total", "many", "phrases", "told", "stop", "_"] ["signs"] (defScope s_cheapest_phrases) := ⟨rfl, rfl, rfl, by decide +kernel, rfl, by decide +kernel, by decide +kernel⟩
def q1_cheapest_phrases : Sf := (sSeq (sAsg (eTup (aCons (eBin dAdd (eVar 4) (eF (oCall F_cost_of (aCons (eTup (aCons (eVar 3) aNil)) aNil)))) (aCons (eBin dAdd (eVar 5) (eC (.int 1))) (aCons (eBin dAdd (eVar 6) (eTup (aCons (eVar 3) aNil))) aNil)))) (gNm 7)) (sSeq (sAsg (eBin dAdd (eVar 2) (eF (oCall F_length_of (aCons (eVar 3) aNil)))) (gNm 8)) (sIf (tOr' (tBl (eBin dIs (eBin dIx (eOwn 1) (eVar 8)) (eC .non))) (tBl (eBin dLtG (eVar 7) (eBin dIx (eOwn 1) (eVar 8))))) (sSetIx 1 (eVar 7) (eVar 8)) sNil)))
def q2_cheapest_phrases : Sf := (sSeq (sAsg (eBin dIx (eOwn 1) (eVar 2)) (gTp (gsCons (gNm 4) (gsCons (gNm 5) (gsCons (gNm 6) gsNil))))) (sFor [3, 7, 8] (iSeq (eF (oCall F_phrases_at (aCons (eVar 0) (aCons (eVar 2) aNil))))) (gNm 3) q1_cheapest_phrases))
def e3_cheapest_phrases : Of := (oE (eVar 4))
def b_cheapest_phrases : Sf := (sSeq (sSetO 1 (eBinO dAddL (eF (oLst (aCons (eTup (aCons (eC (.int 0)) (aCons (eC (.int 0)) (aCons (eTup aNil) aNil)))) aNil))) (eBin dMul (eF (oLst (aCons (eC .non) aNil))) (eCa (f1 lenD) (aCons (eVar 0) aNil))))) (sSeq (sFor [2, 3, 4, 5, 6, 7, 8] (TL.iRng1 (aCons (eCa (f1 lenD) (aCons (eVar 0) aNil)) aNil)) (gNm 2) q2_cheapest_phrases) (sRet (eTup (aCons (eBin dIx (eBin dIx (eVar 1) (eUn dNeg (eC (.int 1)))) (eC (.int 2))) (aCons (eCa (f1 tupleD) (aCons (eF (oLc [4, 9, 9] (iSeq (eVar 1)) (gTp (gsCons (gNm 4) (gsCons (gNm 9) (gsCons (gNm 9) gsNil)))) tYesF e3_cheapest_phrases)) aNil)) aNil))))))
abbrev sg_cheapest_phrases : Sg := ⟨[.sh], .sh⟩
abbrev ps_cheapest_phrases : List Str := ["signs"]
theorem c_cheapest_phrases {P : Program} {w : World} {K : PySem.W.Frag} {mg : Str → Option Value} {base : Heap} {f : Addr} {fd : FuncData} {k : Nat} (D : Dfn K mg "cheapest_phrases" s_cheapest_phrases ps_cheapest_phrases f fd) {f_phrases_at : Addr} {fd_phrases_at : FuncData} (c_phrases_at : Cal P w K mg base f_phrases_at fd_phrases_at "phrases_at" k ps_phrases_at sg_phrases_at F_phrases_at) {f_cost_of : Addr} {fd_cost_of : FuncData} (c_cost_of : Cal P w K mg base f_cost_of fd_cost_of "cost_of" k ps_cost_of sg_cost_of F_cost_of) {f_length_of : Addr} {fd_length_of : FuncData} (c_length_of : Cal P w K mg base f_length_of fd_length_of "length_of" k ps_length_of sg_length_of F_length_of) (z_len : mg "len" = none) (z_range : mg "range" = none) (z_tuple : mg "tuple" = none) :
    Cal P w K mg base f fd "cheapest_phrases" (k + 1) ps_cheapest_phrases sg_cheapest_phrases (runF (b_cheapest_phrases) 1 9) := by
  unfold b_cheapest_phrases e3_cheapest_phrases q2_cheapest_phrases q1_cheapest_phrases
  exact cal_ok (sg := sg_cheapest_phrases) (τ' := [.no, .no, .no, .no, .no, .no, .no, .no, .no, .no]) D sc_cheapest_phrases ⟨[], .sh, [.no, .no, .no, .no, .no, .no, .no, .no, .no, .no], [], []⟩ 9 rfl rfl rfl rfl rfl rfl (.inl rfl) fun cdv A outer s H E hr => (dss_cons (ds_setO 1 sc_cheapest_phrases.nd rfl (by first | exact .inl rfl | exact .inr rfl) (do_bin op_cat oo_add (de_F (do_lst (da_cons (de_tup (da_cons de_int (da_cons de_int (da_cons (de_tup da_nil) da_nil)))) da_nil))) (de_bin op_mulD od_mul (de_F (do_lst (da_cons de_non da_nil))) (de_callB call_len ca_len (by rfl) z_len bt_len (da_cons (de_var 0 (pv 0)) da_nil))))) (dss_cons (ds_for (tbk := [.sh, (.oL .sh), .no, .no, .no, .no, .no, .no, .no, .no]) (tct := [.sh, (.oL .sh), .no, .no, .no, .no, .no, .no, .no, .no]) [2, 3, 4, 5, 6, 7, 8] PassesOwn.never rfl (di_range1 (by rfl) z_range (da_cons (de_callB call_len ca_len (by rfl) z_len bt_len (da_cons (de_var 0 (pv 0)) da_nil)) da_nil)) (dg_name 2 sc_cheapest_phrases.nd rfl (by first | exact .inl rfl | exact .inr rfl)) (dss_cons (ds_asg (de_ix ix_seq od_ix (de_own 1 (pv 1)) (de_var 2 (pv 2)) (fun _ _ => rfl)) (dg_tup rfl (dgs_cons (dg_name 4 sc_cheapest_phrases.nd rfl (by first | exact .inl rfl | exact .inr rfl)) (dgs_cons (dg_name 5 sc_cheapest_phrases.nd rfl (by first | exact .inl rfl | exact .inr rfl)) (dgs_cons (dg_name 6 sc_cheapest_phrases.nd rfl (by first | exact .inl rfl | exact .inr rfl)) dgs_nil))) (gsCons_len (gsCons_len (gsCons_len gsNil_len))))) (dss_one (ds_for (tbk := [.sh, (.oL .sh), .sh, .no, .sh, .sh, .sh, .no, .no, .no]) (tct := [.sh, (.oL .sh), .sh, .no, .sh, .sh, .sh, .no, .no, .no]) [3, 7, 8] PassesOwn.never rfl (di_seq (de_F (do_fn c_phrases_at hr 2 (by rfl) (da_cons (de_var 0 (pv 0)) (da_cons (de_var 2 (pv 2)) da_nil))))) (dg_name 3 sc_cheapest_phrases.nd rfl (by first | exact .inl rfl | exact .inr rfl)) (dss_cons (ds_set 7 sc_cheapest_phrases.nd rfl (by first | exact .inl rfl | exact .inr rfl) (de_tup (da_cons (de_bin op_addD od_add (de_var 4 (pv 4)) (de_F (do_fn c_cost_of hr 1 (by rfl) (da_cons (de_tup (da_cons (de_var 3 (pv 3)) da_nil)) da_nil)))) (da_cons (de_bin op_addD od_add (de_var 5 (pv 5)) de_int) (da_cons (de_bin op_addD od_add (de_var 6 (pv 6)) (de_tup (da_cons (de_var 3 (pv 3)) da_nil))) da_nil))))) (dss_cons (ds_set 8 sc_cheapest_phrases.nd rfl (by first | exact .inl rfl | exact .inr rfl) (de_bin op_addD od_add (de_var 2 (pv 2)) (de_F (do_fn c_length_of hr 1 (by rfl) (da_cons (de_var 3 (pv 3)) da_nil))))) (dss_one (ds_if (dt_w (dw_or (dt_cmp op_isD od_is (de_ix ix_seq od_ix (de_own 1 (pv 1)) (de_var 8 (pv 8)) (fun _ _ => rfl)) de_non (nomark _)) (dw_or1 (dt_cmp (op_ltG (hu64 hr)) od_ltG (de_var 7 (pv 7)) (de_ix ix_seq od_ix (de_own 1 (pv 1)) (de_var 8 (pv 8)) (fun _ _ => rfl)) (nomark _))))) (dss_one (ds_setix 1 (de_var 7 (pv 7)) (pv 1) (de_var 8 (pv 8)))) dss_nil)))))))) (dss_frz 1 (dss_one (ds_ret (de_tup (da_cons (de_ix ix_seq od_ix (de_ix ix_seq od_ix (de_var 1 (pv 1)) (de_un un_neg ud_neg de_int) (fun _ _ => rfl)) de_int (fun _ _ => rfl)) (da_cons (de_callTy call_tuple_of ca_tuple (by rfl) z_tuple bt_tuple (da_cons (de_F (do_lc (own := [("total", 4), ("_", 9), ("_", 9)]) rfl sc_cheapest_phrases.nd (di_seq (de_var 1 (pv 1))) (blkOk_by (by kernel_rfl)) (fun _ _ _ _ _ => (dg_tup rfl (dgs_cons (dg_name 4 sc_cheapest_phrases.nd rfl (by first | exact .inl rfl | exact .inr rfl)) (dgs_cons (dg_name 9 sc_cheapest_phrases.nd rfl (by first | exact .inl rfl | exact .inr rfl)) (dgs_cons (dg_name 9 sc_cheapest_phrases.nd rfl (by first | exact .inl rfl | exact .inr rfl)) dgs_nil))) (gsCons_len (gsCons_len (gsCons_len gsNil_len))))) (fun _ _ _ _ _ => dts_nil) (fun _ _ _ _ _ => (do_E (de_var 4 (pv 4)))))) da_nil)) da_nil))))))))
def F_cheapest_phrases : Fm := runF b_cheapest_phrases 1 9
/-! ### judge_marks(signs, thing): slots 0 signs 1 thing 2 place 3 phrase 4 mark -/
abbrev s_judge_marks : Stmt := topS 18
theorem sc_judge_marks : FnScope ["signs", "thing", "place", "phrase", "mark"] ["signs", "thing"] (defScope s_judge_marks) := ⟨rfl, rfl, rfl, by decide +kernel, rfl, by decide +kernel, by decide +kernel⟩
def e1_judge_marks : Of := (oE (eF (oCall F_is_integer (aCons (eVar 4) aNil))))
def q2_judge_marks : Sf := (sIf (tBl (eBin dGt (eBin dIx (eVar 1) (eBin dAdd (eVar 2) (eF (oCall F_length_of (aCons (eVar 3) aNil))))) (eBin dAdd (eBin dIx (eVar 1) (eVar 2)) (eF (oCall F_cost_of (aCons (eTup (aCons (eVar 3) aNil)) aNil)))))) (sRet (eC (.bl false))) sNil)
def q3_judge_marks : Sf := (sFor [3] (iSeq (eF (oCall F_phrases_at (aCons (eVar 0) (aCons (eVar 2) aNil))))) (gNm 3) q2_judge_marks)
def b_judge_marks : Sf := (sSeq (sIf (tOr' (tNot' (tB (eIsI .tuple (eVar 1)))) (tOr' (tBl (eBin dNe (eCa (f1 lenD) (aCons (eVar 1) aNil)) (eBin dAdd (eCa (f1 lenD) (aCons (eVar 0) aNil)) (eC (.int 1))))) (tNot' (tB (eCa (f1 allD) (aCons (eF (oLc [4] (iSeq (eVar 1)) (gNm 4) tYesF e1_judge_marks)) aNil)))))) (sRet (eC (.bl false))) sNil) (sSeq (sIf (tBl (eBin dNe (eBin dIx (eVar 1) (eC (.int 0))) (eC (.int 0)))) (sRet (eC (.bl false))) sNil) (sSeq (sFor [2, 3] (TL.iRng1 (aCons (eCa (f1 lenD) (aCons (eVar 0) aNil)) aNil)) (gNm 2) q3_judge_marks) (sRet (eC (.bl true))))))
abbrev sg_judge_marks : Sg := ⟨[.sh, .sh], .sh⟩
abbrev ps_judge_marks : List Str := ["signs", "thing"]
theorem c_judge_marks {P : Program} {w : World} {K : PySem.W.Frag} {mg : Str → Option Value} {base : Heap} {f : Addr} {fd : FuncData} {k : Nat} (D : Dfn K mg "judge_marks" s_judge_marks ps_judge_marks f fd) {f_is_integer : Addr} {fd_is_integer : FuncData} (c_is_integer : Cal P w K mg base f_is_integer fd_is_integer "is_integer" k ps_is_integer sg_is_integer F_is_integer) {f_phrases_at : Addr} {fd_phrases_at : FuncData} (c_phrases_at : Cal P w K mg base f_phrases_at fd_phrases_at "phrases_at" k ps_phrases_at sg_phrases_at F_phrases_at) {f_length_of : Addr} {fd_length_of : FuncData} (c_length_of : Cal P w K mg base f_length_of fd_length_of "length_of" k ps_length_of sg_length_of F_length_of) {f_cost_of : Addr} {fd_cost_of : FuncData} (c_cost_of : Cal P w K mg base f_cost_of fd_cost_of "cost_of" k ps_cost_of sg_cost_of F_cost_of) (z_isinstance : mg "isinstance" = none) (z_tuple : mg "tuple" = none) (z_len : mg "len" = none) (z_all : mg "all" = none) (z_range : mg "range" = none) :
    Cal P w K mg base f fd "judge_marks" (k + 1) ps_judge_marks sg_judge_marks (runF (b_judge_marks) 2 3) := by
  unfold b_judge_marks q3_judge_marks q2_judge_marks e1_judge_marks
  exact cal_ok (sg := sg_judge_marks) (τ' := [.no, .no, .no, .no, .no]) D sc_judge_marks ⟨[], .sh, [.no, .no, .no, .no, .no], [], []⟩ 3 rfl rfl rfl rfl rfl rfl (.inl rfl) fun cdv A outer s H E hr => (dss_cons (ds_if (dt_w (dw_or (dt_not (dt_truth (de_isI .tuple (by rfl) z_isinstance bt_isinstance (by rfl) z_tuple bt_tuple (de_var 1 (pv 1))))) (dw_or (dt_cmp (op_neD (hu64 hr)) od_ne (de_callB call_len ca_len (by rfl) z_len bt_len (da_cons (de_var 1 (pv 1)) da_nil)) (de_bin op_addD od_add (de_callB call_len ca_len (by rfl) z_len bt_len (da_cons (de_var 0 (pv 0)) da_nil)) de_int) (nomark _)) (dw_or1 (dt_not (dt_truth (de_callB (cr_all rfl) ca_all (by rfl) z_all bt_all (da_cons (de_F (do_lc (own := [("mark", 4)]) rfl sc_judge_marks.nd (di_seq (de_var 1 (pv 1))) (blkOk_by (by kernel_rfl)) (fun _ _ _ _ _ => (dg_name 4 sc_judge_marks.nd rfl (by first | exact .inl rfl | exact .inr rfl))) (fun _ _ _ _ _ => dts_nil) (fun _ _ _ _ _ => (do_E (de_F (do_fn c_is_integer hr 1 (by rfl) (da_cons (de_var 4 (pv 4)) da_nil))))))) da_nil)))))))) (dss_one (ds_ret de_bl)) dss_nil) (dss_cons (ds_if (dt_cmp (op_neD (hu64 hr)) od_ne (de_ix ix_seq od_ix (de_var 1 (pv 1)) de_int (fun _ _ => rfl)) de_int (nomark _)) (dss_one (ds_ret de_bl)) dss_nil) (dss_cons (ds_for (tbk := [.sh, .sh, .no, .no, .no]) (tct := [.sh, .sh, .no, .no, .no]) [2, 3] PassesOwn.never rfl (di_range1 (by rfl) z_range (da_cons (de_callB call_len ca_len (by rfl) z_len bt_len (da_cons (de_var 0 (pv 0)) da_nil)) da_nil)) (dg_name 2 sc_judge_marks.nd rfl (by first | exact .inl rfl | exact .inr rfl)) (dss_one (ds_for (tbk := [.sh, .sh, .sh, .no, .no]) (tct := [.sh, .sh, .sh, .no, .no]) [3] PassesOwn.never rfl (di_seq (de_F (do_fn c_phrases_at hr 2 (by rfl) (da_cons (de_var 0 (pv 0)) (da_cons (de_var 2 (pv 2)) da_nil))))) (dg_name 3 sc_judge_marks.nd rfl (by first | exact .inl rfl | exact .inr rfl)) (dss_one (ds_if (dt_cmp op_gt od_gt (de_ix ix_seq od_ix (de_var 1 (pv 1)) (de_bin op_addD od_add (de_var 2 (pv 2)) (de_F (do_fn c_length_of hr 1 (by rfl) (da_cons (de_var 3 (pv 3)) da_nil)))) (fun _ _ => rfl)) (de_bin op_addD od_add (de_ix ix_seq od_ix (de_var 1 (pv 1)) (de_var 2 (pv 2)) (fun _ _ => rfl)) (de_F (do_fn c_cost_of hr 1 (by rfl) (da_cons (de_tup (da_cons (de_var 3 (pv 3)) da_nil)) da_nil)))) (nomark _)) (dss_one (ds_ret de_bl)) dss_nil))))) (dss_one (ds_ret de_bl)))))
def F_judge_marks : Fm := runF b_judge_marks 2 3
/-! ### _law_draw(script): slots 0 script -/
abbrev s__law_draw : Stmt := topS 20
theorem sc__law_draw : FnScope ["script"] ["script"] (defScope s__law_draw) := ⟨rfl, rfl, rfl, by decide +kernel, rfl, by decide +kernel, by decide +kernel⟩
def b__law_draw : Sf := (sRetO (oLst (aCons (eF (oCa (f1L listD) (aCons (eVar 0) aNil))) (aCons (eC (.int 0)) (aCons (eC (.int 0)) (aCons (eC (.int 17)) aNil))))))
abbrev sg__law_draw : Sg := ⟨[.sh], (.oL .sh)⟩
abbrev ps__law_draw : List Str := ["script"]
theorem c__law_draw {P : Program} {w : World} {K : PySem.W.Frag} {mg : Str → Option Value} {base : Heap} {f : Addr} {fd : FuncData} {k : Nat} (D : Dfn K mg "_law_draw" s__law_draw ps__law_draw f fd) (z_list : mg "list" = none) :
    Cal P w K mg base f fd "_law_draw" (k + 1) ps__law_draw sg__law_draw (runF (b__law_draw) 1 0) := by
  unfold b__law_draw 
  exact cal_ok (sg := sg__law_draw) (τ' := [.no]) D sc__law_draw ⟨[], (.oL .sh), [.no], [], []⟩ 0 rfl rfl rfl rfl rfl rfl (.inr (by repeat first | exact nn_ret | exact nn_retO | exact nn_retX | exact nn_retN | apply nn_seq | apply nn_if)) fun cdv A outer s H E hr => (dss_one (ds_retO (do_lst (da_cons (de_F (do_callTy call_list_of co_list (by rfl) z_list bt_list (da_cons (de_var 0 (pv 0)) da_nil))) (da_cons de_int (da_cons de_int (da_cons de_int da_nil)))))))
def F__law_draw : Fm := runF b__law_draw 1 0
/-! ### _law_next(draw, many): slots 0 draw 1 many 2 found 3 cell -/
abbrev s__law_next : Stmt := topS 21
theorem sc__law_next : FnScope ["draw", "many", "found", "cell"] ["draw", "many"] (defScope s__law_next) := ⟨rfl, rfl, rfl, by decide +kernel, rfl, by decide +kernel, by decide +kernel⟩
def b__law_next : Sf := (sSeq (sIf (tBl (eBin dGt (eBin dIx (eOwn 0) (eC (.int 2))) (eC (.int 0)))) (sSeq (sAsg (eBin dMod (eCa (f1 intD) (aCons (eBin dIx (eOwn 0) (eC (.int 2))) aNil)) (eVar 1)) (gNm 2)) (sSeq (sSetIx 0 (eBin dDiv (eBin dIx (eOwn 0) (eC (.int 2))) (eVar 1)) (eC (.int 2))) (sRet (eVar 2)))) sNil) (sSeq (sIf (tBl (eBin dLt (eBin dIx (eOwn 0) (eC (.int 1))) (eCa (f1 lenD) (aCons (eBin dIx (eOwn 0) (eC (.int 0))) aNil)))) (sKl [3] (sSeq (sAsg (eCa (f1 absD) (aCons (eBin dIx (eBin dIx (eOwn 0) (eC (.int 0))) (eBin dIx (eOwn 0) (eC (.int 1)))) aNil)) (gNm 3)) (sSeq (sSetIx 0 (eBin dAdd (eBin dIx (eOwn 0) (eC (.int 1))) (eC (.int 1))) (eC (.int 1))) (sSeq (sIf (tBl (eBin dGe (eVar 3) (eBin dPow (eC (.int 10)) (eC (.int 18))))) (sSeq (sSetIx 0 (eBin dDiv (eVar 3) (eVar 1)) (eC (.int 2))) (sRet (eBin dMod (eCa (f1 intD) (aCons (eVar 3) aNil)) (eVar 1)))) sNil) (sSetIx 0 (eBin dMod (eCa (f1 intD) (aCons (eBin dAdd (eBin dAdd (eBin dMul (eBin dIx (eOwn 0) (eC (.int 3))) (eC (.int 48271))) (eVar 3)) (eC (.int 11))) aNil)) (eC (.int 2147483647))) (eC (.int 3))))))) (sSetIx 0 (eBin dMod (eCa (f1 intD) (aCons (eBin dAdd (eBin dMul (eBin dIx (eOwn 0) (eC (.int 3))) (eC (.int 48271))) (eC (.int 12345))) aNil)) (eC (.int 2147483647))) (eC (.int 3)))) (sRet (eBin dMod (eBin dDiv (eCa (f1 intD) (aCons (eBin dMod (eBin dMul (eBin dIx (eOwn 0) (eC (.int 3))) (eC (.int 69621))) (eC (.int 2147483629))) aNil)) (eC (.int 7))) (eVar 1)))))
abbrev sg__law_next : Sg := ⟨[(.oL .sh), .sh], .sh⟩
abbrev ps__law_next : List Str := ["draw", "many"]
theorem c__law_next {P : Program} {w : World} {K : PySem.W.Frag} {mg : Str → Option Value} {base : Heap} {f : Addr} {fd : FuncData} {k : Nat} (D : Dfn K mg "_law_next" s__law_next ps__law_next f fd) (z_int : mg "int" = none) (z_len : mg "len" = none) (z_abs : mg "abs" = none) :
    Cal P w K mg base f fd "_law_next" (k + 1) ps__law_next sg__law_next (runF (b__law_next) 2 2) := by
  unfold b__law_next 
  exact cal_ok (sg := sg__law_next) (τ' := [(.oL .sh), .no, .no, .no]) D sc__law_next ⟨[0], .sh, [(.oL .sh), .no, .no, .no], [], []⟩ 2 rfl rfl rfl rfl rfl rfl (.inl rfl) fun cdv A outer s H E hr => (dss_cons (ds_if (dt_cmp op_gt od_gt (de_ix ix_seq od_ix (de_own 0 (pv 0)) de_int (fun _ _ => rfl)) de_int (nomark _)) (dss_cons (ds_set 2 sc__law_next.nd rfl (by first | exact .inl rfl | exact .inr rfl) (de_bin op_mod od_mod (de_callTy call_int1 ca_int (by rfl) z_int bt_int (da_cons (de_ix ix_seq od_ix (de_own 0 (pv 0)) de_int (fun _ _ => rfl)) da_nil)) (de_var 1 (pv 1)))) (dss_cons (ds_setix 0 (de_bin op_fdivW od_div (de_ix ix_seq od_ix (de_own 0 (pv 0)) de_int (fun _ _ => rfl)) (de_var 1 (pv 1))) (pv 0) de_int) (dss_one (ds_ret (de_var 2 (pv 2)))))) dss_nil) (dss_cons (ds_if (dt_cmp op_lt od_lt (de_ix ix_seq od_ix (de_own 0 (pv 0)) de_int (fun _ _ => rfl)) (de_callB call_len ca_len (by rfl) z_len bt_len (da_cons (de_ix ix_seq od_ix (de_own 0 (pv 0)) de_int (fun _ _ => rfl)) da_nil)) (nomark _)) (dss_kill [3] (dss_cons (ds_set 3 sc__law_next.nd rfl (by first | exact .inl rfl | exact .inr rfl) (de_callB call_abs ca_abs (by rfl) z_abs bt_abs (da_cons (de_ix ix_seq od_ix (de_ix ix_seq od_ix (de_own 0 (pv 0)) de_int (fun _ _ => rfl)) (de_ix ix_seq od_ix (de_own 0 (pv 0)) de_int (fun _ _ => rfl)) (fun _ _ => rfl)) da_nil))) (dss_cons (ds_setix 0 (de_bin op_addD od_add (de_ix ix_seq od_ix (de_own 0 (pv 0)) de_int (fun _ _ => rfl)) de_int) (pv 0) de_int) (dss_cons (ds_if (dt_cmp op_ge od_ge (de_var 3 (pv 3)) (de_bin op_pow od_pow de_int de_int) (nomark _)) (dss_cons (ds_setix 0 (de_bin op_fdivW od_div (de_var 3 (pv 3)) (de_var 1 (pv 1))) (pv 0) de_int) (dss_one (ds_ret (de_bin op_mod od_mod (de_callTy call_int1 ca_int (by rfl) z_int bt_int (da_cons (de_var 3 (pv 3)) da_nil)) (de_var 1 (pv 1)))))) dss_nil) (dss_one (ds_setix 0 (de_bin op_mod od_mod (de_callTy call_int1 ca_int (by rfl) z_int bt_int (da_cons (de_bin op_addD od_add (de_bin op_addD od_add (de_bin op_mulD od_mul (de_ix ix_seq od_ix (de_own 0 (pv 0)) de_int (fun _ _ => rfl)) de_int) (de_var 3 (pv 3))) de_int) da_nil)) de_int) (pv 0) de_int)))))) (dss_one (ds_setix 0 (de_bin op_mod od_mod (de_callTy call_int1 ca_int (by rfl) z_int bt_int (da_cons (de_bin op_addD od_add (de_bin op_mulD od_mul (de_ix ix_seq od_ix (de_own 0 (pv 0)) de_int (fun _ _ => rfl)) de_int) de_int) da_nil)) de_int) (pv 0) de_int))) (dss_one (ds_ret (de_bin op_mod od_mod (de_bin op_fdivW od_div (de_callTy call_int1 ca_int (by rfl) z_int bt_int (da_cons (de_bin op_mod od_mod (de_bin op_mulD od_mul (de_ix ix_seq od_ix (de_own 0 (pv 0)) de_int (fun _ _ => rfl)) de_int) de_int) da_nil)) de_int) (de_var 1 (pv 1)))))))
def F__law_next : Fm := runF b__law_next 2 2
/-! ### _law_same(actual, due): slots 0 actual 1 due 2 k -/
abbrev s__law_same : Stmt := topS 22
theorem sc__law_same : FnScope ["actual", "due", "k"] ["actual", "due"] (defScope s__law_same) := ⟨rfl, rfl, rfl, by decide +kernel, rfl, by decide +kernel, by decide +kernel⟩
def e1__law_same (G__law_same : Fm) : Of := (oE (eF (oCall G__law_same (aCons (eBin dIx (eVar 0) (eVar 2)) (aCons (eBin dIx (eVar 1) (eVar 2)) aNil)))))
def b__law_same (G__law_same : Fm) : Sf := (sSeq (sIf (tB (eIsLT (eVar 1))) (sSeq (sIf (tOr' (tBl (eBin dNe (eIsI .list (eVar 1)) (eIsI .list (eVar 0)))) (tBl (eBin dNe (eIsI .tuple (eVar 1)) (eIsI .tuple (eVar 0))))) (sRet (eC (.bl false))) sNil) (sSeq (sIf (tBl (eBin dNe (eCa (f1 lenD) (aCons (eVar 0) aNil)) (eCa (f1 lenD) (aCons (eVar 1) aNil)))) (sRet (eC (.bl false))) sNil) (sRet (eCa (f1 allD) (aCons (eF (oLc [2] (TL.iRng1 (aCons (eCa (f1 lenD) (aCons (eVar 1) aNil)) aNil)) (gNm 2) tYesF (e1__law_same G__law_same))) aNil))))) sNil) (sSeq (sIf (tBl (eBin dIs (eVar 1) (eC .non))) (sRet (eBin dIs (eVar 0) (eC .non))) sNil) (sSeq (sIf (tBl (eBin dNe (eIsI .bool (eVar 1)) (eIsI .bool (eVar 0)))) (sRet (eC (.bl false))) sNil) (sSeq (sIf (tB (eIsI .str (eVar 1))) (sRet (eAnd (eIsI .str (eVar 0)) (eBin dEq (eVar 0) (eVar 1)))) sNil) (sRet (eAnd (eIsI .int (eVar 0)) (eBin dEq (eVar 0) (eVar 1))))))))
abbrev sg__law_same : Sg := ⟨[.sh, .sh], .sh⟩
abbrev ps__law_same : List Str := ["actual", "due"]
theorem c__law_same {P : Program} {w : World} {K : PySem.W.Frag} {mg : Str → Option Value} {base : Heap} {f : Addr} {fd : FuncData} {k : Nat} {G__law_same : Fm} (D : Dfn K mg "_law_same" s__law_same ps__law_same f fd) {f__law_same : Addr} {fd__law_same : FuncData} (c__law_same : Cal P w K mg base f__law_same fd__law_same "_law_same" k ps__law_same sg__law_same G__law_same) (z_isinstance : mg "isinstance" = none) (z_list : mg "list" = none) (z_tuple : mg "tuple" = none) (z_len : mg "len" = none) (z_range : mg "range" = none) (z_all : mg "all" = none) (z_bool : mg "bool" = none) (z_str : mg "str" = none) (z_int : mg "int" = none) :
    Cal P w K mg base f fd "_law_same" (k + 1) ps__law_same sg__law_same (runF (b__law_same G__law_same) 2 1) := by
  unfold b__law_same e1__law_same
  exact cal_ok (sg := sg__law_same) (τ' := [.no, .no, .no]) D sc__law_same ⟨[], .sh, [.no, .no, .no], [], []⟩ 1 rfl rfl rfl rfl rfl rfl (.inl rfl) fun cdv A outer s H E hr => (dss_cons (ds_if (dt_truth (de_isLT (by rfl) z_isinstance bt_isinstance (by rfl) z_list bt_list (by rfl) z_tuple bt_tuple (de_var 1 (pv 1)))) (dss_cons (ds_if (dt_w (dw_or (dt_cmp (op_neD (hu64 hr)) od_ne (de_isI .list (by rfl) z_isinstance bt_isinstance (by rfl) z_list bt_list (de_var 1 (pv 1))) (de_isI .list (by rfl) z_isinstance bt_isinstance (by rfl) z_list bt_list (de_var 0 (pv 0))) (nomark _)) (dw_or1 (dt_cmp (op_neD (hu64 hr)) od_ne (de_isI .tuple (by rfl) z_isinstance bt_isinstance (by rfl) z_tuple bt_tuple (de_var 1 (pv 1))) (de_isI .tuple (by rfl) z_isinstance bt_isinstance (by rfl) z_tuple bt_tuple (de_var 0 (pv 0))) (nomark _))))) (dss_one (ds_ret de_bl)) dss_nil) (dss_cons (ds_if (dt_cmp (op_neD (hu64 hr)) od_ne (de_callB call_len ca_len (by rfl) z_len bt_len (da_cons (de_var 0 (pv 0)) da_nil)) (de_callB call_len ca_len (by rfl) z_len bt_len (da_cons (de_var 1 (pv 1)) da_nil)) (nomark _)) (dss_one (ds_ret de_bl)) dss_nil) (dss_one (ds_ret (de_callB (cr_all rfl) ca_all (by rfl) z_all bt_all (da_cons (de_F (do_lc (own := [("k", 2)]) rfl sc__law_same.nd (di_range1 (by rfl) z_range (da_cons (de_callB call_len ca_len (by rfl) z_len bt_len (da_cons (de_var 1 (pv 1)) da_nil)) da_nil)) (blkOk_by (by kernel_rfl)) (fun _ _ _ _ _ => (dg_name 2 sc__law_same.nd rfl (by first | exact .inl rfl | exact .inr rfl))) (fun _ _ _ _ _ => dts_nil) (fun _ _ _ _ _ => (do_E (de_F (do_fn c__law_same hr 2 (by rfl) (da_cons (de_ix ix_seq od_ix (de_var 0 (pv 0)) (de_var 2 (pv 2)) (fun _ _ => rfl)) (da_cons (de_ix ix_seq od_ix (de_var 1 (pv 1)) (de_var 2 (pv 2)) (fun _ _ => rfl)) da_nil)))))))) da_nil)))))) dss_nil) (dss_cons (ds_if (dt_cmp op_isD od_is (de_var 1 (pv 1)) de_non (nomark _)) (dss_one (ds_ret (de_cmp op_isD od_is (de_var 0 (pv 0)) de_non (nomark _)))) dss_nil) (dss_cons (ds_if (dt_cmp (op_neD (hu64 hr)) od_ne (de_isI .bool (by rfl) z_isinstance bt_isinstance (by rfl) z_bool bt_bool (de_var 1 (pv 1))) (de_isI .bool (by rfl) z_isinstance bt_isinstance (by rfl) z_bool bt_bool (de_var 0 (pv 0))) (nomark _)) (dss_one (ds_ret de_bl)) dss_nil) (dss_cons (ds_if (dt_truth (de_isI .str (by rfl) z_isinstance bt_isinstance (by rfl) z_str bt_str (de_var 1 (pv 1)))) (dss_one (ds_ret (de_and (de_isI .str (by rfl) z_isinstance bt_isinstance (by rfl) z_str bt_str (de_var 0 (pv 0))) (de_one (de_cmp (op_eqD (hu64 hr)) od_eq (de_var 0 (pv 0)) (de_var 1 (pv 1)) (nomark _)))))) dss_nil) (dss_one (ds_ret (de_and (de_isI .int (by rfl) z_isinstance bt_isinstance (by rfl) z_int bt_int (de_var 0 (pv 0))) (de_one (de_cmp (op_eqD (hu64 hr)) od_eq (de_var 0 (pv 0)) (de_var 1 (pv 1)) (nomark _))))))))))
def R__law_same : Nat → Fm
  | 0 => fun _ => none
  | r + 1 => runF (b__law_same (R__law_same r)) 2 1
def F__law_same : Fm := R__law_same 8
/-! ### _law_fits(signs, place, back, many): slots 0 signs 1 place 2 back 3 many 4 k -/
abbrev s__law_fits : Stmt := topS 23
theorem sc__law_fits : FnScope ["signs", "place", "back", "many", "k"] ["signs", "place", "back", "many"] (defScope s__law_fits) := ⟨rfl, rfl, rfl, by decide +kernel, rfl, by decide +kernel, by decide +kernel⟩
def e1__law_fits : Of := (oE (eBin dEq (eBin dIx (eVar 0) (eBin dAdd (eVar 1) (eVar 4))) (eBin dIx (eVar 0) (eBin dSub (eBin dAdd (eVar 1) (eVar 4)) (eVar 2)))))
def b__law_fits : Sf := (sRet (eAnd (eBin dGe (eVar 1) (eVar 2)) (eAnd (eBin dLe (eBin dAdd (eVar 1) (eVar 3)) (eCa (f1 lenD) (aCons (eVar 0) aNil))) (eCa (f1 allD) (aCons (eF (oLc [4] (TL.iRng1 (aCons (eVar 3) aNil)) (gNm 4) tYesF e1__law_fits)) aNil)))))
abbrev sg__law_fits : Sg := ⟨[.sh, .sh, .sh, .sh], .sh⟩
abbrev ps__law_fits : List Str := ["signs", "place", "back", "many"]
theorem c__law_fits {P : Program} {w : World} {K : PySem.W.Frag} {mg : Str → Option Value} {base : Heap} {f : Addr} {fd : FuncData} {k : Nat} (D : Dfn K mg "_law_fits" s__law_fits ps__law_fits f fd) (z_len : mg "len" = none) (z_range : mg "range" = none) (z_all : mg "all" = none) :
    Cal P w K mg base f fd "_law_fits" (k + 1) ps__law_fits sg__law_fits (runF (b__law_fits) 4 1) := by
  unfold b__law_fits e1__law_fits
  exact cal_ok (sg := sg__law_fits) (τ' := [.no, .no, .no, .no, .no]) D sc__law_fits ⟨[], .sh, [.no, .no, .no, .no, .no], [], []⟩ 1 rfl rfl rfl rfl rfl rfl (.inl rfl) fun cdv A outer s H E hr => (dss_one (ds_ret (de_and (de_cmp op_ge od_ge (de_var 1 (pv 1)) (de_var 2 (pv 2)) (nomark _)) (de_and (de_cmp op_le od_le (de_bin op_addD od_add (de_var 1 (pv 1)) (de_var 3 (pv 3))) (de_callB call_len ca_len (by rfl) z_len bt_len (da_cons (de_var 0 (pv 0)) da_nil)) (nomark _)) (de_one (de_callB (cr_all rfl) ca_all (by rfl) z_all bt_all (da_cons (de_F (do_lc (own := [("k", 4)]) rfl sc__law_fits.nd (di_range1 (by rfl) z_range (da_cons (de_var 3 (pv 3)) da_nil)) (blkOk_by (by kernel_rfl)) (fun _ _ _ _ _ => (dg_name 4 sc__law_fits.nd rfl (by first | exact .inl rfl | exact .inr rfl))) (fun _ _ _ _ _ => dts_nil) (fun _ _ _ _ _ => (do_E (de_cmp (op_eqD (hu64 hr)) od_eq (de_ix ix_seq od_ix (de_var 0 (pv 0)) (de_bin op_addD od_add (de_var 1 (pv 1)) (de_var 4 (pv 4))) (fun _ _ => rfl)) (de_ix ix_seq od_ix (de_var 0 (pv 0)) (de_bin op_sub od_sub (de_bin op_addD od_add (de_var 1 (pv 1)) (de_var 4 (pv 4))) (de_var 2 (pv 2))) (fun _ _ => rfl)) (nomark _)))))) da_nil)))))))
def F__law_fits : Fm := runF b__law_fits 4 1
/-! ### _law_phrases(signs, place): slots 0 signs 1 place 2 found 3 back 4 many -/
abbrev s__law_phrases : Stmt := topS 24
theorem sc__law_phrases : FnScope ["signs", "place", "found", "back", "many"] ["signs", "place"] (defScope s__law_phrases) := ⟨rfl, rfl, rfl, by decide +kernel, rfl, by decide +kernel, by decide +kernel⟩
def t1__law_phrases : Tf := (tB (eF (oCall F__law_fits (aCons (eVar 0) (aCons (eVar 1) (aCons (eVar 3) (aCons (eVar 4) aNil)))))))
def e2__law_phrases : Of := (oE (eTup (aCons (eC (.str "copy")) (aCons (eVar 3) (aCons (eVar 4) aNil)))))
def q3__law_phrases : Sf := (sAsg (eBin dAdd (eVar 2) (eF (oLc [4] (TL.iRng2 (aCons (eC (.int 2)) (aCons (eBin dAdd (eBin dSub (eCa (f1 lenD) (aCons (eVar 0) aNil)) (eVar 1)) (eC (.int 1))) aNil))) (gNm 4) t1__law_phrases e2__law_phrases))) (gNm 2))
def b__law_phrases : Sf := (sSeq (sAsg (eF (oLst (aCons (eTup (aCons (eC (.str "sign")) (aCons (eBin dIx (eVar 0) (eVar 1)) aNil))) aNil))) (gNm 2)) (sSeq (sFor [3] (TL.iRng2 (aCons (eC (.int 1)) (aCons (eBin dAdd (eVar 1) (eC (.int 1))) aNil))) (gNm 3) q3__law_phrases) (sRet (eVar 2))))
abbrev sg__law_phrases : Sg := ⟨[.sh, .sh], .sh⟩
abbrev ps__law_phrases : List Str := ["signs", "place"]
theorem c__law_phrases {P : Program} {w : World} {K : PySem.W.Frag} {mg : Str → Option Value} {base : Heap} {f : Addr} {fd : FuncData} {k : Nat} (D : Dfn K mg "_law_phrases" s__law_phrases ps__law_phrases f fd) {f__law_fits : Addr} {fd__law_fits : FuncData} (c__law_fits : Cal P w K mg base f__law_fits fd__law_fits "_law_fits" k ps__law_fits sg__law_fits F__law_fits) (z_range : mg "range" = none) (z_len : mg "len" = none) :
    Cal P w K mg base f fd "_law_phrases" (k + 1) ps__law_phrases sg__law_phrases (runF (b__law_phrases) 2 3) := by
  unfold b__law_phrases q3__law_phrases e2__law_phrases t1__law_phrases
  exact cal_ok (sg := sg__law_phrases) (τ' := [.no, .no, .no, .no, .no]) D sc__law_phrases ⟨[], .sh, [.no, .no, .no, .no, .no], [], []⟩ 3 rfl rfl rfl rfl rfl rfl (.inl rfl) fun cdv A outer s H E hr => (dss_cons (ds_set 2 sc__law_phrases.nd rfl (by first | exact .inl rfl | exact .inr rfl) (de_F (do_lst (da_cons (de_tup (da_cons de_str (da_cons (de_ix ix_seq od_ix (de_var 0 (pv 0)) (de_var 1 (pv 1)) (fun _ _ => rfl)) da_nil))) da_nil)))) (dss_cons (ds_for (tbk := [.sh, .sh, .sh, .no, .no]) (tct := [.sh, .sh, .sh, .no, .no]) [3] PassesOwn.never rfl (di_range2 (by rfl) z_range (da_cons de_int (da_cons (de_bin op_addD od_add (de_var 1 (pv 1)) de_int) da_nil))) (dg_name 3 sc__law_phrases.nd rfl (by first | exact .inl rfl | exact .inr rfl)) (dss_one (ds_set 2 sc__law_phrases.nd rfl (by first | exact .inl rfl | exact .inr rfl) (de_bin op_addD od_add (de_var 2 (pv 2)) (de_F (do_lc (own := [("many", 4)]) rfl sc__law_phrases.nd (di_range2 (by rfl) z_range (da_cons de_int (da_cons (de_bin op_addD od_add (de_bin op_sub od_sub (de_callB call_len ca_len (by rfl) z_len bt_len (da_cons (de_var 0 (pv 0)) da_nil)) (de_var 1 (pv 1))) de_int) da_nil))) (blkOk_by (by kernel_rfl)) (fun _ _ _ _ _ => (dg_name 4 sc__law_phrases.nd rfl (by first | exact .inl rfl | exact .inr rfl))) (fun _ _ _ _ _ => (dts_one (dt_truth (de_F (do_fn c__law_fits hr 4 (by rfl) (da_cons (de_var 0 (pv 0)) (da_cons (de_var 1 (pv 1)) (da_cons (de_var 3 (pv 3)) (da_cons (de_var 4 (pv 4)) da_nil))))))))) (fun _ _ _ _ _ => (do_E (de_tup (da_cons de_str (da_cons (de_var 3 (pv 3)) (da_cons (de_var 4 (pv 4)) da_nil)))))))))))) (dss_one (ds_ret (de_var 2 (pv 2))))))
def F__law_phrases : Fm := runF b__law_phrases 2 3
/-! ### _law_long(phrase): slots 0 phrase -/
abbrev s__law_long : Stmt := topS 25
theorem sc__law_long : FnScope ["phrase"] ["phrase"] (defScope s__law_long) := ⟨rfl, rfl, rfl, by decide +kernel, rfl, by decide +kernel, by decide +kernel⟩
def b__law_long : Sf := (sRet (eIf (tBl (eBin dEq (eBin dIx (eVar 0) (eC (.int 0))) (eC (.str "sign")))) (eC (.int 1)) (eBin dIx (eVar 0) (eC (.int 2)))))
abbrev sg__law_long : Sg := ⟨[.sh], .sh⟩
abbrev ps__law_long : List Str := ["phrase"]
theorem c__law_long {P : Program} {w : World} {K : PySem.W.Frag} {mg : Str → Option Value} {base : Heap} {f : Addr} {fd : FuncData} {k : Nat} (D : Dfn K mg "_law_long" s__law_long ps__law_long f fd) :
    Cal P w K mg base f fd "_law_long" (k + 1) ps__law_long sg__law_long (runF (b__law_long) 1 0) := by
  unfold b__law_long 
  exact cal_ok (sg := sg__law_long) (τ' := [.no]) D sc__law_long ⟨[], .sh, [.no], [], []⟩ 0 rfl rfl rfl rfl rfl rfl (.inl rfl) fun cdv A outer s H E hr => (dss_one (ds_ret (de_if (dt_cmp (op_eqD (hu64 hr)) od_eq (de_ix ix_seq od_ix (de_var 0 (pv 0)) de_int (fun _ _ => rfl)) de_str (nomark _)) de_int (de_ix ix_seq od_ix (de_var 0 (pv 0)) de_int (fun _ _ => rfl)))))
def F__law_long : Fm := runF b__law_long 1 0
/-! ### _law_cost(phrase): slots 0 phrase -/
abbrev s__law_cost : Stmt := topS 26
theorem sc__law_cost : FnScope ["phrase"] ["phrase"] (defScope s__law_cost) := ⟨rfl, rfl, rfl, by decide +kernel, rfl, by decide +kernel, by decide +kernel⟩
def b__law_cost : Sf := (sRet (eIf (tBl (eBin dEq (eBin dIx (eVar 0) (eC (.int 0))) (eC (.str "sign")))) (eC (.int 9)) (eC (.int 17))))
abbrev sg__law_cost : Sg := ⟨[.sh], .sh⟩
abbrev ps__law_cost : List Str := ["phrase"]
theorem c__law_cost {P : Program} {w : World} {K : PySem.W.Frag} {mg : Str → Option Value} {base : Heap} {f : Addr} {fd : FuncData} {k : Nat} (D : Dfn K mg "_law_cost" s__law_cost ps__law_cost f fd) :
    Cal P w K mg base f fd "_law_cost" (k + 1) ps__law_cost sg__law_cost (runF (b__law_cost) 1 0) := by
  unfold b__law_cost 
  exact cal_ok (sg := sg__law_cost) (τ' := [.no]) D sc__law_cost ⟨[], .sh, [.no], [], []⟩ 0 rfl rfl rfl rfl rfl rfl (.inl rfl) fun cdv A outer s H E hr => (dss_one (ds_ret (de_if (dt_cmp (op_eqD (hu64 hr)) od_eq (de_ix ix_seq od_ix (de_var 0 (pv 0)) de_int (fun _ _ => rfl)) de_str (nomark _)) de_int de_int)))
def F__law_cost : Fm := runF b__law_cost 1 0
/-! ### _law_are_marks(signs, thing): slots 0 signs 1 thing 2 place 3 one 4 phrase -/
abbrev s__law_are_marks : Stmt := topS 27
theorem sc__law_are_marks : FnScope ["signs", "thing", "place", "one", "phrase"] ["signs", "thing"] (defScope s__law_are_marks) := ⟨rfl, rfl, rfl, by decide +kernel, rfl, by decide +kernel, by decide +kernel⟩
def e1__law_are_marks : Of := (oE (eOr (eIsI .bool (eVar 3)) (eNot (eIsI .int (eVar 3)))))
def e2__law_are_marks : Of := (oE (eBin dGt (eBin dIx (eVar 1) (eBin dAdd (eVar 2) (eF (oCall F__law_long (aCons (eVar 4) aNil))))) (eBin dAdd (eBin dIx (eVar 1) (eVar 2)) (eF (oCall F__law_cost (aCons (eVar 4) aNil))))))
def q3__law_are_marks : Sf := (sIf (tB (eCa (f1 anyD) (aCons (eF (oLc [4] (iSeq (eF (oCall F__law_phrases (aCons (eVar 0) (aCons (eVar 2) aNil))))) (gNm 4) tYesF e2__law_are_marks)) aNil))) (sRet (eC (.bl false))) sNil)
def b__law_are_marks : Sf := (sSeq (sIf (tOr' (tNot' (tB (eIsI .tuple (eVar 1)))) (tOr' (tBl (eBin dNe (eCa (f1 lenD) (aCons (eVar 1) aNil)) (eBin dAdd (eCa (f1 lenD) (aCons (eVar 0) aNil)) (eC (.int 1))))) (tOr' (tB (eCa (f1 anyD) (aCons (eF (oLc [3] (iSeq (eVar 1)) (gNm 3) tYesF e1__law_are_marks)) aNil))) (tBl (eBin dNe (eBin dIx (eVar 1) (eC (.int 0))) (eC (.int 0))))))) (sRet (eC (.bl false))) sNil) (sSeq (sFor [2] (TL.iRng1 (aCons (eCa (f1 lenD) (aCons (eVar 0) aNil)) aNil)) (gNm 2) q3__law_are_marks) (sRet (eC (.bl true)))))
abbrev sg__law_are_marks : Sg := ⟨[.sh, .sh], .sh⟩
abbrev ps__law_are_marks : List Str := ["signs", "thing"]
theorem c__law_are_marks {P : Program} {w : World} {K : PySem.W.Frag} {mg : Str → Option Value} {base : Heap} {f : Addr} {fd : FuncData} {k : Nat} (D : Dfn K mg "_law_are_marks" s__law_are_marks ps__law_are_marks f fd) {f__law_phrases : Addr} {fd__law_phrases : FuncData} (c__law_phrases : Cal P w K mg base f__law_phrases fd__law_phrases "_law_phrases" k ps__law_phrases sg__law_phrases F__law_phrases) {f__law_long : Addr} {fd__law_long : FuncData} (c__law_long : Cal P w K mg base f__law_long fd__law_long "_law_long" k ps__law_long sg__law_long F__law_long) {f__law_cost : Addr} {fd__law_cost : FuncData} (c__law_cost : Cal P w K mg base f__law_cost fd__law_cost "_law_cost" k ps__law_cost sg__law_cost F__law_cost) (z_isinstance : mg "isinstance" = none) (z_tuple : mg "tuple" = none) (z_len : mg "len" = none) (z_bool : mg "bool" = none) (z_int : mg "int" = none) (z_any : mg "any" = none) (z_range : mg "range" = none) :
    Cal P w K mg base f fd "_law_are_marks" (k + 1) ps__law_are_marks sg__law_are_marks (runF (b__law_are_marks) 2 3) := by
  unfold b__law_are_marks q3__law_are_marks e2__law_are_marks e1__law_are_marks
  exact cal_ok (sg := sg__law_are_marks) (τ' := [.no, .no, .no, .no, .no]) D sc__law_are_marks ⟨[], .sh, [.no, .no, .no, .no, .no], [], []⟩ 3 rfl rfl rfl rfl rfl rfl (.inl rfl) fun cdv A outer s H E hr => (dss_cons (ds_if (dt_w (dw_or (dt_not (dt_truth (de_isI .tuple (by rfl) z_isinstance bt_isinstance (by rfl) z_tuple bt_tuple (de_var 1 (pv 1))))) (dw_or (dt_cmp (op_neD (hu64 hr)) od_ne (de_callB call_len ca_len (by rfl) z_len bt_len (da_cons (de_var 1 (pv 1)) da_nil)) (de_bin op_addD od_add (de_callB call_len ca_len (by rfl) z_len bt_len (da_cons (de_var 0 (pv 0)) da_nil)) de_int) (nomark _)) (dw_or (dt_truth (de_callB (cr_any rfl) ca_any (by rfl) z_any bt_any (da_cons (de_F (do_lc (own := [("one", 3)]) rfl sc__law_are_marks.nd (di_seq (de_var 1 (pv 1))) (blkOk_by (by kernel_rfl)) (fun _ _ _ _ _ => (dg_name 3 sc__law_are_marks.nd rfl (by first | exact .inl rfl | exact .inr rfl))) (fun _ _ _ _ _ => dts_nil) (fun _ _ _ _ _ => (do_E (de_or (de_isI .bool (by rfl) z_isinstance bt_isinstance (by rfl) z_bool bt_bool (de_var 3 (pv 3))) (de_one (de_not (de_isI .int (by rfl) z_isinstance bt_isinstance (by rfl) z_int bt_int (de_var 3 (pv 3)))))))))) da_nil))) (dw_or1 (dt_cmp (op_neD (hu64 hr)) od_ne (de_ix ix_seq od_ix (de_var 1 (pv 1)) de_int (fun _ _ => rfl)) de_int (nomark _))))))) (dss_one (ds_ret de_bl)) dss_nil) (dss_cons (ds_for (tbk := [.sh, .sh, .no, .no, .no]) (tct := [.sh, .sh, .no, .no, .no]) [2] PassesOwn.never rfl (di_range1 (by rfl) z_range (da_cons (de_callB call_len ca_len (by rfl) z_len bt_len (da_cons (de_var 0 (pv 0)) da_nil)) da_nil)) (dg_name 2 sc__law_are_marks.nd rfl (by first | exact .inl rfl | exact .inr rfl)) (dss_one (ds_if (dt_truth (de_callB (cr_any rfl) ca_any (by rfl) z_any bt_any (da_cons (de_F (do_lc (own := [("phrase", 4)]) rfl sc__law_are_marks.nd (di_seq (de_F (do_fn c__law_phrases hr 2 (by rfl) (da_cons (de_var 0 (pv 0)) (da_cons (de_var 2 (pv 2)) da_nil))))) (blkOk_by (by kernel_rfl)) (fun _ _ _ _ _ => (dg_name 4 sc__law_are_marks.nd rfl (by first | exact .inl rfl | exact .inr rfl))) (fun _ _ _ _ _ => dts_nil) (fun _ _ _ _ _ => (do_E (de_cmp op_gt od_gt (de_ix ix_seq od_ix (de_var 1 (pv 1)) (de_bin op_addD od_add (de_var 2 (pv 2)) (de_F (do_fn c__law_long hr 1 (by rfl) (da_cons (de_var 4 (pv 4)) da_nil)))) (fun _ _ => rfl)) (de_bin op_addD od_add (de_ix ix_seq od_ix (de_var 1 (pv 1)) (de_var 2 (pv 2)) (fun _ _ => rfl)) (de_F (do_fn c__law_cost hr 1 (by rfl) (da_cons (de_var 4 (pv 4)) da_nil)))) (nomark _)))))) da_nil))) (dss_one (ds_ret de_bl)) dss_nil))) (dss_one (ds_ret de_bl))))
def F__law_are_marks : Fm := runF b__law_are_marks 2 3
/-! ### law(script): slots 0 script 1 draw 2 signs 3 k 4 runs 5 sign 6 steps 7 best 8 place 9 other 10 back 11 phrase 12 phrases 13 marks 14 told 15 stop -/
abbrev s_law : Stmt := topS 28
theorem sc_law : FnScope ["script", "draw", "signs", "k", "runs", "sign", "steps", "best", "place", "other", "back", "phrase", "phrases", "marks", "told", "stop"] ["script"] (defScope s_law) := ⟨rfl, rfl, rfl, by decide +kernel, rfl, by decide +kernel, by decide +kernel⟩
def q1_law : Sf := (sSeq (sAsg (eF (oCallI F__law_next 1 0 (aCons (eOwn 1) (aCons (eBin dAdd (eCa (f1 lenD) (aCons (eVar 2) aNil)) (eC (.int 1))) aNil)))) (gNm 10)) (sAsg (eBin dAdd (eVar 2) (eIf (tOr' (tBl (eBin dEq (eVar 10) (eC (.int 0)))) (tBl (eBin dEq (eF (oCallI F__law_next 1 0 (aCons (eOwn 1) (aCons (eC (.int 2)) aNil)))) (eC (.int 0))))) (eTup (aCons (eBin dAdd (eC (.int 7)) (eF (oCallI F__law_next 1 0 (aCons (eOwn 1) (aCons (eC (.int 3)) aNil))))) aNil)) (eSl dSl (eSl dSl (eVar 2) (pSome (eBin dSub (eCa (f1 lenD) (aCons (eVar 2) aNil)) (eVar 10))) pNo) pNo (pSome (eBin dAdd (eC (.int 1)) (eF (oCallI F__law_next 1 0 (aCons (eOwn 1) (aCons (eC (.int 3)) aNil))))))))) (gNm 2)))
def q2_law : Sf := (sIf (tAnd' (tB (eOwn 4)) (tBl (eBin dEq (eBin dIx (eBin dIx (eOwn 4) (eUn dNeg (eC (.int 1)))) (eC (.int 0))) (eVar 5)))) (sSetIx 4 (eTup (aCons (eVar 5) (aCons (eBin dAdd (eBin dIx (eBin dIx (eOwn 4) (eUn dNeg (eC (.int 1)))) (eC (.int 1))) (eC (.int 1))) aNil))) (eUn dNeg (eC (.int 1)))) (sApp 4 (eTup (aCons (eVar 5) (aCons (eC (.int 1)) aNil)))))
def e3_law : Of := (oE (eBin dMod (eBin dSub (eBin dIx (eVar 2) (eVar 3)) (eIf (tBl (eBin dGt (eVar 3) (eC (.int 0)))) (eBin dIx (eVar 2) (eBin dSub (eVar 3) (eC (.int 1)))) (eC (.int 0)))) (eC (.int 256))))
def q4_law : Sf := (sSeq (sAsg (eTup (aCons (eBin dAdd (eBin dIx (eBin dIx (eOwn 7) (eVar 8)) (eC (.int 0))) (eF (oCall F__law_cost (aCons (eVar 11) aNil)))) (aCons (eBin dAdd (eBin dIx (eBin dIx (eOwn 7) (eVar 8)) (eC (.int 1))) (eC (.int 1))) (aCons (eBin dAdd (eBin dIx (eBin dIx (eOwn 7) (eVar 8)) (eC (.int 2))) (eTup (aCons (eVar 11) aNil))) aNil)))) (gNm 14)) (sSeq (sAsg (eBin dAdd (eVar 8) (eF (oCall F__law_long (aCons (eVar 11) aNil)))) (gNm 15)) (sSetIx 7 (eIf (tBl (eBin dIs (eBin dIx (eOwn 7) (eVar 15)) (eC .non))) (eVar 14) (eCa (f2 min2G) (aCons (eVar 14) (aCons (eBin dIx (eOwn 7) (eVar 15)) aNil)))) (eVar 15))))
def q5_law : Sf := (sFor [11, 14, 15] (iSeq (eF (oCall F__law_phrases (aCons (eVar 2) (aCons (eVar 8) aNil))))) (gNm 11) q4_law)
def p16_law : Sf := (sRet (eF (oCall F__law_same (aCons (eF (oCall F_judge_marks (aCons (eVar 2) (aCons (eVar 9) aNil)))) (aCons (eF (oCall F__law_are_marks (aCons (eVar 2) (aCons (eVar 9) aNil)))) aNil)))))
def p15_law : Sf := (sSeq (sAsg (eBin dIx (eF (oLst (aCons (eBin dAdd (eBin dAdd (eSl dSl (eVar 13) pNo (pSome (eVar 3))) (eTup (aCons (eBin dAdd (eBin dIx (eVar 13) (eVar 3)) (eBin dIx (eF (oLst (aCons (eC (.int 1)) (aCons (eUn dNeg (eC (.int 1))) (aCons (eC (.int 9)) aNil))))) (eF (oCallI F__law_next 1 0 (aCons (eOwn 1) (aCons (eC (.int 3)) aNil)))))) aNil))) (eSl dSl (eVar 13) (pSome (eBin dAdd (eVar 3) (eC (.int 1)))) pNo)) (aCons (eSl dSl (eVar 13) (pSome (eC (.int 1))) pNo) (aCons (eF (oCa (f1L listD) (aCons (eVar 13) aNil))) (aCons (eC .non) (aCons (eBin dAdd (eVar 13) (eTup (aCons (eC (.int 0)) aNil))) (aCons (eBin dMul' (eTup (aCons (eC (.bl true)) aNil)) (eCa (f1 lenD) (aCons (eVar 13) aNil))) aNil)))))))) (eF (oCallI F__law_next 1 0 (aCons (eOwn 1) (aCons (eC (.int 6)) aNil))))) (gNm 9)) p16_law)
def p14_law : Sf := (sSeq (sAsg (eF (oCallI F__law_next 1 0 (aCons (eOwn 1) (aCons (eCa (f1 lenD) (aCons (eVar 13) aNil)) aNil)))) (gNm 3)) p15_law)
def p13_law : Sf := (sSeq (sIf (tOr' (tNot' (tB (eF (oCall F__law_are_marks (aCons (eVar 2) (aCons (eVar 13) aNil)))))) (tOr' (tBl (eBin dNe (eBin dIx (eVar 13) (eUn dNeg (eC (.int 1)))) (eBin dIx (eBin dIx (eOwn 7) (eUn dNeg (eC (.int 1)))) (eC (.int 0))))) (tBl (eBin dIsNot (eF (oCall F_judge_marks (aCons (eVar 2) (aCons (eVar 13) aNil)))) (eC (.bl true)))))) (sRet (eC (.bl false))) sNil) p14_law)
def p12_law : Sf := (sSeq (sIf (tOr' (tBl (eBin dIsNot (eF (oCall F_is_sound (aCons (eVar 12) aNil))) (eC (.bl true)))) (tBl (eBin dIsNot (eF (oCall F_is_sound (aCons (eBin dAdd (eTup (aCons (eTup (aCons (eC (.str "copy")) (aCons (eC (.int 1)) (aCons (eC (.int 2)) aNil)))) aNil)) (eVar 12)) aNil))) (eC (.bl false))))) (sRet (eC (.bl false))) sNil) p13_law)
def p11_law : Sf := (sSeq (sIf (tOr' (tNot' (tB (eF (oCall F__law_same (aCons (eVar 12) (aCons (eBin dIx (eBin dIx (eOwn 7) (eUn dNeg (eC (.int 1)))) (eC (.int 2))) aNil)))))) (tOr' (tNot' (tB (eF (oCall F__law_same (aCons (eF (oCall F_cost_of (aCons (eVar 12) aNil))) (aCons (eBin dIx (eBin dIx (eOwn 7) (eUn dNeg (eC (.int 1)))) (eC (.int 0))) aNil)))))) (tNot' (tB (eF (oCall F__law_same (aCons (eF (oCall F_told_signs (aCons (eVar 12) aNil))) (aCons (eVar 2) aNil)))))))) (sRet (eC (.bl false))) sNil) p12_law)
def p10_law : Sf := (sSeq (sAsg (eF (oCall F_cheapest_phrases (aCons (eVar 2) aNil))) (gTp (gsCons (gNm 12) (gsCons (gNm 13) gsNil)))) p11_law)
def p9_law : Sf := (sSeq (sFor [8, 11, 14, 15] (TL.iRng1 (aCons (eCa (f1 lenD) (aCons (eVar 2) aNil)) aNil)) (gNm 8) q5_law) p10_law)
def p8_law : Sf := (sSeq (sSetO 7 (eBinO dAddL (eF (oLst (aCons (eTup (aCons (eC (.int 0)) (aCons (eC (.int 0)) (aCons (eTup aNil) aNil)))) aNil))) (eBin dMul' (eF (oLst (aCons (eC .non) aNil))) (eCa (f1 lenD) (aCons (eVar 2) aNil))))) p9_law)
def p7_law : Sf := (sSeq (sIf (tOr' (tNot' (tB (eF (oCall F__law_same (aCons (eF (oCall F_steps_of (aCons (eVar 2) aNil))) (aCons (eVar 6) aNil)))))) (tNot' (tB (eF (oCall F__law_same (aCons (eF (oCall F_signs_of_steps (aCons (eVar 6) aNil))) (aCons (eVar 2) aNil))))))) (sRet (eC (.bl false))) sNil) p8_law)
def p6_law : Sf := (sSeq (sAsg (eCa (f1 tupleD) (aCons (eF (oLc [3] (TL.iRng1 (aCons (eCa (f1 lenD) (aCons (eVar 2) aNil)) aNil)) (gNm 3) tYesF e3_law)) aNil)) (gNm 6)) p7_law)
def p5_law : Sf := (sSeq (sIf (tOr' (tNot' (tB (eF (oCall F__law_same (aCons (eF (oCall F_runs_of (aCons (eVar 2) aNil))) (aCons (eCa (f1 tupleD) (aCons (eOwn 4) aNil)) aNil)))))) (tNot' (tB (eF (oCall F__law_same (aCons (eF (oCall F_signs_of_runs (aCons (eCa (f1 tupleD) (aCons (eOwn 4) aNil)) aNil))) (aCons (eVar 2) aNil))))))) (sRet (eC (.bl false))) sNil) p6_law)
def p4_law : Sf := (sSeq (sFor [5] (iSeq (eVar 2)) (gNm 5) q2_law) p5_law)
def p3_law : Sf := (sSeq (sSetO 4 (oLst aNil)) p4_law)
def p2_law : Sf := (sSeq (sFor [3, 10] (TL.iRng1 (aCons (eF (oCallI F__law_next 1 0 (aCons (eOwn 1) (aCons (eC (.int 7)) aNil)))) aNil)) (gNm 3) q1_law) p3_law)
def b_law : Sf := (sSeq (sSetO 1 (oCall F__law_draw (aCons (eVar 0) aNil))) (sSeq (sAsg (eTup aNil) (gNm 2)) p2_law))
abbrev sg_law : Sg := ⟨[.sh], .sh⟩
abbrev ps_law : List Str := ["script"]
theorem c_law {P : Program} {w : World} {K : PySem.W.Frag} {mg : Str → Option Value} {base : Heap} {f : Addr} {fd : FuncData} {k : Nat} (D : Dfn K mg "law" s_law ps_law f fd) {f__law_draw : Addr} {fd__law_draw : FuncData} (c__law_draw : Cal P w K mg base f__law_draw fd__law_draw "_law_draw" k ps__law_draw sg__law_draw F__law_draw) {f__law_next : Addr} {fd__law_next : FuncData} (c__law_next : Cal P w K mg base f__law_next fd__law_next "_law_next" k ps__law_next sg__law_next F__law_next) {f__law_same : Addr} {fd__law_same : FuncData} (c__law_same : Cal P w K mg base f__law_same fd__law_same "_law_same" k ps__law_same sg__law_same F__law_same) {f_runs_of : Addr} {fd_runs_of : FuncData} (c_runs_of : Cal P w K mg base f_runs_of fd_runs_of "runs_of" k ps_runs_of sg_runs_of F_runs_of) {f_signs_of_runs : Addr} {fd_signs_of_runs : FuncData} (c_signs_of_runs : Cal P w K mg base f_signs_of_runs fd_signs_of_runs "signs_of_runs" k ps_signs_of_runs sg_signs_of_runs F_signs_of_runs) {f_steps_of : Addr} {fd_steps_of : FuncData} (c_steps_of : Cal P w K mg base f_steps_of fd_steps_of "steps_of" k ps_steps_of sg_steps_of F_steps_of) {f_signs_of_steps : Addr} {fd_signs_of_steps : FuncData} (c_signs_of_steps : Cal P w K mg base f_signs_of_steps fd_signs_of_steps "signs_of_steps" k ps_signs_of_steps sg_signs_of_steps F_signs_of_steps) {f__law_phrases : Addr} {fd__law_phrases : FuncData} (c__law_phrases : Cal P w K mg base f__law_phrases fd__law_phrases "_law_phrases" k ps__law_phrases sg__law_phrases F__law_phrases) {f__law_cost : Addr} {fd__law_cost : FuncData} (c__law_cost : Cal P w K mg base f__law_cost fd__law_cost "_law_cost" k ps__law_cost sg__law_cost F__law_cost) {f__law_long : Addr} {fd__law_long : FuncData} (c__law_long : Cal P w K mg base f__law_long fd__law_long "_law_long" k ps__law_long sg__law_long F__law_long) {f_cheapest_phrases : Addr} {fd_cheapest_phrases : FuncData} (c_cheapest_phrases : Cal P w K mg base f_cheapest_phrases fd_cheapest_phrases "cheapest_phrases" k ps_cheapest_phrases sg_cheapest_phrases F_cheapest_phrases) {f_cost_of : Addr} {fd_cost_of : FuncData} (c_cost_of : Cal P w K mg base f_cost_of fd_cost_of "cost_of" k ps_cost_of sg_cost_of F_cost_of) {f_told_signs : Addr} {fd_told_signs : FuncData} (c_told_signs : Cal P w K mg base f_told_signs fd_told_signs "told_signs" k ps_told_signs sg_told_signs F_told_signs) {f_is_sound : Addr} {fd_is_sound : FuncData} (c_is_sound : Cal P w K mg base f_is_sound fd_is_sound "is_sound" k ps_is_sound sg_is_sound F_is_sound) {f__law_are_marks : Addr} {fd__law_are_marks : FuncData} (c__law_are_marks : Cal P w K mg base f__law_are_marks fd__law_are_marks "_law_are_marks" k ps__law_are_marks sg__law_are_marks F__law_are_marks) {f_judge_marks : Addr} {fd_judge_marks : FuncData} (c_judge_marks : Cal P w K mg base f_judge_marks fd_judge_marks "judge_marks" k ps_judge_marks sg_judge_marks F_judge_marks) (z_range : mg "range" = none) (z_len : mg "len" = none) (z_tuple : mg "tuple" = none) (z_min : mg "min" = none) (z_list : mg "list" = none) :
    Cal P w K mg base f fd "law" (k + 1) ps_law sg_law (runF (b_law) 1 15) := by
  unfold b_law p2_law p3_law p4_law p5_law p6_law p7_law p8_law p9_law p10_law p11_law p12_law p13_law p14_law p15_law p16_law q5_law q4_law e3_law q2_law q1_law
  exact cal_ok (sg := sg_law) (τ' := [.no, .no, .no, .no, .no, .no, .no, .no, .no, .no, .no, .no, .no, .no, .no, .no]) D sc_law ⟨[], .sh, [.no, .no, .no, .no, .no, .no, .no, .no, .no, .no, .no, .no, .no, .no, .no, .no], [], []⟩ 15 rfl rfl rfl rfl rfl rfl (.inl rfl) fun cdv A outer s H E hr => (dss_cons (ds_setO 1 sc_law.nd rfl (by first | exact .inl rfl | exact .inr rfl) (do_fn c__law_draw hr 1 (by rfl) (da_cons (de_var 0 (pv 0)) da_nil))) (dss_cons (ds_set 2 sc_law.nd rfl (by first | exact .inl rfl | exact .inr rfl) (de_tup da_nil)) (dss_cons (ds_for (tbk := [.sh, (.oL .sh), .sh, .no, .no, .no, .no, .no, .no, .no, .no, .no, .no, .no, .no, .no]) (tct := [.sh, (.oL .sh), .sh, .no, .no, .no, .no, .no, .no, .no, .no, .no, .no, .no, .no, .no]) [3, 10] PassesOwn.never rfl (di_range1 (by rfl) z_range (da_cons (de_F (do_fnI c__law_next hr 1 0 2 (by rfl) (dai_io 1 (pv 1) (dai_cons de_int dai_nil)))) da_nil)) (dg_name 3 sc_law.nd rfl (by first | exact .inl rfl | exact .inr rfl)) (dss_cons (ds_set 10 sc_law.nd rfl (by first | exact .inl rfl | exact .inr rfl) (de_F (do_fnI c__law_next hr 1 0 2 (by rfl) (dai_io 1 (pv 1) (dai_cons (de_bin op_addD od_add (de_callB call_len ca_len (by rfl) z_len bt_len (da_cons (de_var 2 (pv 2)) da_nil)) de_int) dai_nil))))) (dss_one (ds_set 2 sc_law.nd rfl (by first | exact .inl rfl | exact .inr rfl) (de_bin op_addD od_add (de_var 2 (pv 2)) (de_if (dt_w (dw_or (dt_cmp (op_eqD (hu64 hr)) od_eq (de_var 10 (pv 10)) de_int (nomark _)) (dw_or1 (dt_cmp (op_eqD (hu64 hr)) od_eq (de_F (do_fnI c__law_next hr 1 0 2 (by rfl) (dai_io 1 (pv 1) (dai_cons de_int dai_nil)))) de_int (nomark _))))) (de_tup (da_cons (de_bin op_addD od_add de_int (de_F (do_fnI c__law_next hr 1 0 2 (by rfl) (dai_io 1 (pv 1) (dai_cons de_int dai_nil))))) da_nil)) (de_slice sl_D sd_sl (de_slice sl_D sd_sl (de_var 2 (pv 2)) (dp_some (de_bin op_sub od_sub (de_callB call_len ca_len (by rfl) z_len bt_len (da_cons (de_var 2 (pv 2)) da_nil)) (de_var 10 (pv 10)))) dp_no) dp_no (dp_some (de_bin op_addD od_add de_int (de_F (do_fnI c__law_next hr 1 0 2 (by rfl) (dai_io 1 (pv 1) (dai_cons de_int dai_nil))))))))))))) (dss_cons (ds_setO 4 sc_law.nd rfl (by first | exact .inl rfl | exact .inr rfl) (do_lst da_nil)) (dss_cons (ds_for (tbk := [.sh, (.oL .sh), .sh, .no, (.oL .sh), .no, .no, .no, .no, .no, .no, .no, .no, .no, .no, .no]) (tct := [.sh, (.oL .sh), .sh, .no, (.oL .sh), .no, .no, .no, .no, .no, .no, .no, .no, .no, .no, .no]) [5] PassesOwn.never rfl (di_seq (de_var 2 (pv 2))) (dg_name 5 sc_law.nd rfl (by first | exact .inl rfl | exact .inr rfl)) (dss_one (ds_if (dt_w (dw_and (dt_truth (de_own 4 (pv 4))) (dw_and1 (dt_cmp (op_eqD (hu64 hr)) od_eq (de_ix ix_seq od_ix (de_ix ix_seq od_ix (de_own 4 (pv 4)) (de_un un_neg ud_neg de_int) (fun _ _ => rfl)) de_int (fun _ _ => rfl)) (de_var 5 (pv 5)) (nomark _))))) (dss_one (ds_setix 4 (de_tup (da_cons (de_var 5 (pv 5)) (da_cons (de_bin op_addD od_add (de_ix ix_seq od_ix (de_ix ix_seq od_ix (de_own 4 (pv 4)) (de_un un_neg ud_neg de_int) (fun _ _ => rfl)) de_int (fun _ _ => rfl)) de_int) da_nil))) (pv 4) (de_un un_neg ud_neg de_int))) (dss_one (ds_app 4 (pv 4) (de_tup (da_cons (de_var 5 (pv 5)) (da_cons de_int da_nil)))))))) (dss_cons (ds_if (dt_w (dw_or (dt_not (dt_truth (de_F (do_fn c__law_same hr 2 (by rfl) (da_cons (de_F (do_fn c_runs_of hr 1 (by rfl) (da_cons (de_var 2 (pv 2)) da_nil))) (da_cons (de_callTy call_tuple_of ca_tuple (by rfl) z_tuple bt_tuple (da_cons (de_own 4 (pv 4)) da_nil)) da_nil)))))) (dw_or1 (dt_not (dt_truth (de_F (do_fn c__law_same hr 2 (by rfl) (da_cons (de_F (do_fn c_signs_of_runs hr 1 (by rfl) (da_cons (de_callTy call_tuple_of ca_tuple (by rfl) z_tuple bt_tuple (da_cons (de_own 4 (pv 4)) da_nil)) da_nil))) (da_cons (de_var 2 (pv 2)) da_nil))))))))) (dss_one (ds_ret de_bl)) dss_nil) (dss_cons (ds_set 6 sc_law.nd rfl (by first | exact .inl rfl | exact .inr rfl) (de_callTy call_tuple_of ca_tuple (by rfl) z_tuple bt_tuple (da_cons (de_F (do_lc (own := [("k", 3)]) rfl sc_law.nd (di_range1 (by rfl) z_range (da_cons (de_callB call_len ca_len (by rfl) z_len bt_len (da_cons (de_var 2 (pv 2)) da_nil)) da_nil)) (blkOk_by (by kernel_rfl)) (fun _ _ _ _ _ => (dg_name 3 sc_law.nd rfl (by first | exact .inl rfl | exact .inr rfl))) (fun _ _ _ _ _ => dts_nil) (fun _ _ _ _ _ => (do_E (de_bin op_mod od_mod (de_bin op_sub od_sub (de_ix ix_seq od_ix (de_var 2 (pv 2)) (de_var 3 (pv 3)) (fun _ _ => rfl)) (de_if (dt_cmp op_gt od_gt (de_var 3 (pv 3)) de_int (nomark _)) (de_ix ix_seq od_ix (de_var 2 (pv 2)) (de_bin op_sub od_sub (de_var 3 (pv 3)) de_int) (fun _ _ => rfl)) de_int)) de_int))))) da_nil))) (dss_cons (ds_if (dt_w (dw_or (dt_not (dt_truth (de_F (do_fn c__law_same hr 2 (by rfl) (da_cons (de_F (do_fn c_steps_of hr 1 (by rfl) (da_cons (de_var 2 (pv 2)) da_nil))) (da_cons (de_var 6 (pv 6)) da_nil)))))) (dw_or1 (dt_not (dt_truth (de_F (do_fn c__law_same hr 2 (by rfl) (da_cons (de_F (do_fn c_signs_of_steps hr 1 (by rfl) (da_cons (de_var 6 (pv 6)) da_nil))) (da_cons (de_var 2 (pv 2)) da_nil))))))))) (dss_one (ds_ret de_bl)) dss_nil) (dss_cons (ds_setO 7 sc_law.nd rfl (by first | exact .inl rfl | exact .inr rfl) (do_bin op_cat oo_add (de_F (do_lst (da_cons (de_tup (da_cons de_int (da_cons de_int (da_cons (de_tup da_nil) da_nil)))) da_nil))) (de_bin op_mulD' od_mul' (de_F (do_lst (da_cons de_non da_nil))) (de_callB call_len ca_len (by rfl) z_len bt_len (da_cons (de_var 2 (pv 2)) da_nil))))) (dss_cons (ds_for (tbk := [.sh, (.oL .sh), .sh, .no, (.oL .sh), .no, .sh, (.oL .sh), .no, .no, .no, .no, .no, .no, .no, .no]) (tct := [.sh, (.oL .sh), .sh, .no, (.oL .sh), .no, .sh, (.oL .sh), .no, .no, .no, .no, .no, .no, .no, .no]) [8, 11, 14, 15] PassesOwn.never rfl (di_range1 (by rfl) z_range (da_cons (de_callB call_len ca_len (by rfl) z_len bt_len (da_cons (de_var 2 (pv 2)) da_nil)) da_nil)) (dg_name 8 sc_law.nd rfl (by first | exact .inl rfl | exact .inr rfl)) (dss_one (ds_for (tbk := [.sh, (.oL .sh), .sh, .no, (.oL .sh), .no, .sh, (.oL .sh), .sh, .no, .no, .no, .no, .no, .no, .no]) (tct := [.sh, (.oL .sh), .sh, .no, (.oL .sh), .no, .sh, (.oL .sh), .sh, .no, .no, .no, .no, .no, .no, .no]) [11, 14, 15] PassesOwn.never rfl (di_seq (de_F (do_fn c__law_phrases hr 2 (by rfl) (da_cons (de_var 2 (pv 2)) (da_cons (de_var 8 (pv 8)) da_nil))))) (dg_name 11 sc_law.nd rfl (by first | exact .inl rfl | exact .inr rfl)) (dss_cons (ds_set 14 sc_law.nd rfl (by first | exact .inl rfl | exact .inr rfl) (de_tup (da_cons (de_bin op_addD od_add (de_ix ix_seq od_ix (de_ix ix_seq od_ix (de_own 7 (pv 7)) (de_var 8 (pv 8)) (fun _ _ => rfl)) de_int (fun _ _ => rfl)) (de_F (do_fn c__law_cost hr 1 (by rfl) (da_cons (de_var 11 (pv 11)) da_nil)))) (da_cons (de_bin op_addD od_add (de_ix ix_seq od_ix (de_ix ix_seq od_ix (de_own 7 (pv 7)) (de_var 8 (pv 8)) (fun _ _ => rfl)) de_int (fun _ _ => rfl)) de_int) (da_cons (de_bin op_addD od_add (de_ix ix_seq od_ix (de_ix ix_seq od_ix (de_own 7 (pv 7)) (de_var 8 (pv 8)) (fun _ _ => rfl)) de_int (fun _ _ => rfl)) (de_tup (da_cons (de_var 11 (pv 11)) da_nil))) da_nil))))) (dss_cons (ds_set 15 sc_law.nd rfl (by first | exact .inl rfl | exact .inr rfl) (de_bin op_addD od_add (de_var 8 (pv 8)) (de_F (do_fn c__law_long hr 1 (by rfl) (da_cons (de_var 11 (pv 11)) da_nil))))) (dss_one (ds_setix 7 (de_if (dt_cmp op_isD od_is (de_ix ix_seq od_ix (de_own 7 (pv 7)) (de_var 15 (pv 15)) (fun _ _ => rfl)) de_non (nomark _)) (de_var 14 (pv 14)) (de_callB (call_min2G rfl (hu64 hr)) ca_min2G (by rfl) z_min bt_min (da_cons (de_var 14 (pv 14)) (da_cons (de_ix ix_seq od_ix (de_own 7 (pv 7)) (de_var 15 (pv 15)) (fun _ _ => rfl)) da_nil)))) (pv 7) (de_var 15 (pv 15))))))))) (dss_cons (ds_asg (de_F (do_fn c_cheapest_phrases hr 1 (by rfl) (da_cons (de_var 2 (pv 2)) da_nil))) (dg_tup rfl (dgs_cons (dg_name 12 sc_law.nd rfl (by first | exact .inl rfl | exact .inr rfl)) (dgs_cons (dg_name 13 sc_law.nd rfl (by first | exact .inl rfl | exact .inr rfl)) dgs_nil)) (gsCons_len (gsCons_len gsNil_len)))) (dss_cons (ds_if (dt_w (dw_or (dt_not (dt_truth (de_F (do_fn c__law_same hr 2 (by rfl) (da_cons (de_var 12 (pv 12)) (da_cons (de_ix ix_seq od_ix (de_ix ix_seq od_ix (de_own 7 (pv 7)) (de_un un_neg ud_neg de_int) (fun _ _ => rfl)) de_int (fun _ _ => rfl)) da_nil)))))) (dw_or (dt_not (dt_truth (de_F (do_fn c__law_same hr 2 (by rfl) (da_cons (de_F (do_fn c_cost_of hr 1 (by rfl) (da_cons (de_var 12 (pv 12)) da_nil))) (da_cons (de_ix ix_seq od_ix (de_ix ix_seq od_ix (de_own 7 (pv 7)) (de_un un_neg ud_neg de_int) (fun _ _ => rfl)) de_int (fun _ _ => rfl)) da_nil)))))) (dw_or1 (dt_not (dt_truth (de_F (do_fn c__law_same hr 2 (by rfl) (da_cons (de_F (do_fn c_told_signs hr 1 (by rfl) (da_cons (de_var 12 (pv 12)) da_nil))) (da_cons (de_var 2 (pv 2)) da_nil)))))))))) (dss_one (ds_ret de_bl)) dss_nil) (dss_cons (ds_if (dt_w (dw_or (dt_cmp op_isNotD od_isNot (de_F (do_fn c_is_sound hr 1 (by rfl) (da_cons (de_var 12 (pv 12)) da_nil))) de_bl (nomark _)) (dw_or1 (dt_cmp op_isNotD od_isNot (de_F (do_fn c_is_sound hr 1 (by rfl) (da_cons (de_bin op_addD od_add (de_tup (da_cons (de_tup (da_cons de_str (da_cons de_int (da_cons de_int da_nil)))) da_nil)) (de_var 12 (pv 12))) da_nil))) de_bl (nomark _))))) (dss_one (ds_ret de_bl)) dss_nil) (dss_cons (ds_if (dt_w (dw_or (dt_not (dt_truth (de_F (do_fn c__law_are_marks hr 2 (by rfl) (da_cons (de_var 2 (pv 2)) (da_cons (de_var 13 (pv 13)) da_nil)))))) (dw_or (dt_cmp (op_neD (hu64 hr)) od_ne (de_ix ix_seq od_ix (de_var 13 (pv 13)) (de_un un_neg ud_neg de_int) (fun _ _ => rfl)) (de_ix ix_seq od_ix (de_ix ix_seq od_ix (de_own 7 (pv 7)) (de_un un_neg ud_neg de_int) (fun _ _ => rfl)) de_int (fun _ _ => rfl)) (nomark _)) (dw_or1 (dt_cmp op_isNotD od_isNot (de_F (do_fn c_judge_marks hr 2 (by rfl) (da_cons (de_var 2 (pv 2)) (da_cons (de_var 13 (pv 13)) da_nil)))) de_bl (nomark _)))))) (dss_one (ds_ret de_bl)) dss_nil) (dss_cons (ds_set 3 sc_law.nd rfl (by first | exact .inl rfl | exact .inr rfl) (de_F (do_fnI c__law_next hr 1 0 2 (by rfl) (dai_io 1 (pv 1) (dai_cons (de_callB call_len ca_len (by rfl) z_len bt_len (da_cons (de_var 13 (pv 13)) da_nil)) dai_nil))))) (dss_cons (ds_set 9 sc_law.nd rfl (by first | exact .inl rfl | exact .inr rfl) (de_ix ix_seq od_ix (de_F (do_lst (da_cons (de_bin op_addD od_add (de_bin op_addD od_add (de_slice sl_D sd_sl (de_var 13 (pv 13)) dp_no (dp_some (de_var 3 (pv 3)))) (de_tup (da_cons (de_bin op_addD od_add (de_ix ix_seq od_ix (de_var 13 (pv 13)) (de_var 3 (pv 3)) (fun _ _ => rfl)) (de_ix ix_seq od_ix (de_F (do_lst (da_cons de_int (da_cons (de_un un_neg ud_neg de_int) (da_cons de_int da_nil))))) (de_F (do_fnI c__law_next hr 1 0 2 (by rfl) (dai_io 1 (pv 1) (dai_cons de_int dai_nil)))) (fun _ _ => rfl))) da_nil))) (de_slice sl_D sd_sl (de_var 13 (pv 13)) (dp_some (de_bin op_addD od_add (de_var 3 (pv 3)) de_int)) dp_no)) (da_cons (de_slice sl_D sd_sl (de_var 13 (pv 13)) (dp_some de_int) dp_no) (da_cons (de_F (do_callTy call_list_of co_list (by rfl) z_list bt_list (da_cons (de_var 13 (pv 13)) da_nil))) (da_cons de_non (da_cons (de_bin op_addD od_add (de_var 13 (pv 13)) (de_tup (da_cons de_int da_nil))) (da_cons (de_bin op_mulD' od_mul' (de_tup (da_cons de_bl da_nil)) (de_callB call_len ca_len (by rfl) z_len bt_len (da_cons (de_var 13 (pv 13)) da_nil))) da_nil)))))))) (de_F (do_fnI c__law_next hr 1 0 2 (by rfl) (dai_io 1 (pv 1) (dai_cons de_int dai_nil)))) (fun _ _ => rfl))) (dss_one (ds_ret (de_F (do_fn c__law_same hr 2 (by rfl) (da_cons (de_F (do_fn c_judge_marks hr 2 (by rfl) (da_cons (de_var 2 (pv 2)) (da_cons (de_var 9 (pv 9)) da_nil)))) (da_cons (de_F (do_fn c__law_are_marks hr 2 (by rfl) (da_cons (de_var 2 (pv 2)) (da_cons (de_var 9 (pv 9)) da_nil)))) da_nil))))))))))))))))))))))
def F_law : Fm := runF b_law 1 15
theorem law_cal {P : Program} {w : World} {K : PySem.W.Frag} {mg : Str → Option Value} {base : Heap} {f_is_integer : Addr} {fd_is_integer : FuncData} (D_is_integer : Dfn K mg "is_integer" s_is_integer ps_is_integer f_is_integer fd_is_integer) {f_runs_of : Addr} {fd_runs_of : FuncData} (D_runs_of : Dfn K mg "runs_of" s_runs_of ps_runs_of f_runs_of fd_runs_of) {f_signs_of_runs : Addr} {fd_signs_of_runs : FuncData} (D_signs_of_runs : Dfn K mg "signs_of_runs" s_signs_of_runs ps_signs_of_runs f_signs_of_runs fd_signs_of_runs) {f_steps_of : Addr} {fd_steps_of : FuncData} (D_steps_of : Dfn K mg "steps_of" s_steps_of ps_steps_of f_steps_of fd_steps_of) {f_signs_of_steps : Addr} {fd_signs_of_steps : FuncData} (D_signs_of_steps : Dfn K mg "signs_of_steps" s_signs_of_steps ps_signs_of_steps f_signs_of_steps fd_signs_of_steps) {f_length_of : Addr} {fd_length_of : FuncData} (D_length_of : Dfn K mg "length_of" s_length_of ps_length_of f_length_of fd_length_of) {f_is_sound : Addr} {fd_is_sound : FuncData} (D_is_sound : Dfn K mg "is_sound" s_is_sound ps_is_sound f_is_sound fd_is_sound) {f_told_signs : Addr} {fd_told_signs : FuncData} (D_told_signs : Dfn K mg "told_signs" s_told_signs ps_told_signs f_told_signs fd_told_signs) {f_cost_of : Addr} {fd_cost_of : FuncData} (D_cost_of : Dfn K mg "cost_of" s_cost_of ps_cost_of f_cost_of fd_cost_of) {f_copies_at : Addr} {fd_copies_at : FuncData} (D_copies_at : Dfn K mg "copies_at" s_copies_at ps_copies_at f_copies_at fd_copies_at) {f_phrases_at : Addr} {fd_phrases_at : FuncData} (D_phrases_at : Dfn K mg "phrases_at" s_phrases_at ps_phrases_at f_phrases_at fd_phrases_at) {f_cheapest_phrases : Addr} {fd_cheapest_phrases : FuncData} (D_cheapest_phrases : Dfn K mg "cheapest_phrases" s_cheapest_phrases ps_cheapest_phrases f_cheapest_phrases fd_cheapest_phrases) {f_judge_marks : Addr} {fd_judge_marks : FuncData} (D_judge_marks : Dfn K mg "judge_marks" s_judge_marks ps_judge_marks f_judge_marks fd_judge_marks) {f__law_draw : Addr} {fd__law_draw : FuncData} (D__law_draw : Dfn K mg "_law_draw" s__law_draw ps__law_draw f__law_draw fd__law_draw) {f__law_next : Addr} {fd__law_next : FuncData} (D__law_next : Dfn K mg "_law_next" s__law_next ps__law_next f__law_next fd__law_next) {f__law_same : Addr} {fd__law_same : FuncData} (D__law_same : Dfn K mg "_law_same" s__law_same ps__law_same f__law_same fd__law_same) {f__law_fits : Addr} {fd__law_fits : FuncData} (D__law_fits : Dfn K mg "_law_fits" s__law_fits ps__law_fits f__law_fits fd__law_fits) {f__law_phrases : Addr} {fd__law_phrases : FuncData} (D__law_phrases : Dfn K mg "_law_phrases" s__law_phrases ps__law_phrases f__law_phrases fd__law_phrases) {f__law_long : Addr} {fd__law_long : FuncData} (D__law_long : Dfn K mg "_law_long" s__law_long ps__law_long f__law_long fd__law_long) {f__law_cost : Addr} {fd__law_cost : FuncData} (D__law_cost : Dfn K mg "_law_cost" s__law_cost ps__law_cost f__law_cost fd__law_cost) {f__law_are_marks : Addr} {fd__law_are_marks : FuncData} (D__law_are_marks : Dfn K mg "_law_are_marks" s__law_are_marks ps__law_are_marks f__law_are_marks fd__law_are_marks) {f_law : Addr} {fd_law : FuncData} (D_law : Dfn K mg "law" s_law ps_law f_law fd_law) (z_abs : mg "abs" = none) (z_all : mg "all" = none) (z_any : mg "any" = none) (z_bool : mg "bool" = none) (z_int : mg "int" = none) (z_isinstance : mg "isinstance" = none) (z_len : mg "len" = none) (z_list : mg "list" = none) (z_min : mg "min" = none) (z_range : mg "range" = none) (z_str : mg "str" = none) (z_sum : mg "sum" = none) (z_tuple : mg "tuple" = none) (z_zip : mg "zip" = none) (k_BACK_MOST : KC K mg "BACK_MOST" k_BACK_MOST) (k_COPY_COST : KC K mg "COPY_COST" k_COPY_COST) (k_MANY_MOST : KC K mg "MANY_MOST" k_MANY_MOST) (k_SIGN_COST : KC K mg "SIGN_COST" k_SIGN_COST) :
    Cal P w K mg base f_law fd_law "law" 10 ps_law sg_law F_law := by
  have C_is_integer : Cal P w K mg base f_is_integer fd_is_integer "is_integer" 1 ps_is_integer sg_is_integer F_is_integer := c_is_integer (k := 0) D_is_integer z_isinstance z_int z_bool
  have C_runs_of : Cal P w K mg base f_runs_of fd_runs_of "runs_of" 1 ps_runs_of sg_runs_of F_runs_of := c_runs_of (k := 0) D_runs_of z_tuple
  have C_signs_of_runs : Cal P w K mg base f_signs_of_runs fd_signs_of_runs "signs_of_runs" 1 ps_signs_of_runs sg_signs_of_runs F_signs_of_runs := c_signs_of_runs (k := 0) D_signs_of_runs
  have C_steps_of : Cal P w K mg base f_steps_of fd_steps_of "steps_of" 1 ps_steps_of sg_steps_of F_steps_of := c_steps_of (k := 0) D_steps_of z_list z_zip z_tuple
  have C_signs_of_steps : Cal P w K mg base f_signs_of_steps fd_signs_of_steps "signs_of_steps" 1 ps_signs_of_steps sg_signs_of_steps F_signs_of_steps := c_signs_of_steps (k := 0) D_signs_of_steps z_tuple
  have C_length_of : Cal P w K mg base f_length_of fd_length_of "length_of" 1 ps_length_of sg_length_of F_length_of := c_length_of (k := 0) D_length_of
  have C_is_sound : Cal P w K mg base f_is_sound fd_is_sound "is_sound" 2 ps_is_sound sg_is_sound F_is_sound := c_is_sound (k := 1) D_is_sound (C_length_of.mono (by decide))
  have C_told_signs : Cal P w K mg base f_told_signs fd_told_signs "told_signs" 1 ps_told_signs sg_told_signs F_told_signs := c_told_signs (k := 0) D_told_signs z_range z_tuple
  have C_cost_of : Cal P w K mg base f_cost_of fd_cost_of "cost_of" 1 ps_cost_of sg_cost_of F_cost_of := c_cost_of (k := 0) D_cost_of z_sum k_SIGN_COST k_COPY_COST
  have C_copies_at : Cal P w K mg base f_copies_at fd_copies_at "copies_at" 1 ps_copies_at sg_copies_at F_copies_at := c_copies_at (k := 0) D_copies_at z_min z_range z_len k_BACK_MOST k_MANY_MOST
  have C_phrases_at : Cal P w K mg base f_phrases_at fd_phrases_at "phrases_at" 2 ps_phrases_at sg_phrases_at F_phrases_at := c_phrases_at (k := 1) D_phrases_at (C_copies_at.mono (by decide))
  have C_cheapest_phrases : Cal P w K mg base f_cheapest_phrases fd_cheapest_phrases "cheapest_phrases" 3 ps_cheapest_phrases sg_cheapest_phrases F_cheapest_phrases := c_cheapest_phrases (k := 2) D_cheapest_phrases (C_phrases_at.mono (by decide)) (C_cost_of.mono (by decide)) (C_length_of.mono (by decide)) z_len z_range z_tuple
  have C_judge_marks : Cal P w K mg base f_judge_marks fd_judge_marks "judge_marks" 3 ps_judge_marks sg_judge_marks F_judge_marks := c_judge_marks (k := 2) D_judge_marks (C_is_integer.mono (by decide)) (C_phrases_at.mono (by decide)) (C_length_of.mono (by decide)) (C_cost_of.mono (by decide)) z_isinstance z_tuple z_len z_all z_range
  have C__law_draw : Cal P w K mg base f__law_draw fd__law_draw "_law_draw" 1 ps__law_draw sg__law_draw F__law_draw := c__law_draw (k := 0) D__law_draw z_list
  have C__law_next : Cal P w K mg base f__law_next fd__law_next "_law_next" 1 ps__law_next sg__law_next F__law_next := c__law_next (k := 0) D__law_next z_int z_len z_abs
  have C__law_same : Cal P w K mg base f__law_same fd__law_same "_law_same" 9 ps__law_same sg__law_same F__law_same := by
    have go : ∀ r, Cal P w K mg base f__law_same fd__law_same "_law_same" (0 + 1 + r) ps__law_same sg__law_same (R__law_same r) := by
      intro r
      induction r with
      | zero => exact Cal.none D__law_same
      | succ r ih => exact (c__law_same (k := 0 + 1 + r) D__law_same ih z_isinstance z_list z_tuple z_len z_range z_all z_bool z_str z_int)
    exact go 8
  have C__law_fits : Cal P w K mg base f__law_fits fd__law_fits "_law_fits" 1 ps__law_fits sg__law_fits F__law_fits := c__law_fits (k := 0) D__law_fits z_len z_range z_all
  have C__law_phrases : Cal P w K mg base f__law_phrases fd__law_phrases "_law_phrases" 2 ps__law_phrases sg__law_phrases F__law_phrases := c__law_phrases (k := 1) D__law_phrases (C__law_fits.mono (by decide)) z_range z_len
  have C__law_long : Cal P w K mg base f__law_long fd__law_long "_law_long" 1 ps__law_long sg__law_long F__law_long := c__law_long (k := 0) D__law_long
  have C__law_cost : Cal P w K mg base f__law_cost fd__law_cost "_law_cost" 1 ps__law_cost sg__law_cost F__law_cost := c__law_cost (k := 0) D__law_cost
  have C__law_are_marks : Cal P w K mg base f__law_are_marks fd__law_are_marks "_law_are_marks" 3 ps__law_are_marks sg__law_are_marks F__law_are_marks := c__law_are_marks (k := 2) D__law_are_marks (C__law_phrases.mono (by decide)) (C__law_long.mono (by decide)) (C__law_cost.mono (by decide)) z_isinstance z_tuple z_len z_bool z_int z_any z_range
  have C_law : Cal P w K mg base f_law fd_law "law" 10 ps_law sg_law F_law := c_law (k := 9) D_law (C__law_draw.mono (by decide)) (C__law_next.mono (by decide)) (C__law_same.mono (by decide)) (C_runs_of.mono (by decide)) (C_signs_of_runs.mono (by decide)) (C_steps_of.mono (by decide)) (C_signs_of_steps.mono (by decide)) (C__law_phrases.mono (by decide)) (C__law_cost.mono (by decide)) (C__law_long.mono (by decide)) (C_cheapest_phrases.mono (by decide)) (C_cost_of.mono (by decide)) (C_told_signs.mono (by decide)) (C_is_sound.mono (by decide)) (C__law_are_marks.mono (by decide)) (C_judge_marks.mono (by decide)) z_range z_len z_tuple z_min z_list
  exact C_law
set_option maxHeartbeats 0 in
theorem all_mk {l : PySem.W.OpenLaw} {w : World} {K : PySem.W.Frag} {h : Heap} {mg : Str → Option Value} {fa : Addr} (X : K.In h) (G : h.Ns mainGlobals mg) (hfa : mg "law" = some (.ref fa))
    {f0 : Addr} {od0 an0 : Option Addr} {sl0 : Array (Option Value)} {oc0 kV0 dc0 pm0 cd0 ct0 : Value}
    (a0 : PySem.W.nsIn K mainGlobals "is_integer" = some (some (.ref f0))) (l0 : K.lookup f0 = some ⟨oc0, od0, .func (PySem.W.fnOf "is_integer" "is_integer" (defArgs s_is_integer) (defBody s_is_integer) (defScope s_is_integer) .none kV0 dc0 pm0 an0 cd0 ct0), sl0⟩) (c0 : PySem.W.codeIn K cd0 "is_integer" = true) (k0 : PySem.W.keepIn K (.ref f0) = true)
    {f1 : Addr} {od1 an1 : Option Addr} {sl1 : Array (Option Value)} {oc1 kV1 dc1 pm1 cd1 ct1 : Value}
    (a1 : PySem.W.nsIn K mainGlobals "runs_of" = some (some (.ref f1))) (l1 : K.lookup f1 = some ⟨oc1, od1, .func (PySem.W.fnOf "runs_of" "runs_of" (defArgs s_runs_of) (defBody s_runs_of) (defScope s_runs_of) .none kV1 dc1 pm1 an1 cd1 ct1), sl1⟩) (c1 : PySem.W.codeIn K cd1 "runs_of" = true) (k1 : PySem.W.keepIn K (.ref f1) = true)
    {f2 : Addr} {od2 an2 : Option Addr} {sl2 : Array (Option Value)} {oc2 kV2 dc2 pm2 cd2 ct2 : Value}
    (a2 : PySem.W.nsIn K mainGlobals "signs_of_runs" = some (some (.ref f2))) (l2 : K.lookup f2 = some ⟨oc2, od2, .func (PySem.W.fnOf "signs_of_runs" "signs_of_runs" (defArgs s_signs_of_runs) (defBody s_signs_of_runs) (defScope s_signs_of_runs) .none kV2 dc2 pm2 an2 cd2 ct2), sl2⟩) (c2 : PySem.W.codeIn K cd2 "signs_of_runs" = true) (k2 : PySem.W.keepIn K (.ref f2) = true)
    {f3 : Addr} {od3 an3 : Option Addr} {sl3 : Array (Option Value)} {oc3 kV3 dc3 pm3 cd3 ct3 : Value}
    (a3 : PySem.W.nsIn K mainGlobals "steps_of" = some (some (.ref f3))) (l3 : K.lookup f3 = some ⟨oc3, od3, .func (PySem.W.fnOf "steps_of" "steps_of" (defArgs s_steps_of) (defBody s_steps_of) (defScope s_steps_of) .none kV3 dc3 pm3 an3 cd3 ct3), sl3⟩) (c3 : PySem.W.codeIn K cd3 "steps_of" = true) (k3 : PySem.W.keepIn K (.ref f3) = true)
    {f4 : Addr} {od4 an4 : Option Addr} {sl4 : Array (Option Value)} {oc4 kV4 dc4 pm4 cd4 ct4 : Value}
    (a4 : PySem.W.nsIn K mainGlobals "signs_of_steps" = some (some (.ref f4))) (l4 : K.lookup f4 = some ⟨oc4, od4, .func (PySem.W.fnOf "signs_of_steps" "signs_of_steps" (defArgs s_signs_of_steps) (defBody s_signs_of_steps) (defScope s_signs_of_steps) .none kV4 dc4 pm4 an4 cd4 ct4), sl4⟩) (c4 : PySem.W.codeIn K cd4 "signs_of_steps" = true) (k4 : PySem.W.keepIn K (.ref f4) = true)
    {f5 : Addr} {od5 an5 : Option Addr} {sl5 : Array (Option Value)} {oc5 kV5 dc5 pm5 cd5 ct5 : Value}
    (a5 : PySem.W.nsIn K mainGlobals "length_of" = some (some (.ref f5))) (l5 : K.lookup f5 = some ⟨oc5, od5, .func (PySem.W.fnOf "length_of" "length_of" (defArgs s_length_of) (defBody s_length_of) (defScope s_length_of) .none kV5 dc5 pm5 an5 cd5 ct5), sl5⟩) (c5 : PySem.W.codeIn K cd5 "length_of" = true) (k5 : PySem.W.keepIn K (.ref f5) = true)
    {f6 : Addr} {od6 an6 : Option Addr} {sl6 : Array (Option Value)} {oc6 kV6 dc6 pm6 cd6 ct6 : Value}
    (a6 : PySem.W.nsIn K mainGlobals "is_sound" = some (some (.ref f6))) (l6 : K.lookup f6 = some ⟨oc6, od6, .func (PySem.W.fnOf "is_sound" "is_sound" (defArgs s_is_sound) (defBody s_is_sound) (defScope s_is_sound) .none kV6 dc6 pm6 an6 cd6 ct6), sl6⟩) (c6 : PySem.W.codeIn K cd6 "is_sound" = true) (k6 : PySem.W.keepIn K (.ref f6) = true)
    {f7 : Addr} {od7 an7 : Option Addr} {sl7 : Array (Option Value)} {oc7 kV7 dc7 pm7 cd7 ct7 : Value}
    (a7 : PySem.W.nsIn K mainGlobals "told_signs" = some (some (.ref f7))) (l7 : K.lookup f7 = some ⟨oc7, od7, .func (PySem.W.fnOf "told_signs" "told_signs" (defArgs s_told_signs) (defBody s_told_signs) (defScope s_told_signs) .none kV7 dc7 pm7 an7 cd7 ct7), sl7⟩) (c7 : PySem.W.codeIn K cd7 "told_signs" = true) (k7 : PySem.W.keepIn K (.ref f7) = true)
    {f8 : Addr} {od8 an8 : Option Addr} {sl8 : Array (Option Value)} {oc8 kV8 dc8 pm8 cd8 ct8 : Value}
    (a8 : PySem.W.nsIn K mainGlobals "cost_of" = some (some (.ref f8))) (l8 : K.lookup f8 = some ⟨oc8, od8, .func (PySem.W.fnOf "cost_of" "cost_of" (defArgs s_cost_of) (defBody s_cost_of) (defScope s_cost_of) .none kV8 dc8 pm8 an8 cd8 ct8), sl8⟩) (c8 : PySem.W.codeIn K cd8 "cost_of" = true) (k8 : PySem.W.keepIn K (.ref f8) = true)
    {f9 : Addr} {od9 an9 : Option Addr} {sl9 : Array (Option Value)} {oc9 kV9 dc9 pm9 cd9 ct9 : Value}
    (a9 : PySem.W.nsIn K mainGlobals "copies_at" = some (some (.ref f9))) (l9 : K.lookup f9 = some ⟨oc9, od9, .func (PySem.W.fnOf "copies_at" "copies_at" (defArgs s_copies_at) (defBody s_copies_at) (defScope s_copies_at) .none kV9 dc9 pm9 an9 cd9 ct9), sl9⟩) (c9 : PySem.W.codeIn K cd9 "copies_at" = true) (k9 : PySem.W.keepIn K (.ref f9) = true)
    {f10 : Addr} {od10 an10 : Option Addr} {sl10 : Array (Option Value)} {oc10 kV10 dc10 pm10 cd10 ct10 : Value}
    (a10 : PySem.W.nsIn K mainGlobals "phrases_at" = some (some (.ref f10))) (l10 : K.lookup f10 = some ⟨oc10, od10, .func (PySem.W.fnOf "phrases_at" "phrases_at" (defArgs s_phrases_at) (defBody s_phrases_at) (defScope s_phrases_at) .none kV10 dc10 pm10 an10 cd10 ct10), sl10⟩) (c10 : PySem.W.codeIn K cd10 "phrases_at" = true) (k10 : PySem.W.keepIn K (.ref f10) = true)
    {f11 : Addr} {od11 an11 : Option Addr} {sl11 : Array (Option Value)} {oc11 kV11 dc11 pm11 cd11 ct11 : Value}
    (a11 : PySem.W.nsIn K mainGlobals "cheapest_phrases" = some (some (.ref f11))) (l11 : K.lookup f11 = some ⟨oc11, od11, .func (PySem.W.fnOf "cheapest_phrases" "cheapest_phrases" (defArgs s_cheapest_phrases) (defBody s_cheapest_phrases) (defScope s_cheapest_phrases) .none kV11 dc11 pm11 an11 cd11 ct11), sl11⟩) (c11 : PySem.W.codeIn K cd11 "cheapest_phrases" = true) (k11 : PySem.W.keepIn K (.ref f11) = true)
    {f12 : Addr} {od12 an12 : Option Addr} {sl12 : Array (Option Value)} {oc12 kV12 dc12 pm12 cd12 ct12 : Value}
    (a12 : PySem.W.nsIn K mainGlobals "judge_marks" = some (some (.ref f12))) (l12 : K.lookup f12 = some ⟨oc12, od12, .func (PySem.W.fnOf "judge_marks" "judge_marks" (defArgs s_judge_marks) (defBody s_judge_marks) (defScope s_judge_marks) .none kV12 dc12 pm12 an12 cd12 ct12), sl12⟩) (c12 : PySem.W.codeIn K cd12 "judge_marks" = true) (k12 : PySem.W.keepIn K (.ref f12) = true)
    {f13 : Addr} {od13 an13 : Option Addr} {sl13 : Array (Option Value)} {oc13 kV13 dc13 pm13 cd13 ct13 : Value}
    (a13 : PySem.W.nsIn K mainGlobals "_law_draw" = some (some (.ref f13))) (l13 : K.lookup f13 = some ⟨oc13, od13, .func (PySem.W.fnOf "_law_draw" "_law_draw" (defArgs s__law_draw) (defBody s__law_draw) (defScope s__law_draw) .none kV13 dc13 pm13 an13 cd13 ct13), sl13⟩) (c13 : PySem.W.codeIn K cd13 "_law_draw" = true) (k13 : PySem.W.keepIn K (.ref f13) = true)
    {f14 : Addr} {od14 an14 : Option Addr} {sl14 : Array (Option Value)} {oc14 kV14 dc14 pm14 cd14 ct14 : Value}
    (a14 : PySem.W.nsIn K mainGlobals "_law_next" = some (some (.ref f14))) (l14 : K.lookup f14 = some ⟨oc14, od14, .func (PySem.W.fnOf "_law_next" "_law_next" (defArgs s__law_next) (defBody s__law_next) (defScope s__law_next) .none kV14 dc14 pm14 an14 cd14 ct14), sl14⟩) (c14 : PySem.W.codeIn K cd14 "_law_next" = true) (k14 : PySem.W.keepIn K (.ref f14) = true)
    {f15 : Addr} {od15 an15 : Option Addr} {sl15 : Array (Option Value)} {oc15 kV15 dc15 pm15 cd15 ct15 : Value}
    (a15 : PySem.W.nsIn K mainGlobals "_law_same" = some (some (.ref f15))) (l15 : K.lookup f15 = some ⟨oc15, od15, .func (PySem.W.fnOf "_law_same" "_law_same" (defArgs s__law_same) (defBody s__law_same) (defScope s__law_same) .none kV15 dc15 pm15 an15 cd15 ct15), sl15⟩) (c15 : PySem.W.codeIn K cd15 "_law_same" = true) (k15 : PySem.W.keepIn K (.ref f15) = true)
    {f16 : Addr} {od16 an16 : Option Addr} {sl16 : Array (Option Value)} {oc16 kV16 dc16 pm16 cd16 ct16 : Value}
    (a16 : PySem.W.nsIn K mainGlobals "_law_fits" = some (some (.ref f16))) (l16 : K.lookup f16 = some ⟨oc16, od16, .func (PySem.W.fnOf "_law_fits" "_law_fits" (defArgs s__law_fits) (defBody s__law_fits) (defScope s__law_fits) .none kV16 dc16 pm16 an16 cd16 ct16), sl16⟩) (c16 : PySem.W.codeIn K cd16 "_law_fits" = true) (k16 : PySem.W.keepIn K (.ref f16) = true)
    {f17 : Addr} {od17 an17 : Option Addr} {sl17 : Array (Option Value)} {oc17 kV17 dc17 pm17 cd17 ct17 : Value}
    (a17 : PySem.W.nsIn K mainGlobals "_law_phrases" = some (some (.ref f17))) (l17 : K.lookup f17 = some ⟨oc17, od17, .func (PySem.W.fnOf "_law_phrases" "_law_phrases" (defArgs s__law_phrases) (defBody s__law_phrases) (defScope s__law_phrases) .none kV17 dc17 pm17 an17 cd17 ct17), sl17⟩) (c17 : PySem.W.codeIn K cd17 "_law_phrases" = true) (k17 : PySem.W.keepIn K (.ref f17) = true)
    {f18 : Addr} {od18 an18 : Option Addr} {sl18 : Array (Option Value)} {oc18 kV18 dc18 pm18 cd18 ct18 : Value}
    (a18 : PySem.W.nsIn K mainGlobals "_law_long" = some (some (.ref f18))) (l18 : K.lookup f18 = some ⟨oc18, od18, .func (PySem.W.fnOf "_law_long" "_law_long" (defArgs s__law_long) (defBody s__law_long) (defScope s__law_long) .none kV18 dc18 pm18 an18 cd18 ct18), sl18⟩) (c18 : PySem.W.codeIn K cd18 "_law_long" = true) (k18 : PySem.W.keepIn K (.ref f18) = true)
    {f19 : Addr} {od19 an19 : Option Addr} {sl19 : Array (Option Value)} {oc19 kV19 dc19 pm19 cd19 ct19 : Value}
    (a19 : PySem.W.nsIn K mainGlobals "_law_cost" = some (some (.ref f19))) (l19 : K.lookup f19 = some ⟨oc19, od19, .func (PySem.W.fnOf "_law_cost" "_law_cost" (defArgs s__law_cost) (defBody s__law_cost) (defScope s__law_cost) .none kV19 dc19 pm19 an19 cd19 ct19), sl19⟩) (c19 : PySem.W.codeIn K cd19 "_law_cost" = true) (k19 : PySem.W.keepIn K (.ref f19) = true)
    {f20 : Addr} {od20 an20 : Option Addr} {sl20 : Array (Option Value)} {oc20 kV20 dc20 pm20 cd20 ct20 : Value}
    (a20 : PySem.W.nsIn K mainGlobals "_law_are_marks" = some (some (.ref f20))) (l20 : K.lookup f20 = some ⟨oc20, od20, .func (PySem.W.fnOf "_law_are_marks" "_law_are_marks" (defArgs s__law_are_marks) (defBody s__law_are_marks) (defScope s__law_are_marks) .none kV20 dc20 pm20 an20 cd20 ct20), sl20⟩) (c20 : PySem.W.codeIn K cd20 "_law_are_marks" = true) (k20 : PySem.W.keepIn K (.ref f20) = true)
    {f21 : Addr} {od21 an21 : Option Addr} {sl21 : Array (Option Value)} {oc21 kV21 dc21 pm21 cd21 ct21 : Value}
    (a21 : PySem.W.nsIn K mainGlobals "law" = some (some (.ref f21))) (l21 : K.lookup f21 = some ⟨oc21, od21, .func (PySem.W.fnOf "law" "law" (defArgs s_law) (defBody s_law) (defScope s_law) .none kV21 dc21 pm21 an21 cd21 ct21), sl21⟩) (c21 : PySem.W.codeIn K cd21 "law" = true) (k21 : PySem.W.keepIn K (.ref f21) = true)
    (z0 : PySem.W.nsIn K mainGlobals "abs" = some none)
    (z1 : PySem.W.nsIn K mainGlobals "all" = some none)
    (z2 : PySem.W.nsIn K mainGlobals "any" = some none)
    (z3 : PySem.W.nsIn K mainGlobals "bool" = some none)
    (z4 : PySem.W.nsIn K mainGlobals "int" = some none)
    (z5 : PySem.W.nsIn K mainGlobals "isinstance" = some none)
    (z6 : PySem.W.nsIn K mainGlobals "len" = some none)
    (z7 : PySem.W.nsIn K mainGlobals "list" = some none)
    (z8 : PySem.W.nsIn K mainGlobals "min" = some none)
    (z9 : PySem.W.nsIn K mainGlobals "range" = some none)
    (z10 : PySem.W.nsIn K mainGlobals "str" = some none)
    (z11 : PySem.W.nsIn K mainGlobals "sum" = some none)
    (z12 : PySem.W.nsIn K mainGlobals "tuple" = some none)
    (z13 : PySem.W.nsIn K mainGlobals "zip" = some none)
    {t0 : Tok} (m0 : PySem.W.nsIn K mainGlobals "BACK_MOST" = some (some (.int 255 t0)))
    {t1 : Tok} (m1 : PySem.W.nsIn K mainGlobals "COPY_COST" = some (some (.int 17 t1)))
    {t2 : Tok} (m2 : PySem.W.nsIn K mainGlobals "MANY_MOST" = some (some (.int 60 t2)))
    {t3 : Tok} (m3 : PySem.W.nsIn K mainGlobals "SIGN_COST" = some (some (.int 9 t3))) :
    ∃ fd : FuncData, (∀ (s : Shared) (v : Value), BindsTo s fd ⟨[v], []⟩ [("script", v)]) ∧ ∀ base : Heap, K.In base → base.Ns mainGlobals mg → FnOk l.prog w K mg base CX0 10 fa fd ["script"] (spD K mg sgL F_law) := by
  have e := hfa.symm.trans (PySem.W.mg_of X G a21)
  cases e
  have F0 := fun_mk (st := s_is_integer) l0 c0 k0
  have D0 : Dfn K mg "is_integer" s_is_integer ps_is_integer _ _ := ⟨F0, PySem.W.mg_of X G a0, F0.binds (ps := ps_is_integer) fun _ _ _ _ _ _ us hl => match us, hl with | [_], _ => rfl⟩
  have F1 := fun_mk (st := s_runs_of) l1 c1 k1
  have D1 : Dfn K mg "runs_of" s_runs_of ps_runs_of _ _ := ⟨F1, PySem.W.mg_of X G a1, F1.binds (ps := ps_runs_of) fun _ _ _ _ _ _ us hl => match us, hl with | [_], _ => rfl⟩
  have F2 := fun_mk (st := s_signs_of_runs) l2 c2 k2
  have D2 : Dfn K mg "signs_of_runs" s_signs_of_runs ps_signs_of_runs _ _ := ⟨F2, PySem.W.mg_of X G a2, F2.binds (ps := ps_signs_of_runs) fun _ _ _ _ _ _ us hl => match us, hl with | [_], _ => rfl⟩
  have F3 := fun_mk (st := s_steps_of) l3 c3 k3
  have D3 : Dfn K mg "steps_of" s_steps_of ps_steps_of _ _ := ⟨F3, PySem.W.mg_of X G a3, F3.binds (ps := ps_steps_of) fun _ _ _ _ _ _ us hl => match us, hl with | [_], _ => rfl⟩
  have F4 := fun_mk (st := s_signs_of_steps) l4 c4 k4
  have D4 : Dfn K mg "signs_of_steps" s_signs_of_steps ps_signs_of_steps _ _ := ⟨F4, PySem.W.mg_of X G a4, F4.binds (ps := ps_signs_of_steps) fun _ _ _ _ _ _ us hl => match us, hl with | [_], _ => rfl⟩
  have F5 := fun_mk (st := s_length_of) l5 c5 k5
  have D5 : Dfn K mg "length_of" s_length_of ps_length_of _ _ := ⟨F5, PySem.W.mg_of X G a5, F5.binds (ps := ps_length_of) fun _ _ _ _ _ _ us hl => match us, hl with | [_], _ => rfl⟩
  have F6 := fun_mk (st := s_is_sound) l6 c6 k6
  have D6 : Dfn K mg "is_sound" s_is_sound ps_is_sound _ _ := ⟨F6, PySem.W.mg_of X G a6, F6.binds (ps := ps_is_sound) fun _ _ _ _ _ _ us hl => match us, hl with | [_], _ => rfl⟩
  have F7 := fun_mk (st := s_told_signs) l7 c7 k7
  have D7 : Dfn K mg "told_signs" s_told_signs ps_told_signs _ _ := ⟨F7, PySem.W.mg_of X G a7, F7.binds (ps := ps_told_signs) fun _ _ _ _ _ _ us hl => match us, hl with | [_], _ => rfl⟩
  have F8 := fun_mk (st := s_cost_of) l8 c8 k8
  have D8 : Dfn K mg "cost_of" s_cost_of ps_cost_of _ _ := ⟨F8, PySem.W.mg_of X G a8, F8.binds (ps := ps_cost_of) fun _ _ _ _ _ _ us hl => match us, hl with | [_], _ => rfl⟩
  have F9 := fun_mk (st := s_copies_at) l9 c9 k9
  have D9 : Dfn K mg "copies_at" s_copies_at ps_copies_at _ _ := ⟨F9, PySem.W.mg_of X G a9, F9.binds (ps := ps_copies_at) fun _ _ _ _ _ _ us hl => match us, hl with | [_, _], _ => rfl⟩
  have F10 := fun_mk (st := s_phrases_at) l10 c10 k10
  have D10 : Dfn K mg "phrases_at" s_phrases_at ps_phrases_at _ _ := ⟨F10, PySem.W.mg_of X G a10, F10.binds (ps := ps_phrases_at) fun _ _ _ _ _ _ us hl => match us, hl with | [_, _], _ => rfl⟩
  have F11 := fun_mk (st := s_cheapest_phrases) l11 c11 k11
  have D11 : Dfn K mg "cheapest_phrases" s_cheapest_phrases ps_cheapest_phrases _ _ := ⟨F11, PySem.W.mg_of X G a11, F11.binds (ps := ps_cheapest_phrases) fun _ _ _ _ _ _ us hl => match us, hl with | [_], _ => rfl⟩
  have F12 := fun_mk (st := s_judge_marks) l12 c12 k12
  have D12 : Dfn K mg "judge_marks" s_judge_marks ps_judge_marks _ _ := ⟨F12, PySem.W.mg_of X G a12, F12.binds (ps := ps_judge_marks) fun _ _ _ _ _ _ us hl => match us, hl with | [_, _], _ => rfl⟩
  have F13 := fun_mk (st := s__law_draw) l13 c13 k13
  have D13 : Dfn K mg "_law_draw" s__law_draw ps__law_draw _ _ := ⟨F13, PySem.W.mg_of X G a13, F13.binds (ps := ps__law_draw) fun _ _ _ _ _ _ us hl => match us, hl with | [_], _ => rfl⟩
  have F14 := fun_mk (st := s__law_next) l14 c14 k14
  have D14 : Dfn K mg "_law_next" s__law_next ps__law_next _ _ := ⟨F14, PySem.W.mg_of X G a14, F14.binds (ps := ps__law_next) fun _ _ _ _ _ _ us hl => match us, hl with | [_, _], _ => rfl⟩
  have F15 := fun_mk (st := s__law_same) l15 c15 k15
  have D15 : Dfn K mg "_law_same" s__law_same ps__law_same _ _ := ⟨F15, PySem.W.mg_of X G a15, F15.binds (ps := ps__law_same) fun _ _ _ _ _ _ us hl => match us, hl with | [_, _], _ => rfl⟩
  have F16 := fun_mk (st := s__law_fits) l16 c16 k16
  have D16 : Dfn K mg "_law_fits" s__law_fits ps__law_fits _ _ := ⟨F16, PySem.W.mg_of X G a16, F16.binds (ps := ps__law_fits) fun _ _ _ _ _ _ us hl => match us, hl with | [_, _, _, _], _ => rfl⟩
  have F17 := fun_mk (st := s__law_phrases) l17 c17 k17
  have D17 : Dfn K mg "_law_phrases" s__law_phrases ps__law_phrases _ _ := ⟨F17, PySem.W.mg_of X G a17, F17.binds (ps := ps__law_phrases) fun _ _ _ _ _ _ us hl => match us, hl with | [_, _], _ => rfl⟩
  have F18 := fun_mk (st := s__law_long) l18 c18 k18
  have D18 : Dfn K mg "_law_long" s__law_long ps__law_long _ _ := ⟨F18, PySem.W.mg_of X G a18, F18.binds (ps := ps__law_long) fun _ _ _ _ _ _ us hl => match us, hl with | [_], _ => rfl⟩
  have F19 := fun_mk (st := s__law_cost) l19 c19 k19
  have D19 : Dfn K mg "_law_cost" s__law_cost ps__law_cost _ _ := ⟨F19, PySem.W.mg_of X G a19, F19.binds (ps := ps__law_cost) fun _ _ _ _ _ _ us hl => match us, hl with | [_], _ => rfl⟩
  have F20 := fun_mk (st := s__law_are_marks) l20 c20 k20
  have D20 : Dfn K mg "_law_are_marks" s__law_are_marks ps__law_are_marks _ _ := ⟨F20, PySem.W.mg_of X G a20, F20.binds (ps := ps__law_are_marks) fun _ _ _ _ _ _ us hl => match us, hl with | [_, _], _ => rfl⟩
  have F21 := fun_mk (st := s_law) l21 c21 k21
  have D21 : Dfn K mg "law" s_law ps_law _ _ := ⟨F21, PySem.W.mg_of X G a21, F21.binds (ps := ps_law) fun _ _ _ _ _ _ us hl => match us, hl with | [_], _ => rfl⟩
  have K0 : KC K mg "BACK_MOST" k_BACK_MOST := ⟨.int _, _, PySem.W.mg_of X G m0, ⟨_, rfl⟩, fun _ => .int _⟩
  have K1 : KC K mg "COPY_COST" k_COPY_COST := ⟨.int _, _, PySem.W.mg_of X G m1, ⟨_, rfl⟩, fun _ => .int _⟩
  have K2 : KC K mg "MANY_MOST" k_MANY_MOST := ⟨.int _, _, PySem.W.mg_of X G m2, ⟨_, rfl⟩, fun _ => .int _⟩
  have K3 : KC K mg "SIGN_COST" k_SIGN_COST := ⟨.int _, _, PySem.W.mg_of X G m3, ⟨_, rfl⟩, fun _ => .int _⟩
  exact ⟨_, fun s v => .of_eq rfl, fun base _ _ => (law_cal (base := base) D0 D1 D2 D3 D4 D5 D6 D7 D8 D9 D10 D11 D12 D13 D14 D15 D16 D17 D18 D19 D20 D21 (PySem.W.mg_none_of X G z0) (PySem.W.mg_none_of X G z1) (PySem.W.mg_none_of X G z2) (PySem.W.mg_none_of X G z3) (PySem.W.mg_none_of X G z4) (PySem.W.mg_none_of X G z5) (PySem.W.mg_none_of X G z6) (PySem.W.mg_none_of X G z7) (PySem.W.mg_none_of X G z8) (PySem.W.mg_none_of X G z9) (PySem.W.mg_none_of X G z10) (PySem.W.mg_none_of X G z11) (PySem.W.mg_none_of X G z12) (PySem.W.mg_none_of X G z13) K0 K1 K2 K3).ok⟩
end K51

namespace K51
open PySem PySem.Spec PyProof.Rows L2 TL
inductive Ph where
  | sign (x : Int)
  | copy (b m : Nat)
def phD : Ph → D
  | .sign x => .tup [.str "sign", .int x]
  | .copy b m => .tup [.str "copy", .int (b : Int), .int (m : Int)]
def plen : Ph → Nat
  | .sign _ => 1
  | .copy _ m => m
def pcost : Ph → Nat
  | .sign _ => 9
  | .copy _ _ => 17
theorem eq_ss : dEq (.str "sign") (.str "sign") = some (.bl true) := by kernel_rfl
theorem eq_cs : dEq (.str "copy") (.str "sign") = some (.bl false) := by kernel_rfl
theorem eq_sc : dEq (.str "sign") (.str "copy") = some (.bl false) := by kernel_rfl
theorem eq_cc : dEq (.str "copy") (.str "copy") = some (.bl true) := by kernel_rfl
theorem length_ok (p : Ph) : F_length_of [phD p] = some (.int (plen p : Int), [phD p]) := by
  unfold F_length_of b_length_of
  rw [v_run1]
  cases p <;> simp [phD, plen, eq_ss, eq_cs]
theorem long_ok (p : Ph) : F__law_long [phD p] = some (.int (plen p : Int), [phD p]) := by
  unfold F__law_long b__law_long
  rw [v_run1]
  cases p <;> simp [phD, plen, eq_ss, eq_cs]
theorem lcost_ok (p : Ph) : F__law_cost [phD p] = some (.int (pcost p : Int), [phD p]) := by
  unfold F__law_cost b__law_cost
  rw [v_run1]
  cases p <;> simp [phD, pcost, eq_ss, eq_cs]
def cost (ps : List Ph) : Nat := (ps.map pcost).sum
theorem getInts_of : ∀ l : List Int, getInts (l.map D.int) = some l
  | [] => rfl
  | a :: l => by rw [List.map_cons]; show (getInts _).map _ = _; rw [getInts_of l]; rfl
theorem castsum : ∀ l : List Nat, (l.map fun n : Nat => (n : Int)).sum = ((l.sum : Nat) : Int)
  | [] => rfl
  | a :: l => by rw [List.map_cons, List.sum_cons, castsum l]; simp
theorem sumD_nat (l : List Nat) : sumD (.lst (l.map fun n : Nat => D.int (n : Int))) = some (.int (l.sum : Int)) := by
  have e : l.map (fun n : Nat => D.int (n : Int)) = (l.map fun n : Nat => (n : Int)).map D.int := by simp
  show (getInts _).map _ = _
  rw [e, getInts_of, Option.map_some, castsum]
theorem cost_ok (ps : List Ph) (hl : ps.length ≤ 10000) : F_cost_of [.tup (ps.map phD)] = some (.int (cost ps : Int), [.tup (ps.map phD)]) := by
  unfold F_cost_of b_cost_of
  rw [v_run1]
  have k : ∀ a : D, lcF (stepLc [1] (gNm 1) tYesF e1_cost_of) (ps.map phD) [a, .non] = some (ps.map fun p => .int (pcost p : Int), [a, .non]) := by
    intro a
    refine lc_all phD (fun p => .int (pcost p : Int)) _ _ fun p _ => ?_
    cases p <;> simp [e1_cost_of, phD, pcost, eq_ss, eq_cs, k_SIGN_COST, k_COPY_COST]
  have e := sumD_nat (ps.map pcost)
  rw [List.map_map] at e
  have e' : (ps.map fun p => D.int (pcost p : Int)) = ps.map ((fun n : Nat => D.int (n : Int)) ∘ pcost) := rfl
  rw [e'] at k
  simp [k, okLen_of (n := ps.length) (by omega), e, cost]
end K51

namespace K51
open PySem PySem.Spec PyProof.Rows L2 TL
def sgD (sg : List Int) : D := .tup (sg.map D.int)
def gi (sg : List Int) (i : Nat) : Int := sg.getD i 0
def eqs (sg : List Int) (p b k : Nat) : Bool := decide (gi sg (p + k) = gi sg (p + k - b))
def fits (sg : List Int) (p b m : Nat) : Bool := decide (b ≤ p) && decide (p + m ≤ sg.length) && (List.range m).all fun k => eqs sg p b k
theorem ix_sg (sg : List Int) (i : Nat) (h : i < sg.length) : dIx (sgD sg) (.int (i : Int)) = some (.int (gi sg i)) := by
  unfold sgD
  rw [d_ix_t, ix_nat _ i (by simpa using h)]
  simp [gi, List.getD_eq_getElem?_getD, List.getElem?_eq_getElem h]
theorem len_sg (sg : List Int) : lenD (sgD sg) = some (.int (sg.length : Int)) := by simp [sgD]
theorem getBls_of : ∀ l : List Bool, getBls (l.map D.bl) = some l
  | [] => rfl
  | a :: l => by rw [List.map_cons]; show (getBls _).map _ = _; rw [getBls_of l]; rfl
theorem fits_ok (sg : List Int) (p b m : Nat) (hm : m ≤ 100000) : F__law_fits [sgD sg, .int (p : Int), .int (b : Int), .int (m : Int)] = some (.bl (fits sg p b m), [sgD sg, .int (p : Int), .int (b : Int), .int (m : Int)]) := by
  unfold F__law_fits b__law_fits
  rw [v_run4]
  by_cases h1 : b ≤ p
  · by_cases h2 : p + m ≤ sg.length
    · have k : lcF (stepLc [4] (gNm 4) tYesF e1__law_fits) ((List.range m).map fun i : Nat => D.int (i : Int)) [sgD sg, .int (p : Int), .int (b : Int), .int (m : Int), .non] = some ((List.range m).map fun k => .bl (eqs sg p b k), [sgD sg, .int (p : Int), .int (b : Int), .int (m : Int), .non]) := by
        refine lc_all (fun k : Nat => D.int (k : Int)) (fun k => .bl (eqs sg p b k)) _ _ fun k hk => ?_
        have hk := List.mem_range.mp hk
        have e1 := ix_sg sg (p + k) (by omega)
        have e2 := ix_sg sg (p + k - b) (by omega)
        have e3 : ((p + k - b : Nat) : Int) = (p : Int) + (k : Int) - (b : Int) := by omega
        rw [e3] at e2
        simp only [Int.natCast_add] at e1
        have e4 : (gi sg (p + k) == gi sg (p + k - b)) = eqs sg p b k := by rw [Bool.eq_iff_iff]; simp [eqs]
        generalize sgD sg = S at e1 e2
        generalize gi sg (p + k) = x at *
        generalize gi sg (p + k - b) = y at *
        simp [e1__law_fits, e1, e2, e4, -beq_iff_eq]
      have e : (List.range m).map (fun k => D.bl (eqs sg p b k)) = ((List.range m).map fun k => eqs sg p b k).map D.bl := by simp
      have ka : allD (.lst ((List.range m).map fun k => D.bl (eqs sg p b k))) = some (.bl ((List.range m).all fun k => eqs sg p b k)) := by
        show (getBls _).map _ = _
        rw [e, getBls_of]; simp
      have h2' : (p : Int) + (m : Int) ≤ (sg.length : Int) := by omega
      have hf : fits sg p b m = (List.range m).all fun k => eqs sg p b k := by simp [fits, h1, h2]
      rw [hf]
      generalize (List.range m).all (fun k => eqs sg p b k) = r at ka
      simp [h1, h2', len_sg, s62_of (i := (m : Int)) (by omega) (by omega), intsD0, okLen_of (n := m) (by omega), k, ka]
    · have h2' : ¬ ((p : Int) + (m : Int) ≤ (sg.length : Int)) := by omega
      have hf : fits sg p b m = false := by simp [fits, h2]
      rw [hf]
      simp [h1, h2', len_sg]
  · have hf : fits sg p b m = false := by simp [fits, h1]
    rw [hf]
    simp [h1]
end K51

namespace K51
open PySem PySem.Spec PyProof.Rows L2 TL
def cps (sg : List Int) (p b : Nat) : List Ph := (List.range (sg.length - p - 1)).filterMap fun j => if fits sg p b (2 + j) then some (.copy b (2 + j)) else none
def phr (sg : List Int) (p : Nat) : List Ph := .sign (gi sg p) :: (List.range p).flatMap fun i => cps sg p (1 + i)
theorem cps_len (sg : List Int) (p b : Nat) : (cps sg p b).length ≤ sg.length := by
  unfold cps
  have := List.length_filterMap_le (fun j => if fits sg p b (2 + j) then some (Ph.copy b (2 + j)) else none) (List.range (sg.length - p - 1))
  rw [List.length_range] at this
  omega
theorem intsDn (a n : Nat) : intsD (a : Int) n = (List.range n).map fun i : Nat => D.int ((a + i : Nat) : Int) := by
  unfold intsD; simp
theorem lphr_ok (sg : List Int) (p : Nat) (hn : sg.length ≤ 100) (hp : p < sg.length) : F__law_phrases [sgD sg, .int (p : Int)] = some (.lst ((phr sg p).map phD), [sgD sg, .int (p : Int)]) := by
  unfold F__law_phrases b__law_phrases
  rw [v_run2]
  have k1 : ∀ (b : Nat) (acc : D), lcF (stepLc [4] (gNm 4) t1__law_phrases e2__law_phrases) (intsD 2 (sg.length - p - 1)) [sgD sg, .int (p : Int), acc, .int (b : Int), .non] = some ((cps sg p b).map phD, [sgD sg, .int (p : Int), acc, .int (b : Int), .non]) := by
    intro b acc
    have e := intsDn 2 (sg.length - p - 1)
    simp only [Int.cast_ofNat_Int] at e
    rw [e, lc_map (fun j : Nat => D.int ((2 + j : Nat) : Int)) (fun j => if fits sg p b (2 + j) then some (phD (.copy b (2 + j))) else none) _ _ fun j hj => by
      have hj := List.mem_range.mp hj
      have ef := fits_ok sg p b (2 + j) (by omega)
      simp only [Int.natCast_add, Int.cast_ofNat_Int] at ef
      cases h : fits sg p b (2 + j) <;> rw [h] at ef <;> simp [t1__law_phrases, e2__law_phrases, ef, okLen_of (n := 3) (by omega), phD]]
    congr 2
    unfold cps
    rw [List.map_filterMap]
    congr 1
    funext j
    split <;> rfl
  have key := loop_ext (b := stepB (gNm 3) q3__law_phrases) (ks := [3]) (fun i : Nat => D.int ((1 + i : Nat) : Int)) (fun acc : List Ph => [sgD sg, .int (p : Int), .lst (acc.map phD), .non, .non]) (fun i => cps sg p (1 + i)) 100 100000 (List.range p) [.sign (gi sg p)]
    (fun i _ => Nat.le_trans (cps_len _ _ _) hn) (by simp; omega) fun i hi acc hB => by
    have hl := cps_len sg p (1 + i)
    have e1 : ((sg.length : Int) - (p : Int) + 1 - 2).toNat = sg.length - p - 1 := by omega
    have e2 : small62 ((sg.length : Int) - (p : Int) + 1) = true := s62_of (by omega) (by omega)
    have e3 : (((sg.length : Int) - (p : Int) + 1).toNat - 2) = sg.length - p - 1 := by omega
    have k := k1 (1 + i)
    simp only [Int.natCast_add, Int.cast_ofNat_Int] at k
    simp [q3__law_phrases, len_sg, e1, e2, e3, s62_of (i := 2) (by omega) (by omega), okLen_of (n := sg.length - p - 1) (by omega), k, okLen_of (n := acc.length + (cps sg p (1 + i)).length) (by omega)]
  have e0 := ix_sg sg p hp
  have ei := intsDn 1 p
  simp only [Int.cast_ofNat_Int] at ei
  have e4 : ((p : Int) + 1 - 1).toNat = p := by omega
  simp only [List.map_cons, List.map_nil, phD] at key
  simp [e0, okLen_of (n := 2) (by omega), okLen_of (n := 1) (by omega), s62_of (i := 1) (by omega) (by omega), s62_of (i := (p : Int) + 1) (by omega) (by omega), e4, ei, -Int.natCast_add]
  simp only [Int.natCast_add, Int.cast_ofNat_Int] at key ⊢
  simp [key, phr, phD]
/-! the program's own -/
def go (sg : List Int) (p b : Nat) : Nat → Nat → List Ph
  | _, 0 => []
  | m, k + 1 => if eqs sg p b m then (if 2 ≤ m + 1 then [.copy b (m + 1)] else []) ++ go sg p b (m + 1) k else []
def tl (sg : List Int) (p b m k : Nat) : List Ph := (List.range k).filterMap fun i => if 2 ≤ m + 1 + i ∧ fits sg p b (m + 1 + i) then some (.copy b (m + 1 + i)) else none
theorem go_tl (sg : List Int) (p b : Nat) (hb : b ≤ p) : ∀ (k m : Nat), p + m + k = sg.length → (∀ i < m, eqs sg p b i = true) → go sg p b m k = tl sg p b m k
  | 0, m, _, _ => rfl
  | k + 1, m, hk, he => by
    unfold tl
    rw [List.range_succ_eq_map, List.filterMap_cons, List.filterMap_map]
    unfold go
    by_cases h : eqs sg p b m = true
    · have hf : fits sg p b (m + 1) = true := by
        simp only [fits, Bool.and_eq_true, decide_eq_true_eq, List.all_eq_true, List.mem_range]
        refine ⟨⟨hb, by omega⟩, fun i hi => ?_⟩
        by_cases e : i = m
        · rw [e]; exact h
        · exact he i (by omega)
      rw [if_pos h, go_tl sg p b hb k (m + 1) (by omega) fun i hi => by
        by_cases e : i = m
        · rw [e]; exact h
        · exact he i (by omega)]
      have e2 : ∀ i, m + 1 + (i + 1) = m + 1 + 1 + i := fun i => by omega
      simp only [Nat.add_zero, hf, and_true]
      unfold tl
      have e5 : ((fun i => if 2 ≤ m + 1 + i ∧ fits sg p b (m + 1 + i) = true then some (Ph.copy b (m + 1 + i)) else none) ∘ Nat.succ) = fun i => if 2 ≤ m + 1 + 1 + i ∧ fits sg p b (m + 1 + 1 + i) = true then some (Ph.copy b (m + 1 + 1 + i)) else none := by
        funext i
        show (if 2 ≤ m + 1 + (i + 1) ∧ fits sg p b (m + 1 + (i + 1)) = true then some (Ph.copy b (m + 1 + (i + 1))) else none) = _
        rw [e2 i]
      by_cases h2 : 2 ≤ m + 1 <;> simp [h2, e5]
    · have hf : ∀ i, fits sg p b (m + 1 + i) = false := by
        intro i
        rw [Bool.eq_false_iff]
        intro hf
        simp only [fits, Bool.and_eq_true, decide_eq_true_eq, List.all_eq_true, List.mem_range] at hf
        exact h (hf.2 m (by omega))
      rw [if_neg h]
      have hf0 := hf 0
      have e6 : (List.range k).filterMap ((fun i => if 2 ≤ m + 1 + i ∧ fits sg p b (m + 1 + i) = true then some (Ph.copy b (m + 1 + i)) else none) ∘ Nat.succ) = [] := by
        rw [List.filterMap_eq_nil_iff]
        intro i _
        simp only [Function.comp_apply, Nat.succ_eq_add_one]
        rw [hf (i + 1)]
        simp
      rw [e6, hf0]
      simp
theorem cps_go (sg : List Int) (p b : Nat) (hb : b ≤ p) (hp : p < sg.length) : go sg p b 0 (sg.length - p) = cps sg p b := by
  rw [go_tl sg p b hb _ 0 (by omega) (by intro i hi; omega)]
  unfold tl cps
  obtain ⟨k, hk⟩ : ∃ k, sg.length - p = k + 1 := ⟨sg.length - p - 1, by omega⟩
  rw [hk, List.range_succ_eq_map, List.filterMap_cons, List.filterMap_map]
  have e5 : ((fun i => if 2 ≤ 0 + 1 + i ∧ fits sg p b (0 + 1 + i) = true then some (Ph.copy b (0 + 1 + i)) else none) ∘ Nat.succ) = fun j => if fits sg p b (2 + j) = true then some (Ph.copy b (2 + j)) else none := by
    funext j
    show (if 2 ≤ 0 + 1 + (j + 1) ∧ fits sg p b (0 + 1 + (j + 1)) = true then some (Ph.copy b (0 + 1 + (j + 1))) else none) = _
    rw [show 0 + 1 + (j + 1) = 2 + j by omega]
    simp [show 2 ≤ 2 + j by omega]
  rw [e5]
  simp
end K51

namespace K51
open PySem PySem.Spec PyProof.Rows L2 TL
theorem loopW_succ (t : Tf) (b : Sf) (ks : List Nat) (n : Nat) (ρ : Rho) : loopW t b ks (n + 1) ρ = (t ρ).bind fun p => if p.1 then (b p.2).bind fun o => match o with
      | .nx ρ' => loopW t b ks n (kill ks ρ')
      | .ct ρ' => loopW t b ks n (kill ks ρ')
      | .bk ρ' => some (.nx (kill ks ρ'))
      | .rt d ρ' => some (.rt d ρ')
    else some (.nx p.2) := rfl
theorem loopW_go {t : Tf} {b : Sf} {ks : List Nat} {n : Nat} {ρ ρ1 ρ2 : Rho} (h : t ρ = some (true, ρ1)) (k : (b ρ1).bind (nxOf ks) = some ρ2) : loopW t b ks (n + 1) ρ = loopW t b ks n ρ2 := by
  rw [loopW_succ, h]
  simp only [Option.bind_some, if_true]
  cases e : b ρ1 with
  | none => rw [e] at k; cases k
  | some o =>
    rw [e] at k
    cases o with
    | nx r => cases k; rfl
    | ct r => cases k; rfl
    | bk r => cases k
    | rt d r => cases k
theorem loopW_end {t : Tf} {b : Sf} {ks : List Nat} {n : Nat} {ρ ρ1 : Rho} (h : t ρ = some (false, ρ1)) : loopW t b ks (n + 1) ρ = some (.nx ρ1) := by
  rw [loopW_succ, h]; rfl
def tW : Tf := (tAnd' (tBl (eBin dLt (eVar 4) (eC k_MANY_MOST))) (tAnd' (tBl (eBin dLt (eBin dAdd (eVar 1) (eVar 4)) (eCa (f1 lenD) (aCons (eVar 0) aNil)))) (tBl (eBin dEq (eBin dIx (eVar 0) (eBin dAdd (eVar 1) (eVar 4))) (eBin dIx (eVar 0) (eBin dSub (eBin dAdd (eVar 1) (eVar 4)) (eVar 3)))))))
theorem while_ok (sg : List Int) (p b : Nat) (hn : sg.length ≤ 50) (hb : b ≤ p) (hb1 : 1 ≤ b) : ∀ (k m n : Nat) (acc : List Ph), p + m + k = sg.length → k < n → acc.length + k ≤ 100000 →
    ∃ M : D, loopW tW q1_copies_at [] n [sgD sg, .int (p : Int), .lst (acc.map phD), .int (b : Int), .int (m : Int)] = some (.nx [sgD sg, .int (p : Int), .lst ((acc ++ go sg p b m k).map phD), .int (b : Int), M])
  | 0, m, n + 1, acc, hk, _, _ => by
    refine ⟨.int (m : Int), ?_⟩
    have h60 : (m : Int) < 60 := by omega
    have h1 : ¬ ((p : Int) + (m : Int) < (sg.length : Int)) := by omega
    rw [loopW_end (ρ1 := [sgD sg, .int (p : Int), .lst (acc.map phD), .int (b : Int), .int (m : Int)])]
    · simp [go]
    · simp [tW, k_MANY_MOST, h60, len_sg, h1]
  | k + 1, m, n + 1, acc, hk, hn2, hB => by
    have h60 : (m : Int) < 60 := by omega
    have h1 : (p : Int) + (m : Int) < (sg.length : Int) := by omega
    have e1 := ix_sg sg (p + m) (by omega)
    have e2 := ix_sg sg (p + m - b) (by omega)
    have e3 : ((p + m - b : Nat) : Int) = (p : Int) + (m : Int) - (b : Int) := by omega
    rw [e3] at e2
    simp only [Int.natCast_add] at e1
    have e4 : (gi sg (p + m) == gi sg (p + m - b)) = eqs sg p b m := by rw [Bool.eq_iff_iff]; simp [eqs]
    have hl := len_sg sg
    have ht : tW [sgD sg, .int (p : Int), .lst (acc.map phD), .int (b : Int), .int (m : Int)] = some (eqs sg p b m, [sgD sg, .int (p : Int), .lst (acc.map phD), .int (b : Int), .int (m : Int)]) := by
      generalize sgD sg = S at *
      generalize gi sg (p + m) = x at *
      generalize gi sg (p + m - b) = y at *
      simp [tW, k_MANY_MOST, h60, hl, h1, e1, e2, e4, -beq_iff_eq]
    unfold go
    cases h : eqs sg p b m with
    | false =>
      rw [h] at ht
      refine ⟨.int (m : Int), ?_⟩
      rw [loopW_end ht]; simp
    | true =>
      rw [h] at ht
      obtain ⟨M, e⟩ := while_ok sg p b hn hb hb1 k (m + 1) n (acc ++ if 2 ≤ m + 1 then [Ph.copy b (m + 1)] else []) (by omega) (by omega) (by split <;> simp <;> omega)
      refine ⟨M, ?_⟩
      rw [loopW_go ht (ρ2 := [sgD sg, .int (p : Int), .lst ((acc ++ if 2 ≤ m + 1 then [Ph.copy b (m + 1)] else []).map phD), .int (b : Int), .int ((m + 1 : Nat) : Int)]), e]
      · simp
      · by_cases h2 : 2 ≤ m + 1
        · have h2' : (2 : Int) ≤ (m : Int) + 1 := by omega
          simp [q1_copies_at, h2, h2', appOf, okLen_of (n := 3) (by omega), okLen_of (n := acc.length + 1) (by omega), phD]
        · have h2' : ¬ ((2 : Int) ≤ (m : Int) + 1) := by omega
          simp [q1_copies_at, h2, h2']
end K51

namespace K51
open PySem PySem.Spec PyProof.Rows L2 TL
theorem go_len (sg : List Int) (p b : Nat) : ∀ (k m : Nat), (go sg p b m k).length ≤ k
  | 0, m => by simp [go]
  | k + 1, m => by
    unfold go
    have := go_len sg p b k (m + 1)
    split
    · split <;> simp <;> omega
    · simp
theorem sWhile_eq (n : Nat) (ks : List Nat) (t : Tf) (b : Sf) (ρ : Rho) : sWhile n ks t b ρ = loopW t b ks n (kill ks ρ) := rfl
theorem copies_ok (sg : List Int) (p : Nat) (hn : sg.length ≤ 50) (hp : p < sg.length) : F_copies_at [sgD sg, .int (p : Int)] = some (.lst (((List.range p).flatMap fun i => cps sg p (1 + i)).map phD), [sgD sg, .int (p : Int)]) := by
  unfold F_copies_at b_copies_at
  rw [v_run2]
  have key := loop_ext (b := stepB (gNm 3) q2_copies_at) (ks := [3, 4]) (fun i : Nat => D.int ((1 + i : Nat) : Int)) (fun acc : List Ph => [sgD sg, .int (p : Int), .lst (acc.map phD), .non, .non]) (fun i => cps sg p (1 + i)) 100 10000 (List.range p) []
    (fun i _ => Nat.le_trans (cps_len _ _ _) (by omega)) (by simp; omega) fun i hi acc hB => by
    have hi := List.mem_range.mp hi
    obtain ⟨M, e⟩ := while_ok sg p (1 + i) hn (by omega) (by omega) (sg.length - p) 0 1000 acc (by omega) (by omega) (by omega)
    rw [cps_go sg p (1 + i) (by omega) hp] at e
    have e2 : sWhile nT [] tW q1_copies_at [sgD sg, .int (p : Int), .lst (acc.map phD), .int ((1 + i : Nat) : Int), .int ((0 : Nat) : Int)] = _ := e
    simp only [Int.ofNat_zero, Int.cast_ofNat_Int] at e2
    show (((gNm 3 (D.int ((1 + i : Nat) : Int)) [sgD sg, .int (p : Int), .lst (acc.map phD), .non, .non]).bind (sSeq (sAsg (eC (.int 0)) (gNm 4)) (sWhile nT [] tW q1_copies_at))).bind (nxOf [3, 4])) = _
    generalize ((1 + i : Nat) : Int) = b at e2 ⊢
    generalize sWhile nT [] tW q1_copies_at = W at e2 ⊢
    simp [e2]
  have ei := intsDn 1 p
  simp only [Int.cast_ofNat_Int] at ei
  have hm : (if (p : Int) < 255 then (p : Int) else 255) = p := by rw [if_pos (by omega)]
  have e4 : ((p : Int) + 1 - 1).toNat = p := by omega
  simp only [List.map_nil, List.nil_append] at key
  simp only [Int.natCast_add, Int.cast_ofNat_Int] at key ei
  simp [k_BACK_MOST, hm, okLen_of (n := 0) (by omega), s62_of (i := 1) (by omega) (by omega), s62_of (i := (p : Int) + 1) (by omega) (by omega), e4, ei, key]
theorem phrases_ok (sg : List Int) (p : Nat) (hn : sg.length ≤ 50) (hp : p < sg.length) : F_phrases_at [sgD sg, .int (p : Int)] = some (.lst ((phr sg p).map phD), [sgD sg, .int (p : Int)]) := by
  unfold F_phrases_at b_phrases_at
  rw [v_run2]
  have hl := len_flat (fun i => cps sg p (1 + i)) 100 (List.range p) (fun i _ => Nat.le_trans (cps_len _ _ _) (by omega))
  rw [List.length_range] at hl
  have ho : okLen (1 + ((List.range p).flatMap fun i => cps sg p (1 + i)).length) = true := okLen_of (by omega)
  have e0 := ix_sg sg p hp
  have ec := copies_ok sg p hn hp
  generalize hL : ((List.range p).flatMap fun i => cps sg p (1 + i)) = L at ec ho
  have e : phr sg p = .sign (gi sg p) :: L := by rw [← hL]; rfl
  rw [e]
  generalize sgD sg = S at *
  have ho' : okLen (L.length + 1) = true := by rw [Nat.add_comm]; exact ho
  simp [e0, ec, okLen_of (n := 2) (by omega), okLen_of (n := 1) (by omega), ho, ho', phD]
end K51

namespace K51
open PySem PySem.Spec PyProof.Rows L2 TL
def cop (b : Nat) : Nat → List Int → List Int
  | 0, acc => acc
  | m + 1, acc => cop b m (acc ++ [gi acc (acc.length - b)])
def tell (acc : List Int) : Ph → List Int
  | .sign x => acc ++ [x]
  | .copy b m => cop b m acc
/-- a phrase that may stand behind n signs -/
def fit (n : Nat) : Ph → Prop
  | .sign _ => True
  | .copy b m => 1 ≤ b ∧ b ≤ n ∧ m ≤ 1000
def snd : Nat → List Ph → Prop
  | _, [] => True
  | n, p :: ps => fit n p ∧ snd (n + plen p) ps
theorem cop_len (b : Nat) : ∀ (m : Nat) (acc : List Int), (cop b m acc).length = acc.length + m
  | 0, acc => rfl
  | m + 1, acc => by unfold cop; rw [cop_len b m]; simp; omega
theorem tell_len (acc : List Int) (p : Ph) : (tell acc p).length = acc.length + plen p := by
  cases p with
  | sign x => simp [tell, plen]
  | copy b m => simp [tell, plen, cop_len]
theorem neg_ix (l : List Int) (b : Nat) (h1 : 1 ≤ b) (h2 : b ≤ l.length) : atI (l.map D.int) (-(b : Int)) = some (.int (gi l (l.length - b))) := by
  unfold atI ixN
  rw [if_neg (by omega), List.length_map, if_pos (by omega)]
  have e : (-(b : Int) + (l.length : Int)).toNat = l.length - b := by omega
  rw [Option.bind_some, e]
  have hb : l.length - b < l.length := by omega
  simp [gi, List.getD_eq_getElem?_getD, List.getElem?_eq_getElem hb]
theorem cop_ok (z0 : D) (b : Nat) (hb : 1 ≤ b) (mm : Int) : ∀ (ds : List D) (acc : List Int), b ≤ acc.length → acc.length + ds.length ≤ 100000 →
    loopF (stepB (gNm 3) q1_told_signs) [3] ds [z0, .lst (acc.map D.int), .tup [.str "copy", .int (b : Int), .int mm], .non] = some (.nx [z0, .lst ((cop b ds.length acc).map D.int), .tup [.str "copy", .int (b : Int), .int mm], .non])
  | [], acc, _, _ => rfl
  | d :: ds, acc, h, hB => by
    simp only [List.length_cons] at hB
    have e := neg_ix acc b hb h
    rw [loop_go (ρ' := [z0, .lst ((acc ++ [gi acc (acc.length - b)]).map D.int), .tup [.str "copy", .int (b : Int), .int mm], .non])]
    · rw [cop_ok z0 b hb mm ds (acc ++ [gi acc (acc.length - b)]) (by simp; omega) (by simp; omega)]
      rfl
    · simp [q1_told_signs, e, appOf, okLen_of (n := acc.length + 1) (by omega)]
theorem told_loop (z0 : D) : ∀ (ps : List Ph) (acc : List Int), snd acc.length ps → acc.length + ps.length * 1000 ≤ 90000 →
    loopF (stepB (gNm 2) q2_told_signs) [2, 3] (ps.map phD) [z0, .lst (acc.map D.int), .non, .non] = some (.nx [z0, .lst ((ps.foldl tell acc).map D.int), .non, .non])
  | [], acc, _, _ => rfl
  | p :: ps, acc, h, hB => by
    simp only [List.length_cons, Nat.succ_mul] at hB
    obtain ⟨hf, hs⟩ := h
    rw [← tell_len] at hs
    have hlen := tell_len acc p
    have hp : plen p ≤ 1000 := by cases p with
      | sign x => simp [plen]
      | copy b m => exact hf.2.2
    rw [List.map_cons, loop_go (ρ' := [z0, .lst ((tell acc p).map D.int), .non, .non]), told_loop z0 ps (tell acc p) hs (by omega)]
    · rfl
    · cases p with
      | sign x => simp [q2_told_signs, phD, eq_ss, appOf, okLen_of (n := acc.length + 1) (by omega), tell]
      | copy b m =>
        obtain ⟨h1, h2, h3⟩ := hf
        have e := cop_ok z0 b h1 (m : Int) (intsD 0 m) acc h2 (by simp; omega)
        rw [intsD_len] at e
        simp [q2_told_signs, phD, eq_cs, tell, s62_of (i := (m : Int)) (by omega) (by omega), e]
theorem told_ok (ps : List Ph) (hs : snd 0 ps) (hl : ps.length ≤ 80) : F_told_signs [.tup (ps.map phD)] = some (.tup ((ps.foldl tell []).map D.int), [.tup (ps.map phD)]) := by
  unfold F_told_signs b_told_signs
  rw [v_run1]
  have e := told_loop (.tup (ps.map phD)) ps [] hs (by simp; omega)
  simp only [List.map_nil] at e
  simp [okLen_of (n := 0) (by omega), e]
end K51

namespace K51
open PySem PySem.Spec PyProof.Rows L2 TL
theorem sound_loop (z0 : D) : ∀ (ps : List Ph) (n : Nat), snd n ps →
    ∃ n' : Nat, loopF (stepB (gNm 2) q1_is_sound) [2] (ps.map phD) [z0, .int (n : Int), .non] = some (.nx [z0, .int (n' : Int), .non])
  | [], n, _ => ⟨n, rfl⟩
  | p :: ps, n, h => by
    obtain ⟨hf, hs⟩ := h
    obtain ⟨n', e⟩ := sound_loop z0 ps (n + plen p) hs
    refine ⟨n', ?_⟩
    have hl := length_ok p
    rw [List.map_cons, loop_go (ρ' := [z0, .int ((n + plen p : Nat) : Int), .non]), e]
    cases p with
    | sign x =>
      simp only [phD] at hl ⊢
      simp [q1_is_sound, eq_sc, hl]
    | copy b m =>
      obtain ⟨h1, h2, h3⟩ := hf
      have h2' : ¬ n < b := by omega
      simp only [phD] at hl ⊢
      simp [q1_is_sound, eq_cc, h2', hl]
theorem sound_ok (ps : List Ph) (hs : snd 0 ps) : F_is_sound [.tup (ps.map phD)] = some (.bl true, [.tup (ps.map phD)]) := by
  unfold F_is_sound b_is_sound
  rw [v_run1]
  obtain ⟨n', e⟩ := sound_loop (.tup (ps.map phD)) ps 0 hs
  simp only [Int.ofNat_zero, Int.cast_ofNat_Int] at e
  simp [e]
theorem unsound_ok (ps : List Ph) : F_is_sound [.tup ((Ph.copy 1 2 :: ps).map phD)] = some (.bl false, [.tup ((Ph.copy 1 2 :: ps).map phD)]) := by
  unfold F_is_sound b_is_sound
  rw [v_run1]
  have e : ∀ z0 ds, loopF (stepB (gNm 2) q1_is_sound) [2] (phD (.copy 1 2) :: ds) [z0, .int 0, .non] = some (.rt (.bl false) [z0, .int 0, phD (.copy 1 2)]) := by
    intro z0 ds
    refine loop_rt ?_
    simp [q1_is_sound, phD, eq_cc]
  rw [List.map_cons]
  simp [e]
/-! runs -/
def runStep (rs : List (Int × Nat)) (s : Int) : List (Int × Nat) := match rs.getLast? with
  | some (x, k) => if x = s then rs.dropLast ++ [(s, k + 1)] else rs ++ [(s, 1)]
  | none => [(s, 1)]
def rD (r : Int × Nat) : D := .tup [.int r.1, .int (r.2 : Int)]
def runs (sg : List Int) : List (Int × Nat) := sg.foldl runStep []
theorem last_ix (l : List D) (d : D) : atI (l ++ [d]) (-1) = some d := by
  unfold atI ixN
  rw [if_neg (by omega), if_pos (by simp; omega)]
  simp
  rw [show ((-1 : Int) + ((l.length : Int) + 1)).toNat = l.length by omega]
  simp
theorem setL_last (l : List D) (d e : D) : setL (l ++ [d]) (-1) e = some (l ++ [e]) := by
  unfold setL ixN
  rw [if_neg (by omega), if_pos (by simp; omega)]
  simp
  rw [show ((-1 : Int) + ((l.length : Int) + 1)).toNat = l.length by omega]
  simp
theorem run_step (z0 : D) (rs : List (Int × Nat)) (s : Int) (hl : rs.length ≤ 100000) :
    (stepB (gNm 2) q1_runs_of (.int s) [z0, .lst (rs.map rD), .non]).bind (nxOf [2]) = some [z0, .lst ((runStep rs s).map rD), .non] := by
  rcases List.eq_nil_or_concat rs with h | ⟨l, ⟨x, k⟩, h⟩
  · subst h
    simp [q1_runs_of, runStep, appOf, okLen_of (n := 2) (by omega), okLen_of (n := 1) (by omega), rD]
  · rw [List.concat_eq_append] at h
    subst h
    have e1 := last_ix (l.map rD) (rD (x, k))
    have e2 : ∀ e, setL (l.map rD ++ [rD (x, k)]) (-1) e = some (l.map rD ++ [e]) := setL_last (l.map rD) (rD (x, k))
    have hl' : l.length + 1 ≤ 100000 := by simpa using hl
    have hne : (l.map rD ++ [rD (x, k)]).isEmpty = false := by simp
    by_cases hx : x = s
    · subst hx
      simp only [rD] at e1 e2 hne
      simp [q1_runs_of, runStep, rD, e1, setIxOf, e2, okLen_of (n := 2) (by omega), hne]
    · have hb : (x == s) = false := by rw [beq_eq_false_iff_ne]; exact hx
      simp only [rD] at e1 e2 hne
      simp [q1_runs_of, runStep, rD, e1, hx, hb, appOf, okLen_of (n := 2) (by omega), okLen_of (n := l.length + 1 + 1) (by omega), hne, -beq_iff_eq]
end K51

namespace K51
open PySem PySem.Spec PyProof.Rows L2 TL
theorem runStep_len (rs : List (Int × Nat)) (s : Int) : (runStep rs s).length ≤ rs.length + 1 := by
  rcases List.eq_nil_or_concat rs with h | ⟨l, ⟨x, k⟩, h⟩
  · subst h; simp [runStep]
  · rw [List.concat_eq_append] at h
    subst h
    simp only [runStep, List.getLast?_append, List.getLast?_singleton, Option.some_or]
    split <;> simp
theorem runs_loop (z0 : D) : ∀ (sg : List Int) (rs : List (Int × Nat)), rs.length + sg.length ≤ 100000 →
    loopF (stepB (gNm 2) q1_runs_of) [2] (sg.map D.int) [z0, .lst (rs.map rD), .non] = some (.nx [z0, .lst ((sg.foldl runStep rs).map rD), .non])
  | [], rs, _ => rfl
  | s :: sg, rs, h => by
    simp only [List.length_cons] at h
    have hl := runStep_len rs s
    rw [List.map_cons, loop_go (run_step z0 rs s (by omega)), runs_loop z0 sg _ (by omega)]
    rfl
theorem runs_len : ∀ (sg : List Int) (rs : List (Int × Nat)), (sg.foldl runStep rs).length ≤ rs.length + sg.length
  | [], rs => by simp
  | s :: sg, rs => by
    have := runs_len sg (runStep rs s)
    have := runStep_len rs s
    simp only [List.foldl_cons, List.length_cons]
    omega
theorem runs_ok (sg : List Int) (h : sg.length ≤ 1000) : F_runs_of [sgD sg] = some (.tup ((runs sg).map rD), [sgD sg]) := by
  unfold F_runs_of b_runs_of
  rw [v_run1]
  have e := runs_loop (sgD sg) sg [] (by simp; omega)
  simp only [List.map_nil] at e
  unfold sgD at *
  simp [okLen_of (n := 0) (by omega), e, runs]
/-! back -/
def expand (rs : List (Int × Nat)) : List Int := rs.flatMap fun r => List.replicate r.2 r.1
theorem expand_step (rs : List (Int × Nat)) (s : Int) : expand (runStep rs s) = expand rs ++ [s] := by
  rcases List.eq_nil_or_concat rs with h | ⟨l, ⟨x, k⟩, h⟩
  · subst h; simp [runStep, expand]
  · rw [List.concat_eq_append] at h
    subst h
    simp only [runStep, List.getLast?_append, List.getLast?_singleton, Option.some_or]
    split
    · rename_i hx
      subst hx
      simp [expand, List.replicate_succ']
    · simp [expand]
theorem expand_runs : ∀ (sg : List Int) (rs : List (Int × Nat)), expand (sg.foldl runStep rs) = expand rs ++ sg
  | [], rs => by simp
  | s :: sg, rs => by
    rw [List.foldl_cons, expand_runs sg, expand_step]; simp
def posR (rs : List (Int × Nat)) : Prop := ∀ r ∈ rs, 1 ≤ r.2
theorem pos_step (rs : List (Int × Nat)) (s : Int) (h : posR rs) : posR (runStep rs s) := by
  rcases List.eq_nil_or_concat rs with e | ⟨l, ⟨x, k⟩, e⟩
  · subst e; intro r hr; simp [runStep] at hr; subst hr; simp
  · rw [List.concat_eq_append] at e
    subst e
    intro r hr
    simp only [runStep, List.getLast?_append, List.getLast?_singleton, Option.some_or] at hr
    split at hr
    · simp at hr
      rcases hr with hr | hr
      · exact h r (by simp [hr])
      · subst hr; simp
    · simp at hr
      rcases hr with hr | hr | hr
      · exact h r (by simp [hr])
      · exact h r (by simp [hr])
      · subst hr; simp
theorem pos_runs : ∀ (sg : List Int) (rs : List (Int × Nat)), posR rs → posR (sg.foldl runStep rs)
  | [], rs, h => h
  | s :: sg, rs, h => pos_runs sg _ (pos_step rs s h)
theorem rep1 (x : Int) (k : Nat) (h1 : 1 ≤ k) (h2 : k ≤ 1000) : dMul' (.tup [.int x]) (.int (k : Int)) = some (.tup ((List.replicate k x).map D.int)) := by
  unfold dMul' orG
  by_cases hk : k = 1
  · subst hk; rfl
  · have e1 : (2 : Int) ≤ (k : Int) := by omega
    have e2 : (k : Int) ≤ 1000 := by omega
    have : repL [D.int x] k = (List.replicate k x).map D.int := by
      unfold repL
      rw [List.map_replicate]
      clear h1 h2 hk e1 e2
      induction k with
      | zero => rfl
      | succ k ih => rw [List.replicate_succ, List.flatten_cons, ih, List.replicate_succ]; rfl
    simp [dMul, e1, e2, this]
theorem back_loop (z0 : D) : ∀ (rs : List (Int × Nat)) (acc : List Int), posR rs → acc.length + (expand rs).length ≤ 1000 →
    loopF (stepB (gTp (gsCons (gNm 2) (gsCons (gNm 3) gsNil))) q1_signs_of_runs) [2, 3] (rs.map rD) [z0, sgD acc, .non, .non] = some (.nx [z0, sgD (acc ++ expand rs), .non, .non])
  | [], acc, _, _ => by simp [expand, loop_nil]
  | ⟨x, k⟩ :: rs, acc, h, hB => by
    have e : expand ((x, k) :: rs) = List.replicate k x ++ expand rs := rfl
    rw [e, List.length_append, List.length_replicate] at hB
    have h1 := h (x, k) (by simp)
    simp only at h1
    rw [List.map_cons, loop_go (ρ' := [z0, sgD (acc ++ List.replicate k x), .non, .non]), back_loop z0 rs _ (fun r hr => h r (by simp [hr])) (by simp; omega)]
    · rw [e]; simp
    · have e1 := rep1 x k h1 (by omega)
      simp [q1_signs_of_runs, rD, okLen_of (n := 1) (by omega), e1, sgD, okLen_of (n := acc.length + k) (by omega)]
theorem sruns_ok (rs : List (Int × Nat)) (h : posR rs) (hB : (expand rs).length ≤ 1000) : F_signs_of_runs [.tup (rs.map rD)] = some (sgD (expand rs), [.tup (rs.map rD)]) := by
  unfold F_signs_of_runs b_signs_of_runs
  rw [v_run1]
  have e := back_loop (.tup (rs.map rD)) rs [] h (by simpa using hB)
  simp only [sgD, List.map_nil, List.nil_append] at e
  simp [okLen_of (n := 0) (by omega), e, sgD]
/-! steps -/
def stepsF (sg : List Int) : List Int := sg.take 1 ++ (sg.zip (sg.drop 1)).map fun p => (p.2 - p.1) % 256
def gpi (p : Int × Int) : D := .tup [.int p.1, .int p.2]
theorem steps_loop (z0 : D) : ∀ (ps : List (Int × Int)) (acc : List Int), acc.length + ps.length ≤ 100000 →
    loopF (stepB (gTp (gsCons (gNm 2) (gsCons (gNm 3) gsNil))) q1_steps_of) [2, 3] (ps.map gpi) [z0, .lst (acc.map D.int), .non, .non] = some (.nx [z0, .lst ((acc ++ ps.map fun p : Int × Int => (p.2 - p.1) % 256).map D.int), .non, .non])
  | [], acc, _ => by simp [loop_nil]
  | ⟨a, b⟩ :: ps, acc, h => by
    simp only [List.length_cons] at h
    rw [List.map_cons, loop_go (ρ' := [z0, .lst ((acc ++ [(b - a) % 256]).map D.int), .non, .non]), steps_loop z0 ps _ (by simp; omega)]
    · simp
    · simp [q1_steps_of, gpi, appOf, okLen_of (n := acc.length + 1) (by omega)]
theorem steps_ok (sg : List Int) (h : sg.length ≤ 1000) : F_steps_of [sgD sg] = some (.tup ((stepsF sg).map D.int), [sgD sg]) := by
  unfold F_steps_of b_steps_of
  rw [v_run1]
  have hz : zipD (sg.map D.int) ((sg.drop 1).map D.int) = (sg.zip (sg.drop 1)).map gpi := zip_m _ _ _ _
  have e := steps_loop (sgD sg) (sg.zip (sg.drop 1)) (sg.take 1) (by simp; omega)
  unfold sgD at *
  have e1 := cut_to (sg.map D.int) 1 (by omega)
  have e2 := cut_from (sg.map D.int) 1 (by omega)
  simp only [Int.toNat_one, ← List.map_take, ← List.map_drop] at e1 e2
  have es : stepsF sg = sg.take 1 ++ (sg.zip (sg.drop 1)).map fun p : Int × Int => (p.2 - p.1) % 256 := rfl
  have e0 : listD (.lst ((sg.take 1).map D.int)) = some ((sg.take 1).map D.int) := rfl
  have e0' : listD (.tup ((sg.take 1).map D.int)) = some ((sg.take 1).map D.int) := rfl
  generalize sg.take 1 = A at *
  generalize sg.drop 1 = B at *
  simp [e1, e2, hz, e, es]
theorem sback_loop (z0 : D) (hpos : True) : ∀ (ss acc : List Int), acc ≠ [] → acc.length + ss.length ≤ 100000 →
    loopF (stepB (gNm 2) q1_signs_of_steps) [2] (ss.map D.int) [z0, .lst (acc.map D.int), .non] = some (.nx [z0, .lst ((ss.foldl (fun acc s => acc ++ [(acc.getD (acc.length - 1) default + s) % 256]) acc).map D.int), .non])
  | [], acc, _, _ => rfl
  | s :: ss, acc, hne, h => by
    simp only [List.length_cons] at h
    have hl : 0 < acc.length := List.length_pos_iff.mpr hne
    rw [List.map_cons, loop_go (ρ' := [z0, .lst ((acc ++ [(acc.getD (acc.length - 1) default + s) % 256]).map D.int), .non]), sback_loop z0 hpos ss _ (by simp) (by simp; omega)]
    · rfl
    · have e := ix_last D.int acc hl
      generalize acc.getD (acc.length - 1) default = y at *
      have hm : (List.map D.int acc).isEmpty = false := by cases acc with | nil => exact absurd rfl hne | cons a l => rfl
      simp [q1_signs_of_steps, hm, hne, e, appOf, okLen_of (n := acc.length + 1) (by omega)]
theorem fold_steps : ∀ (r : List Int) (x : Int) (pre : List Int), (∀ y ∈ r, 0 ≤ y ∧ y < 256) →
    (((x :: r).zip r).map fun p => (p.2 - p.1) % 256).foldl (fun acc s => acc ++ [(acc.getD (acc.length - 1) default + s) % 256]) (pre ++ [x]) = pre ++ x :: r
  | [], x, pre, _ => by simp
  | y :: r, x, pre, h => by
    have hy := h y (by simp)
    have e : (x + (y - x) % 256) % 256 = y := by omega
    have := fold_steps r y (pre ++ [x]) fun z hz => h z (by simp [hz])
    rw [List.zip_cons_cons, List.map_cons, List.foldl_cons]
    simp only [List.length_append, List.length_singleton, Nat.add_sub_cancel, List.getD_eq_getElem?_getD]
    rw [List.getElem?_append_right (by omega)]
    simp only [Nat.sub_self, List.getElem?_cons_zero, Option.getD_some]
    rw [e]
    simp only [List.getD_eq_getElem?_getD] at this
    rw [this]; simp
theorem ssteps_ok (sg : List Int) (hb : ∀ y ∈ sg, 0 ≤ y ∧ y < 256) (h : sg.length ≤ 1000) : F_signs_of_steps [.tup ((stepsF sg).map D.int)] = some (sgD sg, [.tup ((stepsF sg).map D.int)]) := by
  unfold F_signs_of_steps b_signs_of_steps
  rw [v_run1]
  cases sg with
  | nil =>
    have e : stepsF [] = [] := rfl
    simp [e, okLen_of (n := 0) (by omega), loop_nil, sgD]
  | cons x r =>
    have hx := hb x (by simp)
    have e : stepsF (x :: r) = x :: ((x :: r).zip r).map fun p => (p.2 - p.1) % 256 := by simp [stepsF]
    generalize hz0 : D.tup ((stepsF (x :: r)).map D.int) = z0
    have k1 : loopF (stepB (gNm 2) q1_signs_of_steps) [2] ((stepsF (x :: r)).map D.int) [z0, .lst [], .non] = loopF (stepB (gNm 2) q1_signs_of_steps) [2] ((((x :: r).zip r).map fun p => (p.2 - p.1) % 256).map D.int) [z0, .lst (([] ++ [x]).map D.int), .non] := by
      rw [e, List.map_cons, loop_go]
      simp [q1_signs_of_steps, appOf, okLen_of (n := 1) (by omega)]
    have k2 := sback_loop z0 trivial (((x :: r).zip r).map fun p => (p.2 - p.1) % 256) ([] ++ [x]) (by simp) (by simp at h ⊢; omega)
    rw [fold_steps r x [] fun y hy => hb y (by simp [hy])] at k2
    have k3 := k1.trans k2
    have hi : iSeq (eVar 0) [z0, .lst [], .non] = some ((stepsF (x :: r)).map D.int, [z0, .lst [], .non]) := by rw [← hz0]; rfl
    rw [v_iSeq] at hi
    simp at hi
    subst hz0
    simp [okLen_of (n := 0) (by omega), k3, sgD]
/-- the law's way -/
theorem steps_law (sg : List Int) (hb : ∀ y ∈ sg, 0 ≤ y ∧ y < 256) : (List.range sg.length).map (fun k => (gi sg k - if 0 < k then gi sg (k - 1) else 0) % 256) = stepsF sg := by
  apply List.ext_getElem?
  intro i
  rw [List.getElem?_map]
  by_cases hi : i < sg.length
  · rw [List.getElem?_range hi, Option.map_some]
    unfold stepsF
    cases i with
    | zero =>
      have h0 := hb sg[0] (List.getElem_mem hi)
      cases sg with
      | nil => simp at hi
      | cons x r =>
        simp at h0
        simp [gi]
        omega
    | succ i =>
      cases sg with
      | nil => simp at hi
      | cons x r =>
        simp at hi
        rw [List.getElem?_append_right (by simp)]
        simp [gi, List.getD_eq_getElem?_getD]
        rw [List.getElem?_eq_getElem (show i < r.length by omega), List.getElem?_eq_getElem (show i < (x :: r).length by simp; omega)]
        simp
        rw [List.getElem?_eq_getElem (by simp; omega)]
        simp
  · rw [List.getElem?_eq_none (by simpa using hi), List.getElem?_eq_none]
    · rfl
    · simp [stepsF]; omega
end K51

namespace K51
open PySem PySem.Spec PyProof.Rows L2 TL
abbrev Ent := Nat × Nat × List Ph
def entD (e : Ent) : D := .tup [.int (e.1 : Int), .int (e.2.1 : Int), .tup (e.2.2.map phD)]
def oeD : Option Ent → D
  | some e => entD e
  | none => .non
def eLt (a b : Ent) : Bool := ltD (entD a) (entD b)
theorem ok_sign : sOk "sign" = true := by kernel_rfl
theorem ok_copy : sOk "copy" = true := by kernel_rfl
theorem ph_ok (n : Nat) (p : Ph) : pyOk (n + 1) (phD p) = true := by
  cases p <;> simp [phD, pyOk, ok_sign, ok_copy]
theorem ent_ok (e : Ent) : pyOk 40 (entD e) = true := by
  simp only [entD, pyOk, List.all_cons, List.all_nil, pyOk_i, Bool.true_and, Bool.and_true, List.all_map, List.all_eq_true]
  intro p _
  exact ph_ok 37 p
open PySem.W in
theorem ph_alike (p q : Ph) : alike (py (phD p)) (py (phD q)) = true := by
  cases p <;> cases q <;> simp [phD, py, pys, alike, alikeAll]
open PySem.W in
theorem phs_alike : ∀ ps qs : List Ph, alikeAll (pys (ps.map phD)) (pys (qs.map phD)) = true
  | [], _ => by simp [pys, alikeAll]
  | _ :: _, [] => by simp [pys, alikeAll]
  | p :: ps, q :: qs => by
    simp only [List.map_cons, pys, alikeAll, ph_alike, phs_alike ps qs, Bool.and_self]
open PySem.W in
theorem ent_alike (a b : Ent) : alikeD (entD a) (entD b) = true := by
  simp [alikeD, entD, py, pys, alike, alikeAll, phs_alike]
open PySem.W in
theorem ent_first (a b : Ent) (h : a.1 ≠ b.1) : eLt a b = decide (a.1 < b.1) := by
  unfold eLt ltD
  have h' : ¬ ((a.1 : Int) = (b.1 : Int)) := by omega
  simp only [entD, py, pys]
  rw [dataLt_tuple, dataLt_all_no (by simp [alike]) (by simp only [PyData.eqv]; exact beq_eq_false_iff_ne.mpr h'), dataLt_int]
  simp
theorem ent_le (a b : Ent) (h : eLt a b = true) : a.1 ≤ b.1 := by
  by_cases e : a.1 = b.1
  · omega
  · rw [ent_first a b e] at h; simp at h; omega
theorem ent_ge (a b : Ent) (h : eLt a b = false) : b.1 ≤ a.1 := by
  by_cases e : a.1 = b.1
  · omega
  · rw [ent_first a b e] at h; simp at h; omega
open PySem.W in
def phT : Ph → List (Int ⊕ List Nat)
  | .sign x => [.inl 1, .inr ("sign" : Str).cps.toList, .inl 1, .inl x, .inl 0]
  | .copy b m => [.inl 1, .inr ("copy" : Str).cps.toList, .inl 1, .inl (b : Int), .inl 1, .inl (m : Int), .inl 0]
open PySem.W in
theorem phT_eq (p : Ph) : keyToks (py (phD p)) = phT p := by
  cases p <;> simp [phD, py, pys, keyToks, keyToksAll, phT]
open PySem.W in
theorem phsT : ∀ ps : List Ph, keyToksAll (pys (ps.map phD)) = (ps.flatMap fun p => .inl 1 :: phT p) ++ [.inl 0]
  | [] => by simp [pys, keyToksAll]
  | p :: ps => by
    rw [List.map_cons, pys, keyToksAll, phT_eq, phsT ps]
    simp
theorem str_ne : ("sign" : Str).cps.toList ≠ ("copy" : Str).cps.toList := by decide
theorem phT_inj : ∀ (ps qs : List Ph) (a b : List (Int ⊕ List Nat)), (ps.flatMap fun p => .inl 1 :: phT p) ++ (.inl 0 :: a) = (qs.flatMap fun p => .inl 1 :: phT p) ++ (.inl 0 :: b) → ps = qs
  | [], [], _, _, _ => rfl
  | [], q :: qs, _, _, h => by simp at h
  | p :: ps, [], _, _, h => by simp at h
  | p :: ps, q :: qs, a, b, h => by
    simp only [List.flatMap_cons, List.cons_append, List.cons.injEq, true_and, List.append_assoc] at h
    have key : p = q ∧ (ps.flatMap fun p => .inl 1 :: phT p) ++ (.inl 0 :: a) = (qs.flatMap fun p => .inl 1 :: phT p) ++ (.inl 0 :: b) := by
      cases p <;> cases q
      · simp only [phT, List.cons_append, List.nil_append, List.cons.injEq, true_and, Sum.inl.injEq] at h
        exact ⟨by rw [h.1], h.2⟩
      · simp only [phT, List.cons_append, List.nil_append, List.cons.injEq, true_and, Sum.inr.injEq] at h
        exact absurd h.1 str_ne
      · simp only [phT, List.cons_append, List.nil_append, List.cons.injEq, true_and, Sum.inr.injEq] at h
        exact absurd h.1.symm str_ne
      · simp only [phT, List.cons_append, List.nil_append, List.cons.injEq, true_and, Sum.inl.injEq] at h
        obtain ⟨h1, h2, h3⟩ := h
        refine ⟨?_, h3⟩
        rw [show _ = _ from Int.ofNat.inj h1, show _ = _ from Int.ofNat.inj h2]
    rw [key.1, phT_inj ps qs a b key.2]
open PySem.W in
theorem ent_inj (a b : Ent) (h : keyToks (py (entD a)) = keyToks (py (entD b))) : a = b := by
  obtain ⟨t, m, ps⟩ := a
  obtain ⟨t', m', qs⟩ := b
  simp only [entD, py, pys, keyToks, keyToksAll, phsT, List.cons_append, List.nil_append, List.cons.injEq, true_and, List.append_assoc, Sum.inl.injEq] at h
  obtain ⟨h1, h2, h3⟩ := h
  have e3 := phT_inj ps qs _ _ h3
  rw [show t = t' from Int.ofNat.inj h1, show m = m' from Int.ofNat.inj h2, e3]
/-- both ways to take the less -/
theorem less_same (told old : Ent) : (if eLt old told then old else told) = if eLt told old then told else old := by
  cases h : eLt told old with
  | true => rw [show eLt old told = false from ltD_asym h]; rfl
  | false =>
    cases k : eLt old told with
    | true => rfl
    | false => 
      have := ent_inj told old (ltD_tri h k)
      rw [this]
theorem lt_ent (a b : Ent) : dLtG (entD a) (entD b) = some (.bl (eLt a b)) := by
  unfold dLtG
  rw [ent_ok, ent_ok, ent_alike]
  rfl
theorem min_ent (a b : Ent) : min2G (entD a) (entD b) = some (entD (if eLt a b then a else b)) := by
  unfold min2G
  rw [ent_ok, ent_ok, ent_alike, ent_alike, ent_alike, ent_alike, ← less_same]
  have : ltD (entD b) (entD a) = eLt b a := rfl
  rw [this]
  cases eLt b a <;> rfl
end K51

namespace K51
open PySem PySem.Spec PyProof.Rows L2 TL
/-! ### the table, in plain words -/
abbrev Tab := List (Option Ent)
def at_ (tab : Tab) (i : Nat) : Option Ent := tab.getD i none
def told (e : Ent) (p : Ph) : Ent := (e.1 + pcost p, e.2.1 + 1, e.2.2 ++ [p])
def less (t : Ent) : Option Ent → Ent
  | none => t
  | some o => if eLt t o then t else o
def putT (tab : Tab) (i : Nat) (t : Ent) : Tab := tab.set i (some (less t (at_ tab i)))
def stepPh (p : Nat) (e : Ent) (tab : Tab) (ph : Ph) : Tab := putT tab (p + plen ph) (told e ph)
def stepPl (sg : List Int) (tab : Tab) (p : Nat) : Tab := match at_ tab p with
  | some e => (phr sg p).foldl (stepPh p e) tab
  | none => tab
def tab0 (n : Nat) : Tab := some (0, 0, []) :: List.replicate n none
def table (sg : List Int) : Tab := (List.range sg.length).foldl (stepPl sg) (tab0 sg.length)
theorem less_some (t o : Ent) : less t (some o) = if eLt t o then t else o := rfl
theorem less_le (t : Ent) (o : Option Ent) : (less t o).1 ≤ t.1 := by
  cases o with
  | none => exact Nat.le_refl _
  | some o =>
    rw [less_some]
    cases h : eLt t o with
    | true => exact Nat.le_refl _
    | false => exact ent_ge t o h
theorem less_le' (t o : Ent) : (less t (some o)).1 ≤ o.1 := by
  rw [less_some]
  cases h : eLt t o with
  | true => exact ent_le t o h
  | false => exact Nat.le_refl _
theorem at_put (tab : Tab) (i j : Nat) (t : Ent) (h : i < tab.length) : at_ (putT tab i t) j = if j = i then some (less t (at_ tab i)) else at_ tab j := by
  unfold putT at_
  simp only [List.getD_eq_getElem?_getD, List.getElem?_set]
  by_cases e : i = j
  · subst e; simp [h]
  · have e' : ¬ j = i := fun z => e z.symm
    simp [e, e']
/-! what is good -/
structure Good (sg : List Int) (i : Nat) (e : Ent) : Prop where
  tot : e.1 = cost e.2.2
  snd : snd 0 e.2.2
  tl : e.2.2.foldl tell [] = sg.take i
  len : e.2.2.length ≤ i
  hi : i ≤ sg.length
structure OkPh (sg : List Int) (p : Nat) (ph : Ph) : Prop where
  fit : fit p ph
  one : 1 ≤ plen ph
  hi : p + plen ph ≤ sg.length
  tl : tell (sg.take p) ph = sg.take (p + plen ph)
theorem take_snoc (sg : List Int) (i : Nat) (h : i < sg.length) : sg.take i ++ [gi sg i] = sg.take (i + 1) := by
  rw [List.take_succ]
  simp [gi, List.getD_eq_getElem?_getD, List.getElem?_eq_getElem h]
theorem gi_take (sg : List Int) (i j : Nat) (h : j < i) : gi (sg.take i) j = gi sg j := by
  simp [gi, List.getD_eq_getElem?_getD, List.getElem?_take, h]
theorem cop_take (sg : List Int) (p b m : Nat) (hb : 1 ≤ b) (hf : fits sg p b m = true) : ∀ (j i : Nat), i + j = m → cop b j (sg.take (p + i)) = sg.take (p + i + j)
  | 0, i, _ => rfl
  | j + 1, i, h => by
    simp only [fits, Bool.and_eq_true, decide_eq_true_eq, List.all_eq_true, List.mem_range] at hf
    obtain ⟨⟨h1, h2⟩, h3⟩ := hf
    have e3 := h3 i (by omega)
    simp only [eqs, decide_eq_true_eq] at e3
    unfold cop
    have hl : (sg.take (p + i)).length = p + i := by rw [List.length_take]; omega
    rw [hl, gi_take sg _ _ (by omega), ← e3, take_snoc sg _ (by omega)]
    have := cop_take sg p b m hb (by
      simp only [fits, Bool.and_eq_true, decide_eq_true_eq, List.all_eq_true, List.mem_range]
      exact ⟨⟨h1, h2⟩, h3⟩) j (i + 1) (by omega)
    rw [show p + i + 1 = p + (i + 1) by omega, this]
    congr 1; omega
theorem ok_phr (sg : List Int) (hn : sg.length ≤ 50) (p : Nat) (hp : p < sg.length) (ph : Ph) (h : ph ∈ phr sg p) : OkPh sg p ph := by
  unfold phr at h
  rw [List.mem_cons] at h
  rcases h with rfl | h
  · exact ⟨trivial, Nat.le_refl _, hp, take_snoc sg p hp⟩
  · rw [List.mem_flatMap] at h
    obtain ⟨i, hi, h⟩ := h
    have hi := List.mem_range.mp hi
    unfold cps at h
    rw [List.mem_filterMap] at h
    obtain ⟨j, hj, h⟩ := h
    have hj := List.mem_range.mp hj
    by_cases hf : fits sg p (1 + i) (2 + j) = true
    · rw [if_pos hf] at h
      cases h
      have hf' := hf
      simp only [fits, Bool.and_eq_true, decide_eq_true_eq] at hf'
      refine ⟨⟨by omega, by omega, by omega⟩, ?_, hf'.1.2, ?_⟩
      · show 1 ≤ 2 + j; omega
      · exact cop_take sg p (1 + i) (2 + j) (by omega) hf (2 + j) 0 (by omega)
    · rw [if_neg hf] at h; cases h
theorem snd_snoc : ∀ (ps : List Ph) (n : Nat) (ph : Ph), snd n ps → fit (n + (ps.map plen).sum) ph → snd n (ps ++ [ph])
  | [], n, ph, _, h => ⟨by simpa using h, trivial⟩
  | q :: ps, n, ph, h, k => ⟨h.1, snd_snoc ps _ ph h.2 (by simpa [Nat.add_assoc] using k)⟩
theorem tells_len : ∀ (ps : List Ph) (acc : List Int), (ps.foldl tell acc).length = acc.length + (ps.map plen).sum
  | [], acc => by simp
  | q :: ps, acc => by rw [List.foldl_cons, tells_len ps, tell_len]; simp [Nat.add_assoc]
theorem good_told (sg : List Int) (p : Nat) (e : Ent) (ph : Ph) (g : Good sg p e) (k : OkPh sg p ph) : Good sg (p + plen ph) (told e ph) := by
  have hs : (e.2.2.map plen).sum = p := by
    have := tells_len e.2.2 []
    rw [g.tl, List.length_take] at this
    have := g.hi
    simp at *
    omega
  refine ⟨?_, snd_snoc _ _ _ g.snd (by rw [hs, Nat.zero_add]; exact k.fit), ?_, ?_, k.hi⟩
  · simp [told, cost, g.tot]
  · show (e.2.2 ++ [ph]).foldl tell [] = _
    rw [List.foldl_append, g.tl]
    exact k.tl
  · have := g.len
    have := k.one
    simp [told]; omega
/-! the table's invariant -/
def Le (tab : Tab) (q : Nat) (ph : Ph) : Prop := ∃ a b, at_ tab q = some a ∧ at_ tab (q + plen ph) = some b ∧ b.1 ≤ a.1 + pcost ph
structure TI (sg : List Int) (p : Nat) (done : List Ph) (tab : Tab) : Prop where
  len : tab.length = sg.length + 1
  zero : at_ tab 0 = some (0, 0, [])
  good : ∀ i e, at_ tab i = some e → Good sg i e
  reach : ∀ i, i ≤ p → (at_ tab i).isSome = true
  marks : ∀ q, q < p → ∀ ph ∈ phr sg q, Le tab q ph
  cur : ∀ ph ∈ done, Le tab p ph
theorem TI.put {sg : List Int} {p : Nat} {done : List Ph} {tab : Tab} {e : Ent} {ph : Ph} (t : TI sg p done tab) (he : at_ tab p = some e) (k : OkPh sg p ph) (one : ∀ q, q < p → ∀ x ∈ phr sg q, 1 ≤ plen x) (oned : ∀ x ∈ done, 1 ≤ plen x) : TI sg p (done ++ [ph]) (stepPh p e tab ph) ∧ at_ (stepPh p e tab ph) p = some e := by
  have hl : p + plen ph < tab.length := by rw [t.len]; have := k.hi; omega
  have h1 := k.one
  have ap : ∀ j, at_ (stepPh p e tab ph) j = if j = p + plen ph then some (less (told e ph) (at_ tab (p + plen ph))) else at_ tab j := fun j => at_put tab _ j _ hl
  have ep : at_ (stepPh p e tab ph) p = some e := by rw [ap, if_neg (by omega)]; exact he
  have keep : ∀ q x, q ≤ p → 1 ≤ plen x → Le tab q x → Le (stepPh p e tab ph) q x := fun q x hq hx ⟨a, b, ea, eb, l⟩ => by
    refine ⟨a, ?_⟩
    by_cases h : q + plen x = p + plen ph
    · refine ⟨_, by rw [ap, if_neg (by omega)]; exact ea, by rw [ap, if_pos h], ?_⟩
      rw [← h, eb]
      exact Nat.le_trans (less_le' _ _) l
    · exact ⟨b, by rw [ap, if_neg (by omega)]; exact ea, by rw [ap, if_neg h]; exact eb, l⟩
  refine ⟨⟨by simp [stepPh, putT, t.len], by rw [ap, if_neg (by omega)]; exact t.zero, fun i f hf => ?_, fun i hi => by rw [ap, if_neg (by omega)]; exact t.reach i hi, fun q hq x hx => keep q x (by omega) (one q hq x hx) (t.marks q hq x hx), fun x hx => ?_⟩, ep⟩
  · rw [ap] at hf
    by_cases h : i = p + plen ph
    · rw [if_pos h] at hf
      have gt := good_told sg p e ph (t.good p e he) k
      rw [← h] at gt
      cases ho : at_ tab (p + plen ph) with
      | none => rw [ho] at hf; cases hf; exact gt
      | some o =>
        rw [ho, less_some] at hf
        have go := t.good _ o ho
        rw [← h] at go
        have hf := Option.some.inj hf
        split at hf
        · rw [← hf]; exact gt
        · rw [← hf]; exact go
    · rw [if_neg h] at hf
      exact t.good i f hf
  · rw [List.mem_append] at hx
    rcases hx with hx | hx
    · exact keep p x (by omega) (oned x hx) (t.cur x hx)
    · have hx : x = ph := by simpa using hx
      subst hx
      exact ⟨e, _, ep, by rw [ap, if_pos rfl], less_le _ _⟩
theorem TI.zero0 (sg : List Int) : TI sg 0 [] (tab0 sg.length) := by
  have z : ∀ i, at_ (tab0 sg.length) i = if i = 0 then some (0, 0, []) else none := fun i => by
    unfold at_ tab0
    cases i with
    | zero => rfl
    | succ i => simp [List.getD_eq_getElem?_getD, List.getElem?_replicate]; split <;> rfl
  refine ⟨by simp [tab0], by rw [z]; rfl, fun i e h => ?_, fun i hi => by rw [z, if_pos (by omega)]; rfl, fun q hq => by omega, fun ph h => by simp at h⟩
  rw [z] at h
  by_cases hi : i = 0
  · rw [if_pos hi] at h; cases h; subst hi
    exact ⟨rfl, trivial, rfl, Nat.le_refl _, Nat.zero_le _⟩
  · rw [if_neg hi] at h; cases h
theorem TI.next {sg : List Int} {p : Nat} {tab : Tab} (t : TI sg p (phr sg p) tab) : TI sg (p + 1) [] tab := by
  refine ⟨t.len, t.zero, t.good, fun i hi => ?_, fun q hq => ?_, fun ph h => by simp at h⟩
  · by_cases h : i ≤ p
    · exact t.reach i h
    · have h : i = p + 1 := by omega
      subst h
      obtain ⟨a, b, _, eb, _⟩ := t.cur (.sign (gi sg p)) (by simp [phr])
      have eb' : at_ tab (p + 1) = some b := eb
      rw [eb']; rfl
  · by_cases h : q < p
    · exact t.marks q h
    · have h : q = p := by omega
      subst h
      exact t.cur
/-- one place, phrase by phrase -/
theorem TI.place (sg : List Int) (hn : sg.length ≤ 50) (p : Nat) (hp : p < sg.length) (e : Ent) : ∀ (l done : List Ph) (tab : Tab), done ++ l = phr sg p → TI sg p done tab → at_ tab p = some e → TI sg p (phr sg p) (l.foldl (stepPh p e) tab)
  | [], done, tab, h, t, _ => by rw [← h]; simpa using t
  | ph :: l, done, tab, h, t, he => by
    have k := ok_phr sg hn p hp ph (by rw [← h]; simp)
    obtain ⟨t', e'⟩ := t.put he k (fun q hq x hx => (ok_phr sg hn q (by omega) x hx).one) (fun x hx => (ok_phr sg hn p hp x (by rw [← h]; simp [hx])).one)
    exact TI.place sg hn p hp e l (done ++ [ph]) _ (by simpa using h) t' e'
theorem TI.pl {sg : List Int} (hn : sg.length ≤ 50) {p : Nat} (hp : p < sg.length) {tab : Tab} (t : TI sg p [] tab) : TI sg (p + 1) [] (stepPl sg tab p) := by
  have hr := t.reach p (Nat.le_refl _)
  unfold stepPl
  cases he : at_ tab p with
  | none => rw [he] at hr; cases hr
  | some e => exact (TI.place sg hn p hp e (phr sg p) [] tab rfl t he).next
theorem TI.all (sg : List Int) (hn : sg.length ≤ 50) : ∀ p, p ≤ sg.length → TI sg p [] ((List.range p).foldl (stepPl sg) (tab0 sg.length))
  | 0, _ => TI.zero0 sg
  | p + 1, h => by
    rw [List.range_succ, List.foldl_append]
    exact (TI.all sg hn p (by omega)).pl hn (by omega)
theorem table_ti (sg : List Int) (hn : sg.length ≤ 50) : TI sg sg.length [] (table sg) := TI.all sg hn _ (Nat.le_refl _)
end K51

namespace K51
open PySem PySem.Spec PyProof.Rows L2 TL
def tabD (tab : Tab) : D := .lst (tab.map oeD)
theorem tab_ix (tab : Tab) (i : Nat) (h : i < tab.length) : dIx (tabD tab) (.int (i : Int)) = some (oeD (at_ tab i)) := by
  unfold tabD
  rw [d_ix_l, ix_nat _ i (by simpa using h)]
  simp [at_, List.getD_eq_getElem?_getD, List.getElem?_eq_getElem h]
theorem tab_set (tab : Tab) (i : Nat) (e : Option Ent) (h : i < tab.length) : setL (tab.map oeD) (i : Int) (oeD e) = some ((tab.set i e).map oeD) := by
  unfold setL ixN
  rw [if_pos (by omega)]
  simp [List.map_set, h]
theorem told_D (e : Ent) (ph : Ph) : D.tup [.int ((e.1 : Int) + (pcost ph : Int)), .int ((e.2.1 : Int) + 1), .tup (e.2.2.map phD ++ [phD ph])] = entD (told e ph) := by
  simp [entD, told]
theorem cost1_ok (p : Ph) : F_cost_of [.tup [phD p]] = some (.int (pcost p : Int), [.tup [phD p]]) := by
  have := cost_ok [p] (by simp)
  simpa [cost] using this
theorem ent_nn (e : Ent) : isNonD (entD e) = false := rfl
theorem put_same (tab : Tab) (i : Nat) (o : Ent) (h : at_ tab i = some o) : tab.set i (some o) = tab := by
  apply set_at
  unfold at_ at h
  rw [List.getD_eq_getElem?_getD] at h
  cases hh : tab[i]? with
  | none => rw [hh] at h; cases h
  | some x => rw [hh] at h; simp at h; rw [h]
theorem prog_step (z0 : D) (tab : Tab) (p : Nat) (e : Ent) (ph : Ph) (hs : p + plen ph < tab.length) (hl : e.2.2.length ≤ 1000) :
    (stepB (gNm 3) q1_cheapest_phrases (phD ph) [z0, tabD tab, .int (p : Int), .non, .int (e.1 : Int), .int (e.2.1 : Int), .tup (e.2.2.map phD), .non, .non, .non]).bind (nxOf [3, 7, 8]) = some [z0, tabD (stepPh p e tab ph), .int (p : Int), .non, .int (e.1 : Int), .int (e.2.1 : Int), .tup (e.2.2.map phD), .non, .non, .non] := by
  have e1 := cost1_ok ph
  have e2 := length_ok ph
  have e3 := tab_ix tab (p + plen ph) hs
  have e4 := told_D e ph
  have e5 := tab_set tab (p + plen ph) (some (told e ph)) hs
  simp only [Int.natCast_add] at e3 e5
  have e6 : oeD (some (told e ph)) = entD (told e ph) := rfl
  rw [e6] at e5
  have e7 : tabD (stepPh p e tab ph) = .lst ((tab.set (p + plen ph) (some (less (told e ph) (at_ tab (p + plen ph))))).map oeD) := rfl
  rw [e7]
  cases ho : at_ tab (p + plen ph) with
  | none =>
    rw [ho] at e3
    have e8 : less (told e ph) none = told e ph := rfl
    rw [e8]
    generalize phD ph = P at *
    generalize told e ph = T at *
    unfold tabD at *
    simp [q1_cheapest_phrases, e1, e2, e3, e4, e5, oeD, okLen_of (n := 1) (by omega), okLen_of (n := 3) (by omega), okLen_of (n := e.2.2.length + 1) (by omega), setIxOf]
  | some o =>
    rw [ho] at e3
    have e8 := lt_ent (told e ph) o
    have e9 := ent_nn o
    rw [less_some]
    cases hb : eLt (told e ph) o with
    | true =>
      rw [hb] at e8
      rw [if_pos rfl]
      have eo : oeD (some o) = entD o := rfl
      rw [eo] at e3
      generalize phD ph = P at *
      generalize told e ph = T at *
      generalize entD o = O at *
      unfold tabD at *
      simp [q1_cheapest_phrases, e1, e2, e3, e4, e5, e8, e9, okLen_of (n := 1) (by omega), okLen_of (n := 3) (by omega), okLen_of (n := e.2.2.length + 1) (by omega), setIxOf]
    | false =>
      rw [hb] at e8
      rw [if_neg (by simp), put_same tab _ o ho]
      have eo : oeD (some o) = entD o := rfl
      rw [eo] at e3
      generalize phD ph = P at *
      generalize told e ph = T at *
      generalize entD o = O at *
      unfold tabD at *
      simp [q1_cheapest_phrases, e1, e2, e3, e4, e5, e8, e9, okLen_of (n := 1) (by omega), okLen_of (n := 3) (by omega), okLen_of (n := e.2.2.length + 1) (by omega), setIxOf]
theorem law_step (z0 z1 z2 z3 z4 z5 z6 z9 z10 z12 z13 : D) (tab : Tab) (p : Nat) (e : Ent) (ph : Ph) (hp : p < tab.length) (he : at_ tab p = some e) (hs : p + plen ph < tab.length) (hl : e.2.2.length ≤ 1000) :
    (stepB (gNm 11) q4_law (phD ph) [z0, z1, z2, z3, z4, z5, z6, tabD tab, .int (p : Int), z9, z10, .non, z12, z13, .non, .non]).bind (nxOf [11, 14, 15]) = some [z0, z1, z2, z3, z4, z5, z6, tabD (stepPh p e tab ph), .int (p : Int), z9, z10, .non, z12, z13, .non, .non] := by
  have e1 := lcost_ok ph
  have e2 := long_ok ph
  have e0 := tab_ix tab p hp
  rw [he] at e0
  have e0' : oeD (some e) = .tup [.int (e.1 : Int), .int (e.2.1 : Int), .tup (e.2.2.map phD)] := rfl
  rw [e0'] at e0
  have e3 := tab_ix tab (p + plen ph) hs
  have e4 := told_D e ph
  simp only [Int.natCast_add] at e3
  have e7 : tabD (stepPh p e tab ph) = .lst ((tab.set (p + plen ph) (some (less (told e ph) (at_ tab (p + plen ph))))).map oeD) := rfl
  rw [e7]
  cases ho : at_ tab (p + plen ph) with
  | none =>
    rw [ho] at e3
    have e8 : less (told e ph) none = told e ph := rfl
    rw [e8]
    have e5 := tab_set tab (p + plen ph) (some (told e ph)) hs
    simp only [Int.natCast_add] at e5
    have e6 : oeD (some (told e ph)) = entD (told e ph) := rfl
    rw [e6] at e5
    generalize phD ph = P at *
    generalize told e ph = T at *
    unfold tabD at *
    simp [q4_law, e0, e1, e2, e3, e4, e5, oeD, okLen_of (n := 1) (by omega), okLen_of (n := 3) (by omega), okLen_of (n := e.2.2.length + 1) (by omega), setIxOf]
  | some o =>
    rw [ho] at e3
    have e8 := min_ent (told e ph) o
    have e9 := ent_nn o
    have e5 := tab_set tab (p + plen ph) (some (if eLt (told e ph) o then told e ph else o)) hs
    simp only [Int.natCast_add] at e5
    rw [less_some]
    generalize (if eLt (told e ph) o then told e ph else o) = M at *
    have e6 : oeD (some M) = entD M := rfl
    rw [e6] at e5
    have eo : oeD (some o) = entD o := rfl
    rw [eo] at e3
    generalize phD ph = P at *
    generalize told e ph = T at *
    generalize entD o = O at *
    unfold tabD at *
    simp [q4_law, e0, e1, e2, e3, e4, e5, e8, e9, okLen_of (n := 1) (by omega), okLen_of (n := 3) (by omega), okLen_of (n := e.2.2.length + 1) (by omega), setIxOf]
theorem prog_place (z0 : D) (sg : List Int) (hn : sg.length ≤ 50) (p : Nat) (hp : p < sg.length) (e : Ent) : ∀ (l done : List Ph) (tab : Tab), done ++ l = phr sg p → TI sg p done tab → at_ tab p = some e →
    loopF (stepB (gNm 3) q1_cheapest_phrases) [3, 7, 8] (l.map phD) [z0, tabD tab, .int (p : Int), .non, .int (e.1 : Int), .int (e.2.1 : Int), .tup (e.2.2.map phD), .non, .non, .non] = some (.nx [z0, tabD (l.foldl (stepPh p e) tab), .int (p : Int), .non, .int (e.1 : Int), .int (e.2.1 : Int), .tup (e.2.2.map phD), .non, .non, .non])
  | [], done, tab, h, t, _ => rfl
  | ph :: l, done, tab, h, t, he => by
    have k := ok_phr sg hn p hp ph (by rw [← h]; simp)
    have hl := (t.good p e he).len
    have hk := k.hi
    obtain ⟨t', e'⟩ := t.put he k (fun q hq x hx => (ok_phr sg hn q (by omega) x hx).one) (fun x hx => (ok_phr sg hn p hp x (by rw [← h]; simp [hx])).one)
    rw [List.map_cons, loop_go (prog_step z0 tab p e ph (by rw [t.len]; omega) (by omega)), prog_place z0 sg hn p hp e l (done ++ [ph]) _ (by simpa using h) t' e']
    rfl
theorem law_place (z0 z1 z2 z3 z4 z5 z6 z9 z10 z12 z13 : D) (sg : List Int) (hn : sg.length ≤ 50) (p : Nat) (hp : p < sg.length) (e : Ent) : ∀ (l done : List Ph) (tab : Tab), done ++ l = phr sg p → TI sg p done tab → at_ tab p = some e →
    loopF (stepB (gNm 11) q4_law) [11, 14, 15] (l.map phD) [z0, z1, z2, z3, z4, z5, z6, tabD tab, .int (p : Int), z9, z10, .non, z12, z13, .non, .non] = some (.nx [z0, z1, z2, z3, z4, z5, z6, tabD (l.foldl (stepPh p e) tab), .int (p : Int), z9, z10, .non, z12, z13, .non, .non])
  | [], done, tab, h, t, _ => rfl
  | ph :: l, done, tab, h, t, he => by
    have k := ok_phr sg hn p hp ph (by rw [← h]; simp)
    have hl := (t.good p e he).len
    have hk := k.hi
    obtain ⟨t', e'⟩ := t.put he k (fun q hq x hx => (ok_phr sg hn q (by omega) x hx).one) (fun x hx => (ok_phr sg hn p hp x (by rw [← h]; simp [hx])).one)
    rw [List.map_cons, loop_go (law_step z0 z1 z2 z3 z4 z5 z6 z9 z10 z12 z13 tab p e ph (by rw [t.len]; omega) he (by rw [t.len]; omega) (by omega)), law_place z0 z1 z2 z3 z4 z5 z6 z9 z10 z12 z13 sg hn p hp e l (done ++ [ph]) _ (by simpa using h) t' e']
    rfl
theorem prog_loop (sg : List Int) (hn : sg.length ≤ 50) : loopF (stepB (gNm 2) q2_cheapest_phrases) [2, 3, 4, 5, 6, 7, 8] ((List.range sg.length).map fun i : Nat => D.int (i : Int)) [sgD sg, tabD (tab0 sg.length), .non, .non, .non, .non, .non, .non, .non, .non] = some (.nx [sgD sg, tabD (table sg), .non, .non, .non, .non, .non, .non, .non, .non]) := by
  refine (loop_all (fun i : Nat => D.int (i : Int)) (fun tab : Tab => [sgD sg, tabD tab, .non, .non, .non, .non, .non, .non, .non, .non]) (stepPl sg) (fun pre tab => TI sg pre.length [] tab) (List.range sg.length) [] (tab0 sg.length) (TI.zero0 sg) fun pre' a post eq tab t => ?_).1
  have ha : a = pre'.length ∧ pre'.length < sg.length := by
    have h1 : (List.range sg.length)[pre'.length]? = some a := by
      rw [List.nil_append] at eq
      rw [eq]; simp
    have h2 : pre'.length < sg.length := by
      have := (List.getElem?_eq_some_iff.mp h1).1
      simpa using this
    rw [List.getElem?_range h2] at h1
    exact ⟨(Option.some.inj h1).symm, h2⟩
  obtain ⟨rfl, hp⟩ := ha
  refine ⟨?_, by simpa using t.pl hn hp⟩
  have hr := t.reach pre'.length (Nat.le_refl _)
  cases he : at_ tab pre'.length with
  | none => rw [he] at hr; cases hr
  | some e =>
    have e0 := tab_ix tab pre'.length (by rw [t.len]; omega)
    rw [he] at e0
    have e0' : oeD (some e) = .tup [.int (e.1 : Int), .int (e.2.1 : Int), .tup (e.2.2.map phD)] := rfl
    rw [e0'] at e0
    have e1 := phrases_ok sg pre'.length hn hp
    have e2 := prog_place (sgD sg) sg hn pre'.length hp e (phr sg pre'.length) [] tab rfl t he
    have e3 : stepPl sg tab pre'.length = (phr sg pre'.length).foldl (stepPh pre'.length e) tab := by unfold stepPl; rw [he]
    rw [e3]
    generalize (phr sg pre'.length).foldl (stepPh pre'.length e) tab = T at *
    generalize (phr sg pre'.length).map phD = P at *
    generalize sgD sg = S at *
    generalize hT : tabD T = TT at *
    have e4 : dIx (tabD tab) (.int (pre'.length : Int)) = some (.tup [.int (e.1 : Int), .int (e.2.1 : Int), .tup (e.2.2.map phD)]) := e0
    generalize tabD tab = W at *
    simp [q2_cheapest_phrases, e4, e1, e2]
theorem law_loop (z0 z1 z3 z4 z5 z6 z9 z10 z12 z13 : D) (sg : List Int) (hn : sg.length ≤ 50) : loopF (stepB (gNm 8) q5_law) [8, 11, 14, 15] ((List.range sg.length).map fun i : Nat => D.int (i : Int)) [z0, z1, sgD sg, z3, z4, z5, z6, tabD (tab0 sg.length), .non, z9, z10, .non, z12, z13, .non, .non] = some (.nx [z0, z1, sgD sg, z3, z4, z5, z6, tabD (table sg), .non, z9, z10, .non, z12, z13, .non, .non]) := by
  refine (loop_all (fun i : Nat => D.int (i : Int)) (fun tab : Tab => [z0, z1, sgD sg, z3, z4, z5, z6, tabD tab, .non, z9, z10, .non, z12, z13, .non, .non]) (stepPl sg) (fun pre tab => TI sg pre.length [] tab) (List.range sg.length) [] (tab0 sg.length) (TI.zero0 sg) fun pre' a post eq tab t => ?_).1
  have ha : a = pre'.length ∧ pre'.length < sg.length := by
    have h1 : (List.range sg.length)[pre'.length]? = some a := by
      rw [List.nil_append] at eq
      rw [eq]; simp
    have h2 : pre'.length < sg.length := by
      have := (List.getElem?_eq_some_iff.mp h1).1
      simpa using this
    rw [List.getElem?_range h2] at h1
    exact ⟨(Option.some.inj h1).symm, h2⟩
  obtain ⟨rfl, hp⟩ := ha
  refine ⟨?_, by simpa using t.pl hn hp⟩
  have hr := t.reach pre'.length (Nat.le_refl _)
  cases he : at_ tab pre'.length with
  | none => rw [he] at hr; cases hr
  | some e =>
    have e1 := lphr_ok sg pre'.length (by omega) hp
    have e2 := law_place z0 z1 (sgD sg) z3 z4 z5 z6 z9 z10 z12 z13 sg hn pre'.length hp e (phr sg pre'.length) [] tab rfl t he
    have e3 : stepPl sg tab pre'.length = (phr sg pre'.length).foldl (stepPh pre'.length e) tab := by unfold stepPl; rw [he]
    rw [e3]
    generalize (phr sg pre'.length).foldl (stepPh pre'.length e) tab = T at *
    generalize (phr sg pre'.length).map phD = P at *
    generalize sgD sg = S at *
    generalize hT : tabD T = TT at *
    generalize tabD tab = W at *
    simp [q5_law, e1, e2]
/-- the end of the table -/
theorem table_all (sg : List Int) (hn : sg.length ≤ 50) : ∃ es : List Ent, table sg = es.map some ∧ es.length = sg.length + 1 := by
  have t := table_ti sg hn
  have go : ∀ l : Tab, (∀ x ∈ l, x.isSome = true) → ∃ es : List Ent, l = es.map some := by
    intro l
    induction l with
    | nil => exact fun _ => ⟨[], rfl⟩
    | cons x l ih =>
      intro h
      obtain ⟨es, e⟩ := ih fun y hy => h y (by simp [hy])
      cases x with
      | none => have := h none (by simp); cases this
      | some y => exact ⟨y :: es, by rw [e]; rfl⟩
  obtain ⟨es, e⟩ := go (table sg) fun x hx => by
    obtain ⟨i, hi, hx⟩ := List.mem_iff_getElem.mp hx
    have hl := t.len
    have := t.reach i (by omega)
    unfold at_ at this
    rw [List.getD_eq_getElem?_getD, List.getElem?_eq_getElem hi] at this
    simp only [Option.getD_some] at this
    rw [← hx]; exact this
  exact ⟨es, e, by have := t.len; rw [e] at this; simpa using this⟩
def lastE (es : List Ent) : Ent := es.getD (es.length - 1) (0, 0, [])
theorem cheap_ok (sg : List Int) (hn : sg.length ≤ 50) (es : List Ent) (he : table sg = es.map some) (hl : es.length = sg.length + 1) :
    F_cheapest_phrases [sgD sg] = some (.tup [.tup ((lastE es).2.2.map phD), .tup (es.map fun e => .int (e.1 : Int))], [sgD sg]) := by
  unfold F_cheapest_phrases b_cheapest_phrases
  rw [v_run1]
  have e1 := prog_loop sg hn
  have e2 : tabD (tab0 sg.length) = .lst (.tup [.int 0, .int 0, .tup []] :: List.replicate sg.length .non) := by
    simp [tabD, tab0, oeD, entD]
  have e3 : tabD (table sg) = .lst (es.map entD) := by
    unfold tabD
    rw [he, List.map_map]; rfl
  rw [e2, e3] at e1
  have e4 : repL [D.non] sg.length = List.replicate sg.length .non := by
    unfold repL
    generalize sg.length = n
    induction n with
    | zero => rfl
    | succ n ih => rw [List.replicate_succ, List.flatten_cons, ih, List.replicate_succ]; rfl
  have e5 : dIx (.lst (es.map entD)) (.int (-1)) = some (entD (lastE es)) := by
    rw [d_ix_l]
    unfold atI ixN
    rw [if_neg (by omega), if_pos (by simp; omega)]
    have e : ((-1 : Int) + ((es.map entD).length : Int)).toNat = es.length - 1 := by simp; omega
    rw [e, Option.bind_some, List.getElem?_map, List.getElem?_eq_getElem (by omega)]
    simp [lastE, List.getD_eq_getElem?_getD, List.getElem?_eq_getElem (show es.length - 1 < es.length by omega)]
  have e6 : ∀ a b : D, lcF (stepLc [4, 9, 9] (gTp (gsCons (gNm 4) (gsCons (gNm 9) (gsCons (gNm 9) gsNil)))) tYesF e3_cheapest_phrases) (es.map entD) [a, b, .non, .non, .non, .non, .non, .non, .non, .non] = some (es.map fun e => .int (e.1 : Int), [a, b, .non, .non, .non, .non, .non, .non, .non, .non]) := by
    intro a b
    refine lc_all entD (fun e => .int (e.1 : Int)) _ _ fun e _ => ?_
    simp [e3_cheapest_phrases, entD]
  have e7 : entD (lastE es) = .tup [.int ((lastE es).1 : Int), .int ((lastE es).2.1 : Int), .tup ((lastE es).2.2.map phD)] := rfl
  rw [e7] at e5
  have e8 := len_sg sg
  generalize sgD sg = S at *
  have h1 : okLen es.length = true := okLen_of (by omega)
  have h2 : okLen (1 + sg.length) = true := okLen_of (by omega)
  have h3 : okLen (sg.length + 1) = true := okLen_of (by omega)
  have h4 : okLen sg.length = true := okLen_of (by omega)
  rw [d_ix_l] at e5
  generalize (lastE es).2.2.map phD = LE at *
  generalize (lastE es).1 = L1 at *
  generalize (lastE es).2.1 = L2' at *
  simp [e8, okLen_of (n := 0) (by omega), okLen_of (n := 1) (by omega), okLen_of (n := 2) (by omega), okLen_of (n := 3) (by omega), dMul, s62_of (i := (sg.length : Int)) (by omega) (by omega), h1, h2, h3, h4, e4, intsD0, e1, e5, e6]
end K51

namespace K51
open PySem PySem.Spec PyProof.Rows L2 TL
def bad (ms : List Int) (p : Nat) (ph : Ph) : Bool := decide (gi ms p + (pcost ph : Int) < gi ms (p + plen ph))
def isM (sg ms : List Int) : Bool := decide (ms.length = sg.length + 1) && decide (gi ms 0 = 0) && !((List.range sg.length).any fun p => (phr sg p).any (bad ms p))
theorem isint_i (i : Int) : F_is_integer [.int i] = some (.bl true, [.int i]) := by
  unfold F_is_integer b_is_integer
  rw [v_run1]; simp
theorem isint_b (i : Bool) : F_is_integer [.bl i] = some (.bl false, [.bl i]) := by
  unfold F_is_integer b_is_integer
  rw [v_run1]; simp
theorem ix_t (ms : List Int) (i : Nat) (h : i < ms.length) : dIx (.tup (ms.map D.int)) (.int (i : Int)) = some (.int (gi ms i)) := ix_sg ms i h
theorem j_inner (sg ms : List Int) (hn : sg.length ≤ 50) (hm : ms.length = sg.length + 1) (p : Nat) (hp : p < sg.length) :
    ((phr sg p).any (bad ms p) = true → ∃ r, loopF (stepB (gNm 3) q2_judge_marks) [3] ((phr sg p).map phD) [sgD sg, .tup (ms.map D.int), .int (p : Int), .non, .non] = some (.rt (.bl false) r)) ∧
    ((phr sg p).any (bad ms p) = false → loopF (stepB (gNm 3) q2_judge_marks) [3] ((phr sg p).map phD) [sgD sg, .tup (ms.map D.int), .int (p : Int), .non, .non] = some (.nx [sgD sg, .tup (ms.map D.int), .int (p : Int), .non, .non])) := by
  refine loop_ret phD _ (bad ms p) (.bl false) (phr sg p) fun ph hph => ?_
  have k := ok_phr sg hn p hp ph hph
  have hk := k.hi
  have e1 := cost1_ok ph
  have e2 := length_ok ph
  have e3 := ix_t ms (p + plen ph) (by omega)
  have e4 := ix_t ms p (by omega)
  simp only [Int.natCast_add] at e3
  unfold bad
  generalize phD ph = P at *
  generalize gi ms p = a at *
  generalize gi ms (p + plen ph) = b at *
  generalize D.tup (ms.map D.int) = T at *
  generalize sgD sg = S at *
  refine ⟨fun h => ?_, fun h => ?_⟩
  · have h := of_decide_eq_true h
    refine ⟨[S, T, .int (p : Int), P, .non], ?_⟩
    simp [q2_judge_marks, e1, e2, e3, e4, okLen_of (n := 1) (by omega), h]
  · have h := of_decide_eq_false h
    simp [q2_judge_marks, e1, e2, e3, e4, okLen_of (n := 1) (by omega), h]
theorem j_outer (sg ms : List Int) (hn : sg.length ≤ 50) (hm : ms.length = sg.length + 1) :
    (((List.range sg.length).any fun p => (phr sg p).any (bad ms p)) = true → ∃ r, loopF (stepB (gNm 2) q3_judge_marks) [2, 3] ((List.range sg.length).map fun i : Nat => D.int (i : Int)) [sgD sg, .tup (ms.map D.int), .non, .non, .non] = some (.rt (.bl false) r)) ∧
    (((List.range sg.length).any fun p => (phr sg p).any (bad ms p)) = false → loopF (stepB (gNm 2) q3_judge_marks) [2, 3] ((List.range sg.length).map fun i : Nat => D.int (i : Int)) [sgD sg, .tup (ms.map D.int), .non, .non, .non] = some (.nx [sgD sg, .tup (ms.map D.int), .non, .non, .non])) := by
  refine loop_ret (fun i : Nat => D.int (i : Int)) _ (fun p => (phr sg p).any (bad ms p)) (.bl false) (List.range sg.length) fun p hp => ?_
  have hp := List.mem_range.mp hp
  have e1 := phrases_ok sg p hn hp
  obtain ⟨h1, h2⟩ := j_inner sg ms hn hm p hp
  generalize (phr sg p).any (bad ms p) = B at *
  generalize (phr sg p).map phD = P at *
  generalize D.tup (ms.map D.int) = T at *
  generalize sgD sg = S at *
  refine ⟨fun h => ?_, fun h => ?_⟩
  · obtain ⟨r, e⟩ := h1 h
    exact ⟨r, by simp [q3_judge_marks, e1, e]⟩
  · have e := h2 h
    simp [q3_judge_marks, e1, e]
theorem allint (z0 z1 : D) (ms : List Int) : lcF (stepLc [4] (gNm 4) tYesF e1_judge_marks) (ms.map D.int) [z0, z1, .non, .non, .non] = some (ms.map fun _ => .bl true, [z0, z1, .non, .non, .non]) := by
  refine lc_all D.int (fun _ => .bl true) _ _ fun i _ => ?_
  simp [e1_judge_marks, isint_i]
theorem allint' (z0 z1 : D) (k : Nat) : lcF (stepLc [4] (gNm 4) tYesF e1_judge_marks) (List.replicate k (.bl true)) [z0, z1, .non, .non, .non] = some ((List.range k).map fun _ => .bl false, [z0, z1, .non, .non, .non]) := by
  have : List.replicate k (D.bl true) = (List.range k).map fun _ => D.bl true := by rw [List.map_const', List.length_range]
  rw [this]
  refine lc_all (fun _ : Nat => D.bl true) (fun _ => .bl false) _ _ fun i _ => ?_
  simp [e1_judge_marks, isint_b]
theorem all_t (ms : List Int) : allD (.lst (ms.map fun _ => D.bl true)) = some (.bl true) := by
  have := all_m (fun _ => true) ms
  rw [this]; simp
theorem judge_ok (sg ms : List Int) (hn : sg.length ≤ 50) (hm : ms.length ≤ 1000) : ∃ l, F_judge_marks [sgD sg, .tup (ms.map D.int)] = some (.bl (isM sg ms), l) := by
  unfold F_judge_marks b_judge_marks
  rw [v_run2]
  have e1 := len_sg sg
  have e2 : lenD (.tup (ms.map D.int)) = some (.int (ms.length : Int)) := len_sg ms
  have e3 := allint (sgD sg) (.tup (ms.map D.int)) ms
  have e4 := all_t ms
  have hW : (ms.map D.int).length = ms.length := by simp
  have hs : seqD (.v (.tup (ms.map D.int))) = some (ms.map D.int) := rfl
  have e9 : intsD 0 sg.length = (List.range sg.length).map fun i : Nat => D.int (i : Int) := intsD0 _
  by_cases h1 : ms.length = sg.length + 1
  · have h1' : (ms.length : Int) = (sg.length : Int) + 1 := by omega
    have e5 := ix_t ms 0 (by omega)
    rw [d_ix_t] at e5
    obtain ⟨h2, h3⟩ := j_outer sg ms hn h1
    have hM : isM sg ms = (decide (gi ms 0 = 0) && !((List.range sg.length).any fun p => (phr sg p).any (bad ms p))) := by
      unfold isM; rw [decide_eq_true h1, Bool.true_and]
    rw [hM]
    simp only [Int.ofNat_zero, Int.cast_ofNat_Int] at e5
    generalize ((List.range sg.length).any fun p => (phr sg p).any (bad ms p)) = B at *
    generalize ms.map D.int = W at *
    generalize ms.map (fun _ => D.bl true) = W2 at *
    generalize gi ms 0 = g0 at *
    generalize sgD sg = S at *
    have ho : okLen ms.length = true := okLen_of (by omega)
    have ho2 : small62 (sg.length : Int) = true := s62_of (by omega) (by omega)
    by_cases h0 : g0 = 0
    · subst h0
      cases B with
      | true =>
        obtain ⟨r, e⟩ := h2 rfl
        refine exo ?_
        simp [e1, hW, e3, e4, h1', ho, ho2, e5, e9, e, hs]
      | false =>
        have e := h3 rfl
        refine exo ?_
        simp [e1, hW, e3, e4, h1', ho, ho2, e5, e9, e, hs]
    · have hb : (g0 == 0) = false := beq_eq_false_iff_ne.mpr h0
      refine exo ?_
      simp [e1, hW, e3, e4, h1', ho, ho2, e5, e9, hs, hb, h0]
  · have h1' : ¬ (ms.length : Int) = (sg.length : Int) + 1 := by omega
    have hM : isM sg ms = false := by
      unfold isM; rw [decide_eq_false h1]; rfl
    rw [hM]
    generalize ms.map D.int = W at *
    have hb : ((ms.length : Int) == (sg.length : Int) + 1) = false := beq_eq_false_iff_ne.mpr h1'
    generalize sgD sg = S at *
    refine exo ?_
    simp [e1, hW, h1', hb]
end K51

namespace K51
open PySem PySem.Spec PyProof.Rows L2 TL
theorem l_inner (z3 z4 : D) (sg ms : List Int) (hn : sg.length ≤ 50) (hm : ms.length = sg.length + 1) (p : Nat) (hp : p < sg.length) :
    lcF (stepLc [4] (gNm 4) tYesF e2__law_are_marks) ((phr sg p).map phD) [sgD sg, .tup (ms.map D.int), .int (p : Int), .non, .non] = some ((phr sg p).map fun ph => .bl (bad ms p ph), [sgD sg, .tup (ms.map D.int), .int (p : Int), .non, .non]) := by
  refine lc_all phD (fun ph => .bl (bad ms p ph)) _ _ fun ph hph => ?_
  have k := ok_phr sg hn p hp ph hph
  have hk := k.hi
  have e1 := lcost_ok ph
  have e2 := long_ok ph
  have e3 := ix_t ms (p + plen ph) (by omega)
  have e4 := ix_t ms p (by omega)
  simp only [Int.natCast_add] at e3
  unfold bad
  generalize phD ph = P at *
  generalize gi ms p = a at *
  generalize gi ms (p + plen ph) = b at *
  generalize D.tup (ms.map D.int) = T at *
  generalize sgD sg = S at *
  simp [e2__law_are_marks, e1, e2, e3, e4]
theorem phr_len (sg : List Int) (hn : sg.length ≤ 50) (p : Nat) (hp : p < sg.length) : (phr sg p).length ≤ 10000 := by
  have hl := len_flat (fun i => cps sg p (1 + i)) 50 (List.range p) (fun i _ => Nat.le_trans (cps_len _ _ _) (by omega))
  rw [List.length_range] at hl
  unfold phr
  simp only [List.length_cons]
  omega
theorem l_outer (sg ms : List Int) (hn : sg.length ≤ 50) (hm : ms.length = sg.length + 1) :
    (((List.range sg.length).any fun p => (phr sg p).any (bad ms p)) = true → ∃ r, loopF (stepB (gNm 2) q3__law_are_marks) [2] ((List.range sg.length).map fun i : Nat => D.int (i : Int)) [sgD sg, .tup (ms.map D.int), .non, .non, .non] = some (.rt (.bl false) r)) ∧
    (((List.range sg.length).any fun p => (phr sg p).any (bad ms p)) = false → loopF (stepB (gNm 2) q3__law_are_marks) [2] ((List.range sg.length).map fun i : Nat => D.int (i : Int)) [sgD sg, .tup (ms.map D.int), .non, .non, .non] = some (.nx [sgD sg, .tup (ms.map D.int), .non, .non, .non])) := by
  refine loop_ret (fun i : Nat => D.int (i : Int)) _ (fun p => (phr sg p).any (bad ms p)) (.bl false) (List.range sg.length) fun p hp => ?_
  have hp := List.mem_range.mp hp
  have e1 := lphr_ok sg p (by omega) hp
  have e2 := l_inner .non .non sg ms hn hm p hp
  have e3 := any_m (bad ms p) (phr sg p)
  have hl := phr_len sg hn p hp
  have ho : okLen ((phr sg p).map phD).length = true := okLen_of (by simp; omega)
  generalize (phr sg p).any (bad ms p) = B at *
  generalize ((phr sg p).map fun ph => D.bl (bad ms p ph)) = BB at *
  generalize (phr sg p).map phD = P at *
  generalize D.tup (ms.map D.int) = T at *
  generalize sgD sg = S at *
  refine ⟨fun h => ?_, fun h => ?_⟩
  · subst h
    exact ⟨[S, T, .int (p : Int), .non, .non], by simp [q3__law_are_marks, e1, ho, e2, e3]⟩
  · subst h
    simp [q3__law_are_marks, e1, ho, e2, e3]
theorem l_allint (z0 z1 : D) (ms : List Int) : lcF (stepLc [3] (gNm 3) tYesF e1__law_are_marks) (ms.map D.int) [z0, z1, .non, .non, .non] = some (ms.map fun _ => .bl false, [z0, z1, .non, .non, .non]) := by
  refine lc_all D.int (fun _ => .bl false) _ _ fun i _ => ?_
  simp [e1__law_are_marks]
theorem l_allb (z0 z1 : D) (k : Nat) : lcF (stepLc [3] (gNm 3) tYesF e1__law_are_marks) (List.replicate k (.bl true)) [z0, z1, .non, .non, .non] = some ((List.range k).map fun _ => .bl true, [z0, z1, .non, .non, .non]) := by
  have : List.replicate k (D.bl true) = (List.range k).map fun _ => D.bl true := by rw [List.map_const', List.length_range]
  rw [this]
  refine lc_all (fun _ : Nat => D.bl true) (fun _ => .bl true) _ _ fun i _ => ?_
  simp [e1__law_are_marks]
theorem any_f {α : Type} (ms : List α) : anyD (.lst (ms.map fun _ => D.bl false)) = some (.bl false) := by
  have := any_m (fun _ => false) ms
  rw [this]; simp
theorem any_tr (k : Nat) (h : 0 < k) : anyD (.lst ((List.range k).map fun _ => D.bl true)) = some (.bl true) := by
  have := any_m (fun _ => true) (List.range k)
  have e : (List.range k).any (fun _ => true) = true := List.any_eq_true.mpr ⟨0, List.mem_range.mpr h, rfl⟩
  rw [this, e]
theorem all_f (k : Nat) (h : 0 < k) : allD (.lst ((List.range k).map fun _ => D.bl false)) = some (.bl false) := by
  have := all_m (fun _ => false) (List.range k)
  have e : (List.range k).all (fun _ => false) = false := List.all_eq_false.mpr ⟨0, List.mem_range.mpr h, by simp⟩
  rw [this, e]
theorem lmarks_ok (sg ms : List Int) (hn : sg.length ≤ 50) (hm : ms.length ≤ 1000) : ∃ l, F__law_are_marks [sgD sg, .tup (ms.map D.int)] = some (.bl (isM sg ms), l) := by
  unfold F__law_are_marks b__law_are_marks
  rw [v_run2]
  have e1 := len_sg sg
  have hW : (ms.map D.int).length = ms.length := by simp
  have e3 := l_allint (sgD sg) (.tup (ms.map D.int)) ms
  have e4 : anyD (.lst (ms.map fun _ => D.bl false)) = some (.bl false) := any_f ms
  have hs : seqD (.v (.tup (ms.map D.int))) = some (ms.map D.int) := rfl
  have e9 : intsD 0 sg.length = (List.range sg.length).map fun i : Nat => D.int (i : Int) := intsD0 _
  by_cases h1 : ms.length = sg.length + 1
  · have h1' : (ms.length : Int) = (sg.length : Int) + 1 := by omega
    have e5 := ix_t ms 0 (by omega)
    rw [d_ix_t] at e5
    obtain ⟨h2, h3⟩ := l_outer sg ms hn h1
    have hM : isM sg ms = (decide (gi ms 0 = 0) && !((List.range sg.length).any fun p => (phr sg p).any (bad ms p))) := by
      unfold isM; rw [decide_eq_true h1, Bool.true_and]
    rw [hM]
    simp only [Int.ofNat_zero, Int.cast_ofNat_Int] at e5
    generalize ((List.range sg.length).any fun p => (phr sg p).any (bad ms p)) = B at *
    generalize ms.map D.int = W at *
    generalize ms.map (fun _ => D.bl false) = W2 at *
    generalize gi ms 0 = g0 at *
    generalize sgD sg = S at *
    have ho : okLen ms.length = true := okLen_of (by omega)
    have ho2 : small62 (sg.length : Int) = true := s62_of (by omega) (by omega)
    by_cases h0 : g0 = 0
    · subst h0
      cases B with
      | true =>
        obtain ⟨r, e⟩ := h2 rfl
        refine exo ?_
        simp [e1, hW, e3, e4, h1', ho, ho2, e5, e9, e, hs]
      | false =>
        have e := h3 rfl
        refine exo ?_
        simp [e1, hW, e3, e4, h1', ho, ho2, e5, e9, e, hs]
    · have hb : (g0 == 0) = false := beq_eq_false_iff_ne.mpr h0
      refine exo ?_
      simp [e1, hW, e3, e4, h1', ho, ho2, e5, e9, hs, hb, h0]
  · have h1' : ¬ (ms.length : Int) = (sg.length : Int) + 1 := by omega
    have hM : isM sg ms = false := by
      unfold isM; rw [decide_eq_false h1]; rfl
    rw [hM]
    generalize ms.map D.int = W at *
    have hb : ((ms.length : Int) == (sg.length : Int) + 1) = false := beq_eq_false_iff_ne.mpr h1'
    generalize sgD sg = S at *
    refine exo ?_
    simp [e1, hW, h1', hb]
/-! other things -/
theorem judge_l (S : D) (l : List D) : ∃ r, F_judge_marks [S, .lst l] = some (.bl false, r) := by
  unfold F_judge_marks b_judge_marks
  rw [v_run2]
  refine exo ?_
  simp
theorem judge_n (S : D) : ∃ r, F_judge_marks [S, .non] = some (.bl false, r) := by
  unfold F_judge_marks b_judge_marks
  rw [v_run2]
  refine exo ?_
  simp
theorem lmarks_l (S : D) (l : List D) : ∃ r, F__law_are_marks [S, .lst l] = some (.bl false, r) := by
  unfold F__law_are_marks b__law_are_marks
  rw [v_run2]
  refine exo ?_
  simp
theorem lmarks_n (S : D) : ∃ r, F__law_are_marks [S, .non] = some (.bl false, r) := by
  unfold F__law_are_marks b__law_are_marks
  rw [v_run2]
  refine exo ?_
  simp
theorem judge_b (sg : List Int) (hn : sg.length ≤ 50) : ∃ r, F_judge_marks [sgD sg, .tup (List.replicate (sg.length + 1) (.bl true))] = some (.bl false, r) := by
  unfold F_judge_marks b_judge_marks
  rw [v_run2]
  refine exo ?_
  have e1 := len_sg sg
  have e2 := allint' (sgD sg) (.tup (List.replicate (sg.length + 1) (.bl true))) (sg.length + 1)
  have e3 := all_f (sg.length + 1) (by omega)
  generalize ((List.range (sg.length + 1)).map fun _ => D.bl false) = BB at *
  have hW : (List.replicate (sg.length + 1) (D.bl true)).length = sg.length + 1 := by simp
  generalize List.replicate (sg.length + 1) (D.bl true) = W at *
  have ho : okLen (sg.length + 1) = true := okLen_of (by omega)
  generalize sgD sg = S at *
  simp [e1, hW, ho, e2, e3]
theorem lmarks_b (sg : List Int) (hn : sg.length ≤ 50) : ∃ r, F__law_are_marks [sgD sg, .tup (List.replicate (sg.length + 1) (.bl true))] = some (.bl false, r) := by
  unfold F__law_are_marks b__law_are_marks
  rw [v_run2]
  refine exo ?_
  have e1 := len_sg sg
  have e2 := l_allb (sgD sg) (.tup (List.replicate (sg.length + 1) (.bl true))) (sg.length + 1)
  have e3 := any_tr (sg.length + 1) (by omega)
  generalize ((List.range (sg.length + 1)).map fun _ => D.bl true) = BB at *
  have hW : (List.replicate (sg.length + 1) (D.bl true)).length = sg.length + 1 := by simp
  generalize List.replicate (sg.length + 1) (D.bl true) = W at *
  have ho : okLen (sg.length + 1) = true := okLen_of (by omega)
  generalize sgD sg = S at *
  simp [e1, hW, ho, e2, e3]
/-! the marks of the table -/
theorem at_es (sg : List Int) (es : List Ent) (he : table sg = es.map some) (i : Nat) (a : Ent) (h : at_ (table sg) i = some a) : gi (es.map fun e => (e.1 : Int)) i = (a.1 : Int) := by
  rw [he] at h
  unfold at_ at h
  unfold gi
  rw [List.getD_eq_getElem?_getD, List.getElem?_map] at h ⊢
  cases hh : es[i]? with
  | none => rw [hh] at h; cases h
  | some x => rw [hh] at h; simp at h; rw [h]; rfl
theorem marks_ok (sg : List Int) (hn : sg.length ≤ 50) (es : List Ent) (he : table sg = es.map some) (hl : es.length = sg.length + 1) : isM sg (es.map fun e => (e.1 : Int)) = true := by
  have t := table_ti sg hn
  unfold isM
  rw [List.length_map, decide_eq_true hl, at_es sg es he 0 _ t.zero]
  have : ((List.range sg.length).any fun p => (phr sg p).any (bad (es.map fun e => (e.1 : Int)) p)) = false := by
    rw [List.any_eq_false]
    intro p hp
    have hp := List.mem_range.mp hp
    rw [Bool.not_eq_true, List.any_eq_false]
    intro ph hph
    obtain ⟨a, b, ea, eb, hab⟩ := t.marks p hp ph hph
    unfold bad
    rw [at_es sg es he _ _ ea, at_es sg es he _ _ eb]
    simp
    omega
  rw [this]; rfl
theorem last_good (sg : List Int) (hn : sg.length ≤ 50) (es : List Ent) (he : table sg = es.map some) (hl : es.length = sg.length + 1) : Good sg sg.length (lastE es) := by
  have t := table_ti sg hn
  refine t.good _ _ ?_
  rw [he]
  have hx : es.length - 1 = sg.length := by omega
  unfold at_ lastE
  rw [hx, List.getD_eq_getElem?_getD, List.getElem?_map, List.getElem?_eq_getElem (show sg.length < es.length by omega)]
  simp [List.getD_eq_getElem?_getD, List.getElem?_eq_getElem (show sg.length < es.length by omega)]
end K51

namespace K51
open PySem PySem.Spec PyProof.Rows L2 TL
theorem nxt (ns : List Int) (s : Dr) (h : s.ok) (m : Int) (h0 : 0 < m) (hm : m ≤ 1000000) : ∃ (v : Nat) (s' : Dr), s'.ok ∧ (v : Int) < m ∧ F__law_next [drD ns s, .int m] = some (.int (v : Int), [drD ns s', .int m]) := next_nat ns s h m h0 (by omega)
theorem sm_ok (d : D) (h : plain 7 d = true) : F__law_same [d, d] = some (.bl true, [d, d]) := same_ok 7 d h
theorem plain_ints (l : List Int) (h : l.length ≤ 1000) (n : Nat) : plain (n + 1) (.tup (l.map D.int)) = true := by
  simp only [TL.plain, Bool.and_eq_true, List.all_eq_true]
  refine ⟨okS_of (by simp; omega), fun d hd => ?_⟩
  obtain ⟨i, _, rfl⟩ := List.mem_map.mp hd
  cases n <;> rfl
theorem plain_sg (sg : List Int) (h : sg.length ≤ 1000) : plain 7 (sgD sg) = true := plain_ints sg h 6
theorem plain_rs (rs : List (Int × Nat)) (h : rs.length ≤ 1000) : plain 7 (.tup (rs.map rD)) = true := by
  simp only [TL.plain, Bool.and_eq_true, List.all_eq_true]
  refine ⟨okS_of (by simp; omega), fun d hd => ?_⟩
  obtain ⟨i, _, rfl⟩ := List.mem_map.mp hd
  rfl
theorem plain_phs (ps : List Ph) (h : ps.length ≤ 1000) : plain 7 (.tup (ps.map phD)) = true := by
  simp only [TL.plain, Bool.and_eq_true, List.all_eq_true]
  refine ⟨okS_of (by simp; omega), fun d hd => ?_⟩
  obtain ⟨i, _, rfl⟩ := List.mem_map.mp hd
  cases i <;> simp [phD, TL.plain, ok_sign, ok_copy] <;> rfl
/-! ### the signs -/
def stS (ns : List Int) (s : Dr × List Int) : Rho := [.scr ns, drD ns s.1, sgD s.2, .non, .non, .non, .non, .non, .non, .non, .non, .non, .non, .non, .non, .non]
def inS (sg : List Int) : Prop := ∀ y ∈ sg, 7 ≤ y ∧ y ≤ 9
theorem sgD_len (sg : List Int) : lenD (sgD sg) = some (.int (sg.length : Int)) := len_sg sg
theorem q1_step (ns : List Int) (s : Dr) (sg : List Int) (hs : s.ok) (hi : inS sg) (hl : sg.length ≤ 15) (d : D) : ∃ s' : Dr × List Int, (stepB (gNm 3) q1_law d (stS ns (s, sg))).bind (nxOf [3, 10]) = some (stS ns s') ∧ s'.1.ok ∧ inS s'.2 ∧ s'.2.length ≤ sg.length + 3 := by
  obtain ⟨v1, s1, o1, h1, e1⟩ := nxt ns s hs ((sg.length : Int) + 1) (by omega) (by omega)
  have el := sgD_len sg
  have ho1 : okLen (sg.length + 1) = true := okLen_of (by omega)
  unfold stS
  by_cases hz : v1 = 0
  · subst hz
    obtain ⟨v3, s3, o3, h3, e3⟩ := nxt ns s1 o1 3 (by omega) (by omega)
    refine ⟨(s3, sg ++ [7 + (v3 : Int)]), ?_, o3, ?_, by simp⟩
    · simp only [Int.ofNat_zero, Int.cast_ofNat_Int] at e1
      unfold sgD at *
      simp [q1_law, e1, e3, okLen_of (n := 1) (by omega), ho1]
    · intro y hy
      rw [List.mem_append] at hy
      rcases hy with hy | hy
      · exact hi y hy
      · have : y = 7 + (v3 : Int) := by simpa using hy
        omega
  · have hz' : ((v1 : Int) == 0) = false := by rw [beq_eq_false_iff_ne]; omega
    obtain ⟨v2, s2, o2, h2, e2⟩ := nxt ns s1 o1 2 (by omega) (by omega)
    obtain ⟨v3, s3, o3, h3, e3⟩ := nxt ns s2 o2 3 (by omega) (by omega)
    by_cases hy : v2 = 0
    · subst hy
      refine ⟨(s3, sg ++ [7 + (v3 : Int)]), ?_, o3, ?_, by simp⟩
      · simp only [Int.ofNat_zero, Int.cast_ofNat_Int] at e2
        unfold sgD at *
        simp [q1_law, e1, e2, e3, okLen_of (n := 1) (by omega), ho1, hz', -beq_iff_eq]
      · intro y hy
        rw [List.mem_append] at hy
        rcases hy with hy | hy
        · exact hi y hy
        · have : y = 7 + (v3 : Int) := by simpa using hy
          omega
    · have hy' : ((v2 : Int) == 0) = false := by rw [beq_eq_false_iff_ne]; omega
      have c1 := cut_from (sg.map D.int) ((sg.length : Int) - (v1 : Int)) (by omega)
      have c2 := cut_to ((sg.map D.int).drop ((sg.length : Int) - (v1 : Int)).toNat) (1 + (v3 : Int)) (by omega)
      rw [← List.map_drop] at c1 c2
      rw [← List.map_take] at c2
      generalize hw : ((sg.drop ((sg.length : Int) - (v1 : Int)).toNat).take (1 + (v3 : Int)).toNat) = w at c2
      have hwl : w.length ≤ 3 := by
        rw [← hw, List.length_take]; omega
      have hwm : ∀ y ∈ w, y ∈ sg := fun y hy => by
        rw [← hw] at hy
        exact List.mem_of_mem_drop (List.mem_of_mem_take hy)
      generalize sg.drop ((sg.length : Int) - (v1 : Int)).toNat = u at *
      refine ⟨(s3, sg ++ w), ?_, o3, ?_, by simp; omega⟩
      · unfold sgD at *
        simp [q1_law, e1, e2, e3, hz', hy', c1, c2, okLen_of (n := sg.length + w.length) (by omega), -beq_iff_eq]
      · intro y hy
        rw [List.mem_append] at hy
        rcases hy with hy | hy
        · exact hi y hy
        · exact hi y (hwm y hy)
theorem signs_ok (ns : List Int) (n : Nat) (hn : n ≤ 6) (s : Dr) (hs : s.ok) : ∃ s' : Dr × List Int, loopF (stepB (gNm 3) q1_law) [3, 10] ((List.range n).map fun i : Nat => D.int (i : Int)) (stS ns (s, [])) = some (.nx (stS ns s')) ∧ s'.1.ok ∧ inS s'.2 ∧ s'.2.length ≤ 18 := by
  obtain ⟨s', e, h⟩ := loop_inv (b := stepB (gNm 3) q1_law) (ks := [3, 10]) (fun i : Nat => D.int (i : Int)) (stS ns) (fun pre s => s.1.ok ∧ inS s.2 ∧ s.2.length ≤ 3 * pre.length) (List.range n) [] (s, []) ⟨hs, fun y hy => (by simp at hy), by simp⟩ fun pre a post eq t ⟨o, i, l⟩ => by
    obtain ⟨ea, hp⟩ := range_pre eq
    obtain ⟨t', e', o', i', l'⟩ := q1_step ns t.1 t.2 o i (by omega) (.int (a : Int))
    exact ⟨t', e', o', i', by simp; omega⟩
  refine ⟨s', e, h.1, h.2.1, ?_⟩
  have := h.2.2
  simp at this; omega
/-! ### runs, as the law makes them -/
theorem lrun_step (z0 z1 z2 z3 z6 z7 z8 z9 z10 z11 z12 z13 z14 z15 : D) (rs : List (Int × Nat)) (s : Int) (hl : rs.length ≤ 100000) :
    (stepB (gNm 5) q2_law (.int s) [z0, z1, z2, z3, .lst (rs.map rD), .non, z6, z7, z8, z9, z10, z11, z12, z13, z14, z15]).bind (nxOf [5]) = some [z0, z1, z2, z3, .lst ((runStep rs s).map rD), .non, z6, z7, z8, z9, z10, z11, z12, z13, z14, z15] := by
  rcases List.eq_nil_or_concat rs with h | ⟨l, ⟨x, k⟩, h⟩
  · subst h
    simp [q2_law, runStep, appOf, okLen_of (n := 2) (by omega), okLen_of (n := 1) (by omega), rD]
  · rw [List.concat_eq_append] at h
    subst h
    have e1 := last_ix (l.map rD) (rD (x, k))
    have e2 : ∀ e, setL (l.map rD ++ [rD (x, k)]) (-1) e = some (l.map rD ++ [e]) := setL_last (l.map rD) (rD (x, k))
    have hl' : l.length + 1 ≤ 100000 := by simpa using hl
    have hne : (l.map rD ++ [rD (x, k)]).isEmpty = false := by simp
    by_cases hx : x = s
    · subst hx
      simp only [rD] at e1 e2 hne
      simp [q2_law, runStep, rD, e1, setIxOf, e2, okLen_of (n := 2) (by omega), hne]
    · have hb : (x == s) = false := by rw [beq_eq_false_iff_ne]; exact hx
      simp only [rD] at e1 e2 hne
      simp [q2_law, runStep, rD, e1, hx, hb, appOf, okLen_of (n := 2) (by omega), okLen_of (n := l.length + 1 + 1) (by omega), hne, -beq_iff_eq]
theorem lruns_loop (z0 z1 z2 z3 z6 z7 z8 z9 z10 z11 z12 z13 z14 z15 : D) : ∀ (sg : List Int) (rs : List (Int × Nat)), rs.length + sg.length ≤ 100000 →
    loopF (stepB (gNm 5) q2_law) [5] (sg.map D.int) [z0, z1, z2, z3, .lst (rs.map rD), .non, z6, z7, z8, z9, z10, z11, z12, z13, z14, z15] = some (.nx [z0, z1, z2, z3, .lst ((sg.foldl runStep rs).map rD), .non, z6, z7, z8, z9, z10, z11, z12, z13, z14, z15])
  | [], rs, _ => rfl
  | s :: sg, rs, h => by
    simp only [List.length_cons] at h
    have hl := runStep_len rs s
    rw [List.map_cons, loop_go (lrun_step z0 z1 z2 z3 z6 z7 z8 z9 z10 z11 z12 z13 z14 z15 rs s (by omega)), lruns_loop z0 z1 z2 z3 z6 z7 z8 z9 z10 z11 z12 z13 z14 z15 sg _ (by omega)]
    rfl
theorem lsteps (z0 z1 z4 z5 z6 z7 z8 z9 z10 z11 z12 z13 z14 z15 : D) (sg : List Int) : lcF (stepLc [3] (gNm 3) tYesF e3_law) ((List.range sg.length).map fun i : Nat => D.int (i : Int)) [z0, z1, sgD sg, .non, z4, z5, z6, z7, z8, z9, z10, z11, z12, z13, z14, z15] =
    some ((List.range sg.length).map fun k => .int ((gi sg k - if 0 < k then gi sg (k - 1) else 0) % 256), [z0, z1, sgD sg, .non, z4, z5, z6, z7, z8, z9, z10, z11, z12, z13, z14, z15]) := by
  refine lc_all (fun i : Nat => D.int (i : Int)) _ _ _ fun k hk => ?_
  have hk := List.mem_range.mp hk
  have e1 := ix_sg sg k hk
  generalize gi sg k = a at *
  by_cases h0 : 0 < k
  · have e2 := ix_sg sg (k - 1) (by omega)
    rw [show ((k - 1 : Nat) : Int) = (k : Int) - 1 by omega] at e2
    generalize gi sg (k - 1) = b at *
    generalize sgD sg = S at *
    simp [e3_law, e1, e2, h0]
  · generalize sgD sg = S at *
    simp [e3_law, e1, h0]
end K51

namespace K51
open PySem PySem.Spec PyProof.Rows L2 TL
section
variable (ns : List Int) (sg : List Int) (hi : inS sg) (hn : sg.length ≤ 18)
/-! from the end -/
theorem p16_ok (z0 z1 z3 z4 z5 z6 z7 z8 x z10 z11 z12 z13 z14 z15 : D) (v : Bool) (h1 : ∃ l, F_judge_marks [sgD sg, x] = some (.bl v, l)) (h2 : ∃ l, F__law_are_marks [sgD sg, x] = some (.bl v, l)) : Tru p16_law [z0, z1, sgD sg, z3, z4, z5, z6, z7, z8, x, z10, z11, z12, z13, z14, z15] := by
  obtain ⟨l1, e1⟩ := h1
  obtain ⟨l2, e2⟩ := h2
  have e3 := sm_ok (.bl v) rfl
  generalize sgD sg = S at *
  exact ⟨_, by simp [p16_law, e1, e2, e3]; rfl⟩
include hn in
theorem other_ok (ms : List Int) (hm : ms.length ≤ 100) : ∃ v, (∃ l, F_judge_marks [sgD sg, .tup (ms.map D.int)] = some (.bl v, l)) ∧ ∃ l, F__law_are_marks [sgD sg, .tup (ms.map D.int)] = some (.bl v, l) :=
  ⟨_, judge_ok sg ms (by omega) (by omega), lmarks_ok sg ms (by omega) (by omega)⟩
theorem repB (k : Nat) (h1 : 1 ≤ k) (h2 : k ≤ 1000) : dMul' (.tup [.bl true]) (.int (k : Int)) = some (.tup (List.replicate k (.bl true))) := by
  unfold dMul' orG
  by_cases hk : k = 1
  · subst hk; rfl
  · have e1 : (2 : Int) ≤ (k : Int) := by omega
    have e2 : (k : Int) ≤ 1000 := by omega
    have : repL [D.bl true] k = List.replicate k (.bl true) := by
      unfold repL
      clear h1 h2 hk e1 e2
      induction k with
      | zero => rfl
      | succ k ih => rw [List.replicate_succ, List.flatten_cons, ih, List.replicate_succ]; rfl
    simp [dMul, e1, e2, this]
include hn in
theorem p14_ok (z0 z3 z4 z5 z6 z7 z8 z9 z10 z11 z12 z14 z15 : D) (s : Dr) (hs : s.ok) (ms : List Int) (hm : ms.length = sg.length + 1) :
    Tru p14_law [z0, drD ns s, sgD sg, z3, z4, z5, z6, z7, z8, z9, z10, z11, z12, .tup (ms.map D.int), z14, z15] := by
  obtain ⟨v1, s1, o1, h1, e1⟩ := nxt ns s hs (ms.length : Int) (by omega) (by omega)
  obtain ⟨v2, s2, o2, h2, e2⟩ := nxt ns s1 o1 3 (by omega) (by omega)
  obtain ⟨v3, s3, o3, h3, e3⟩ := nxt ns s2 o2 6 (by omega) (by omega)
  have el : (ms.map D.int).length = ms.length := by simp
  have hv1 : v1 < ms.length := by omega
  refine Tru.seq (ρ1 := [z0, drD ns s1, sgD sg, .int (v1 : Int), z4, z5, z6, z7, z8, z9, z10, z11, z12, .tup (ms.map D.int), z14, z15]) ?_ ?_
  · generalize ms.map D.int = W at *
    simp [el, e1]
  · have c1 := cut_to (ms.map D.int) (v1 : Int) (by omega)
    have c2 := cut_from (ms.map D.int) ((v1 : Int) + 1) (by omega)
    have c3 := cut_from (ms.map D.int) 1 (by omega)
    rw [← List.map_take] at c1
    rw [← List.map_drop] at c2 c3
    have e4 := ix_t ms v1 hv1
    rw [d_ix_t] at e4
    obtain ⟨x, hx⟩ : ∃ x : Int, dIx (.lst [.int 1, .int (-1), .int 9]) (.int (v2 : Int)) = some (.int x) := by
      have : v2 = 0 ∨ v2 = 1 ∨ v2 = 2 := by omega
      rcases this with rfl | rfl | rfl
      · exact ⟨1, rfl⟩
      · exact ⟨-1, rfl⟩
      · exact ⟨9, rfl⟩
    rw [d_ix_l] at hx
    have hA : (ms.take v1).length ≤ 19 := by rw [List.length_take]; omega
    have hB : (ms.drop (v1 + 1)).length ≤ 19 := by rw [List.length_drop]; omega
    have m1 : (D.tup ((ms.take v1 ++ [gi ms v1 + x] ++ ms.drop (v1 + 1)).map D.int)) = .tup ((ms.take v1).map D.int ++ [.int (gi ms v1 + x)] ++ (ms.drop (v1 + 1)).map D.int) := by simp
    have m2 : (D.tup ((ms ++ [0]).map D.int)) = .tup (ms.map D.int ++ [.int 0]) := by simp
    have k1 := other_ok sg hn (ms.take v1 ++ [gi ms v1 + x] ++ ms.drop (v1 + 1)) (by simp only [List.length_append, List.length_singleton]; omega)
    have k2 := other_ok sg hn (ms.drop 1) (by rw [List.length_drop]; omega)
    have k3 := other_ok sg hn (ms ++ [0]) (by simp; omega)
    have k4 := judge_b sg (by omega)
    have k5 := lmarks_b sg (by omega)
    have rb := repB (sg.length + 1) (by omega) (by omega)
    rw [m1] at k1
    rw [m2] at k3
    rw [show ((v1 : Int) + 1).toNat = v1 + 1 by omega] at c2
    rw [Int.toNat_natCast] at c1
    rw [Int.toNat_one] at c3
    have hA' : ((ms.take v1).map D.int).length ≤ 19 := by simpa using hA
    have hB' : ((ms.drop (v1 + 1)).map D.int).length ≤ 19 := by simpa using hB
    have hC' : ((ms.drop 1).map D.int).length ≤ 19 := by simp; omega
    generalize (ms.take v1).map D.int = A at *
    generalize (ms.drop (v1 + 1)).map D.int = B at *
    generalize (ms.drop 1).map D.int = C at *
    generalize ms.map D.int = W at *
    generalize gi ms v1 = g at *
    rw [← hm] at rb k4 k5
    have hl : ms.length ≤ 19 := by omega
    have step : ∀ x', sAsg (eBin dIx (eF (oLst (aCons (eBin dAdd (eBin dAdd (eSl dSl (eVar 13) pNo (pSome (eVar 3))) (eTup (aCons (eBin dAdd (eBin dIx (eVar 13) (eVar 3)) (eBin dIx (eF (oLst (aCons (eC (.int 1)) (aCons (eUn dNeg (eC (.int 1))) (aCons (eC (.int 9)) aNil))))) (eF (oCallI F__law_next 1 0 (aCons (eOwn 1) (aCons (eC (.int 3)) aNil)))))) aNil))) (eSl dSl (eVar 13) (pSome (eBin dAdd (eVar 3) (eC (.int 1)))) pNo)) (aCons (eSl dSl (eVar 13) (pSome (eC (.int 1))) pNo) (aCons (eF (oCa (f1L listD) (aCons (eVar 13) aNil))) (aCons (eC .non) (aCons (eBin dAdd (eVar 13) (eTup (aCons (eC (.int 0)) aNil))) (aCons (eBin dMul' (eTup (aCons (eC (.bl true)) aNil)) (eCa (f1 lenD) (aCons (eVar 13) aNil))) aNil)))))))) (eF (oCallI F__law_next 1 0 (aCons (eOwn 1) (aCons (eC (.int 6)) aNil))))) (gNm 9) [z0, drD ns s1, sgD sg, .int (v1 : Int), z4, z5, z6, z7, z8, z9, z10, z11, z12, .tup W, z14, z15] = some (.nx [z0, drD ns s3, sgD sg, .int (v1 : Int), z4, z5, z6, z7, z8, x', z10, z11, z12, .tup W, z14, z15]) → atI [D.tup (A ++ [.int (g + x)] ++ B), D.tup C, D.lst W, D.non, D.tup (W ++ [.int 0]), D.tup (List.replicate ms.length (.bl true))] (v3 : Int) = some x' → True := fun _ _ _ => trivial
    have six : ∀ x', atI [D.tup (A ++ [.int (g + x)] ++ B), D.tup C, D.lst W, D.non, D.tup (W ++ [.int 0]), D.tup (List.replicate ms.length (.bl true))] (v3 : Int) = some x' → (∃ v, (∃ l, F_judge_marks [sgD sg, x'] = some (.bl v, l)) ∧ ∃ l, F__law_are_marks [sgD sg, x'] = some (.bl v, l)) := by
      intro x' h
      have : v3 = 0 ∨ v3 = 1 ∨ v3 = 2 ∨ v3 = 3 ∨ v3 = 4 ∨ v3 = 5 := by omega
      rcases this with rfl | rfl | rfl | rfl | rfl | rfl <;> cases h
      · exact k1
      · exact k2
      · exact ⟨false, judge_l _ _, lmarks_l _ _⟩
      · exact ⟨false, judge_n _, lmarks_n _⟩
      · exact k3
      · exact ⟨false, k4, k5⟩
    obtain ⟨x', hx'⟩ : ∃ x', atI [D.tup (A ++ [.int (g + x)] ++ B), D.tup C, D.lst W, D.non, D.tup (W ++ [.int 0]), D.tup (List.replicate ms.length (.bl true))] (v3 : Int) = some x' := by
      have : v3 = 0 ∨ v3 = 1 ∨ v3 = 2 ∨ v3 = 3 ∨ v3 = 4 ∨ v3 = 5 := by omega
      rcases this with rfl | rfl | rfl | rfl | rfl | rfl <;> exact ⟨_, rfl⟩
    obtain ⟨v, j1, j2⟩ := six x' hx'
    refine Tru.seq (ρ1 := [z0, drD ns s3, sgD sg, .int (v1 : Int), z4, z5, z6, z7, z8, x', z10, z11, z12, .tup W, z14, z15]) ?_ (p16_ok sg _ _ _ _ _ _ _ _ x' _ _ _ _ _ _ v j1 j2)
    clear six step j1 j2 k1 k2 k3 k4 k5 m1 m2
    generalize List.replicate ms.length (D.bl true) = RB at *
    generalize sgD sg = S at *
    simp only [List.append_assoc, List.cons_append, List.nil_append] at hx'
    simp [c1, c2, c3, e4, hx, e2, e3, okLen_of (n := 1) (by omega), okLen_of (n := 3) (by omega), okLen_of (n := 6) (by omega), okLen_of (n := A.length + 1) (by omega), okLen_of (n := A.length + (1 + B.length)) (by omega), okLen_of (n := A.length + 1 + B.length) (by omega), el, okLen_of (n := ms.length + 1) (by omega), rb, hx']
end
end K51

namespace K51
open PySem PySem.Spec PyProof.Rows L2 TL
theorem lastD (sg : List Int) (es : List Ent) (he : table sg = es.map some) (hl : es.length = sg.length + 1) : dIx (tabD (table sg)) (.int (-1)) = some (.tup [.int ((lastE es).1 : Int), .int ((lastE es).2.1 : Int), .tup ((lastE es).2.2.map phD)]) := by
  have e3 : tabD (table sg) = .lst (es.map entD) := by
    unfold tabD
    rw [he, List.map_map]; rfl
  rw [e3, d_ix_l]
  unfold atI ixN
  rw [if_neg (by omega), if_pos (by simp; omega)]
  have e : ((-1 : Int) + ((es.map entD).length : Int)).toNat = es.length - 1 := by simp; omega
  rw [e, Option.bind_some, List.getElem?_map, List.getElem?_eq_getElem (by omega)]
  simp [lastE, List.getD_eq_getElem?_getD, List.getElem?_eq_getElem (show es.length - 1 < es.length by omega), entD]
theorem lastM (es : List Ent) (h : 0 < es.length) : atI (es.map fun e : Ent => D.int (e.1 : Int)) (-1) = some (.int ((lastE es).1 : Int)) := by
  unfold atI ixN
  rw [if_neg (by omega), if_pos (by simp; omega)]
  have e : ((-1 : Int) + ((es.map fun e : Ent => D.int (e.1 : Int)).length : Int)).toNat = es.length - 1 := by simp; omega
  rw [e, Option.bind_some, List.getElem?_map, List.getElem?_eq_getElem (by omega)]
  simp [lastE, List.getD_eq_getElem?_getD, List.getElem?_eq_getElem (show es.length - 1 < es.length by omega)]
theorem p10_ok (ns sg : List Int) (hi : inS sg) (hn : sg.length ≤ 18) (z0 z3 z4 z5 z6 z8 z9 z10 z11 z12 z13 z14 z15 : D) (s : Dr) (hs : s.ok) :
    Tru p10_law [z0, drD ns s, sgD sg, z3, z4, z5, z6, tabD (table sg), z8, z9, z10, z11, z12, z13, z14, z15] := by
  obtain ⟨es, he, hl⟩ := table_all sg (by omega)
  have g := last_good sg (by omega) es he hl
  have e1 := cheap_ok sg (by omega) es he hl
  have e2 := lastD sg es he hl
  have e3 := lastM es (by omega)
  have em : (es.map fun e : Ent => D.int (e.1 : Int)) = (es.map fun e : Ent => (e.1 : Int)).map D.int := by simp
  have hml : (es.map fun e : Ent => (e.1 : Int)).length = sg.length + 1 := by simpa using hl
  have hM := marks_ok sg (by omega) es he hl
  obtain ⟨l1, j1⟩ := judge_ok sg (es.map fun e : Ent => (e.1 : Int)) (by omega) (by omega)
  obtain ⟨l2, j2⟩ := lmarks_ok sg (es.map fun e : Ent => (e.1 : Int)) (by omega) (by omega)
  rw [hM, ← em] at j1 j2
  have k14 := fun z7 => p14_ok ns sg hn z0 z3 z4 z5 z6 z7 z8 z9 z10 z11 (.tup ((lastE es).2.2.map phD)) z14 z15 s hs (es.map fun e : Ent => (e.1 : Int)) hml
  rw [← em] at k14
  have hpl : (lastE es).2.2.length ≤ 18 := Nat.le_trans g.len hn
  have s1 := sm_ok (.tup ((lastE es).2.2.map phD)) (plain_phs _ (by omega))
  have c1 := cost_ok (lastE es).2.2 (by omega)
  rw [← g.tot] at c1
  have s2 := sm_ok (.int ((lastE es).1 : Int)) rfl
  have c2 := told_ok (lastE es).2.2 g.snd (by omega)
  rw [g.tl, List.take_length] at c2
  have s3 := sm_ok (sgD sg) (plain_sg sg (by omega))
  have c3 := sound_ok (lastE es).2.2 g.snd
  have c4 := unsound_ok (lastE es).2.2
  rw [List.map_cons] at c4
  have e5 : phD (.copy 1 2) = .tup [.str "copy", .int 1, .int 2] := rfl
  rw [e5] at c4
  have c2' : F_told_signs [.tup ((lastE es).2.2.map phD)] = some (sgD sg, [.tup ((lastE es).2.2.map phD)]) := c2
  clear c2 em hM he
  have hPl : ((lastE es).2.2.map phD).length ≤ 18 := by simpa using hpl
  generalize (es.map fun e : Ent => D.int (e.1 : Int)) = M at *
  generalize (lastE es).2.2.map phD = P at *
  generalize ((lastE es).1 : Int) = L1 at *
  generalize ((lastE es).2.1 : Int) = L2' at *
  have k14' := k14 (tabD (table sg))
  generalize tabD (table sg) = T at *
  refine Tru.seq (ρ1 := [z0, drD ns s, sgD sg, z3, z4, z5, z6, T, z8, z9, z10, z11, .tup P, .tup M, z14, z15]) ?_ ?_
  · generalize sgD sg = S at *
    simp [e1]
  refine Tru.seq (ρ1 := [z0, drD ns s, sgD sg, z3, z4, z5, z6, T, z8, z9, z10, z11, .tup P, .tup M, z14, z15]) ?_ ?_
  · generalize sgD sg = S at *
    simp [e2, s1, s2, s3, c1, c2']
  refine Tru.seq (ρ1 := [z0, drD ns s, sgD sg, z3, z4, z5, z6, T, z8, z9, z10, z11, .tup P, .tup M, z14, z15]) ?_ ?_
  · generalize sgD sg = S at *
    simp [c3, c4, okLen_of (n := 3) (by omega), okLen_of (n := 1) (by omega), okLen_of (n := 1 + P.length) (by omega)]
  refine Tru.seq (ρ1 := [z0, drD ns s, sgD sg, z3, z4, z5, z6, T, z8, z9, z10, z11, .tup P, .tup M, z14, z15]) ?_ k14'
  · generalize sgD sg = S at *
    simp [j1, j2, e2, e3]
theorem p8_ok (ns sg : List Int) (hi : inS sg) (hn : sg.length ≤ 18) (z0 z3 z4 z5 z6 z7 z9 z10 : D) (s : Dr) (hs : s.ok) :
    Tru p8_law [z0, drD ns s, sgD sg, z3, z4, z5, z6, z7, .non, z9, z10, .non, .non, .non, .non, .non] := by
  have e1 := len_sg sg
  have rb : dMul' (.lst [.non]) (.int (sg.length : Int)) = some (.lst (List.replicate sg.length .non)) := by
    have e4 : repL [D.non] sg.length = List.replicate sg.length .non := by
      unfold repL
      generalize sg.length = n
      clear e1
      induction n with
      | zero => rfl
      | succ n ih => rw [List.replicate_succ, List.flatten_cons, ih, List.replicate_succ]; rfl
    simp [dMul', orG, dMul, s62_of (i := (sg.length : Int)) (by omega) (by omega), okLen_of (n := sg.length) (by omega), e4]
  have e2 : tabD (tab0 sg.length) = .lst (.tup [.int 0, .int 0, .tup []] :: List.replicate sg.length .non) := by
    simp [tabD, tab0, oeD, entD]
  have e3 := law_loop z0 (drD ns s) z3 z4 z5 z6 z9 z10 .non .non sg (by omega)
  refine Tru.seq (ρ1 := [z0, drD ns s, sgD sg, z3, z4, z5, z6, tabD (tab0 sg.length), .non, z9, z10, .non, .non, .non, .non, .non]) ?_ ?_
  · rw [e2]
    generalize sgD sg = S at *
    simp [e1, rb, okLen_of (n := 0) (by omega), okLen_of (n := 1) (by omega), okLen_of (n := 3) (by omega), okLen_of (n := 1 + sg.length) (by omega), okLen_of (n := sg.length + 1) (by omega)]
  refine Tru.seq (ρ1 := [z0, drD ns s, sgD sg, z3, z4, z5, z6, tabD (table sg), .non, z9, z10, .non, .non, .non, .non, .non]) ?_ (p10_ok ns sg hi hn _ _ _ _ _ _ _ _ _ _ _ _ _ s hs)
  · generalize tabD (tab0 sg.length) = T0 at *
    generalize tabD (table sg) = T at *
    generalize sgD sg = S at *
    simp [e1, s62_of (i := (sg.length : Int)) (by omega) (by omega), intsD0, e3]
theorem p3_ok (ns sg : List Int) (hi : inS sg) (hn : sg.length ≤ 18) (s : Dr) (hs : s.ok) : Tru p3_law (stS ns (s, sg)) := by
  unfold stS
  have hb : ∀ y ∈ sg, 0 ≤ y ∧ y < 256 := fun y hy => by have := hi y hy; omega
  have e1 := len_sg sg
  have r1 := lruns_loop (.scr ns) (drD ns s) (sgD sg) .non .non .non .non .non .non .non .non .non .non .non sg [] (by simp; omega)
  have r2 := runs_ok sg (by omega)
  have r3 := sruns_ok (runs sg) (pos_runs sg [] (fun r hr => by simp at hr)) (by
    have := expand_runs sg []
    unfold runs
    rw [this]; simp [expand]; omega)
  have r4 : expand (runs sg) = sg := by
    have := expand_runs sg []
    unfold runs
    rw [this]; simp [expand]
  rw [r4] at r3
  have hrl : (runs sg).length ≤ 18 := by
    have := runs_len sg []
    unfold runs; simp at this; omega
  have s1 := sm_ok (.tup ((runs sg).map rD)) (plain_rs _ (by omega))
  have s3 := sm_ok (sgD sg) (plain_sg sg (by omega))
  have t1 := fun z4 => lsteps (.scr ns) (drD ns s) z4 .non .non .non .non .non .non .non .non .non .non .non sg
  have t2 : ((List.range sg.length).map fun k => D.int ((gi sg k - if 0 < k then gi sg (k - 1) else 0) % 256)) = (stepsF sg).map D.int := by
    rw [← steps_law sg hb, List.map_map]; rfl
  have t3 := steps_ok sg (by omega)
  have t4 := ssteps_ok sg hb (by omega)
  have hsl : (stepsF sg).length ≤ 1000 := by
    rw [← steps_law sg hb]; simp; omega
  have s4 := sm_ok (.tup ((stepsF sg).map D.int)) (plain_ints _ hsl 6)
  rw [t2] at t1
  have eS : seqD (.v (sgD sg)) = some (sg.map D.int) := rfl
  simp only [List.map_nil] at r1
  have eR : sg.foldl runStep [] = runs sg := rfl
  rw [eR] at r1
  have k8 := fun z4 z6 => p8_ok ns sg hi hn (.scr ns) .non z4 .non z6 .non .non .non s hs
  have ho := s62_of (i := (sg.length : Int)) (by omega) (by omega)
  have ho2 := okLen_of (n := sg.length) (by omega)
  generalize (runs sg).map rD = R at *
  generalize (stepsF sg).map D.int = ST at *
  refine Tru.seq (ρ1 := [.scr ns, drD ns s, sgD sg, .non, .lst [], .non, .non, .non, .non, .non, .non, .non, .non, .non, .non, .non]) (by simp [okLen_of (n := 0) (by omega)]) ?_
  refine Tru.seq (ρ1 := [.scr ns, drD ns s, sgD sg, .non, .lst R, .non, .non, .non, .non, .non, .non, .non, .non, .non, .non, .non]) ?_ ?_
  · generalize sg.map D.int = W at *
    generalize sgD sg = S at *
    simp [eS, r1]
  refine Tru.seq (ρ1 := [.scr ns, drD ns s, sgD sg, .non, .lst R, .non, .non, .non, .non, .non, .non, .non, .non, .non, .non, .non]) ?_ ?_
  · generalize sgD sg = S at *
    simp [r2, r3, s1, s3]
  refine Tru.seq (ρ1 := [.scr ns, drD ns s, sgD sg, .non, .lst R, .non, .tup ST, .non, .non, .non, .non, .non, .non, .non, .non, .non]) ?_ ?_
  · generalize sgD sg = S at *
    simp [e1, ho, ho2, intsD0, t1]
  refine Tru.seq (ρ1 := [.scr ns, drD ns s, sgD sg, .non, .lst R, .non, .tup ST, .non, .non, .non, .non, .non, .non, .non, .non, .non]) ?_ (k8 _ _)
  · generalize sgD sg = S at *
    simp [t3, t4, s3, s4]
theorem law_true : lawF F_law := by
  intro ns _
  have e0 := draw_ok ns
  have e0' : F__law_draw [.scr ns] = some (drD ns Dr0, [.scr ns]) := e0
  refine Tru.law (b := b_law) (m := 15) ?_
  obtain ⟨v1, s1, o1, h1, e1⟩ := nxt ns Dr0 Dr0.ok 7 (by omega) (by omega)
  obtain ⟨⟨s2, sg⟩, e2, o2, i2, l2⟩ := signs_ok ns v1 (by omega) s1 o1
  have k := p3_ok ns sg i2 l2 s2 o2
  unfold b_law
  refine Tru.seq (ρ1 := [.scr ns, drD ns Dr0, .non, .non, .non, .non, .non, .non, .non, .non, .non, .non, .non, .non, .non, .non]) (by simp [e0']) ?_
  refine Tru.seq (ρ1 := [.scr ns, drD ns Dr0, sgD [], .non, .non, .non, .non, .non, .non, .non, .non, .non, .non, .non, .non, .non]) (by simp [sgD, okLen_of (n := 0) (by omega)]) ?_
  refine Tru.seq (ρ1 := stS ns (s2, sg)) ?_ k
  have e3 : stS ns (s1, []) = [.scr ns, drD ns s1, sgD [], .non, .non, .non, .non, .non, .non, .non, .non, .non, .non, .non, .non, .non] := rfl
  rw [e3] at e2
  generalize sgD [] = S0 at *
  generalize stS ns (s2, sg) = E at *
  simp [e1, s62_of (i := (v1 : Int)) (by omega) (by omega), intsD0, e2]
end K51

open PySem PySem.W PyProof.Rows
set_option maxHeartbeats 0 in
theorem PySem.Challenge.cw_farcall_k51_phrases_and_marks_holds : PySem.Challenge.rw_farcall_k51_phrases_and_marks.Holds := by
  w_on; o_law; k_head; (case hw => w_witness2)
  k_fill
  refine L2.walk_of (l := PySem.Challenge.rw_farcall_k51_phrases_and_marks) (n := 63) (k := 10) (x := "script") (CX := fun _ => L2.CX0) (sp := fun w => TL.spL _) rfl (by decide) rfl ⟨rfl, by decide, by decide⟩ (fun w h Y => PySem.W.kIn_of Y) ?F (fun _ _ a ns hl _ hS => ⟨a, ns, rfl, hS, hl, fun _ => rfl⟩) (fun _ _ _ _ _ h => h)
  case F =>
    intro w mg fa h KX G hmg
    refine' TL.toL K51.law_true (K51.all_mk KX G hmg ?a0 ?l0 ?c0 ?k0 ?a1 ?l1 ?c1 ?k1 ?a2 ?l2 ?c2 ?k2 ?a3 ?l3 ?c3 ?k3 ?a4 ?l4 ?c4 ?k4 ?a5 ?l5 ?c5 ?k5 ?a6 ?l6 ?c6 ?k6 ?a7 ?l7 ?c7 ?k7 ?a8 ?l8 ?c8 ?k8 ?a9 ?l9 ?c9 ?k9 ?a10 ?l10 ?c10 ?k10 ?a11 ?l11 ?c11 ?k11 ?a12 ?l12 ?c12 ?k12 ?a13 ?l13 ?c13 ?k13 ?a14 ?l14 ?c14 ?k14 ?a15 ?l15 ?c15 ?k15 ?a16 ?l16 ?c16 ?k16 ?a17 ?l17 ?c17 ?k17 ?a18 ?l18 ?c18 ?k18 ?a19 ?l19 ?c19 ?k19 ?a20 ?l20 ?c20 ?k20 ?a21 ?l21 ?c21 ?k21 ?z0 ?z1 ?z2 ?z3 ?z4 ?z5 ?z6 ?z7 ?z8 ?z9 ?z10 ?z11 ?z12 ?z13 ?m0 ?m1 ?m2 ?m3)
    (case a0 => k_is); (case l0 => k_is); (case c0 => k_is); (case k0 => k_is); (case a1 => k_is); (case l1 => k_is); (case c1 => k_is); (case k1 => k_is); (case a2 => k_is); (case l2 => k_is); (case c2 => k_is); (case k2 => k_is); (case a3 => k_is); (case l3 => k_is); (case c3 => k_is); (case k3 => k_is); (case a4 => k_is); (case l4 => k_is); (case c4 => k_is); (case k4 => k_is); (case a5 => k_is); (case l5 => k_is); (case c5 => k_is); (case k5 => k_is); (case a6 => k_is); (case l6 => k_is); (case c6 => k_is); (case k6 => k_is); (case a7 => k_is); (case l7 => k_is); (case c7 => k_is); (case k7 => k_is); (case a8 => k_is); (case l8 => k_is); (case c8 => k_is); (case k8 => k_is); (case a9 => k_is); (case l9 => k_is); (case c9 => k_is); (case k9 => k_is); (case a10 => k_is); (case l10 => k_is); (case c10 => k_is); (case k10 => k_is); (case a11 => k_is); (case l11 => k_is); (case c11 => k_is); (case k11 => k_is); (case a12 => k_is); (case l12 => k_is); (case c12 => k_is); (case k12 => k_is); (case a13 => k_is); (case l13 => k_is); (case c13 => k_is); (case k13 => k_is); (case a14 => k_is); (case l14 => k_is); (case c14 => k_is); (case k14 => k_is); (case a15 => k_is); (case l15 => k_is); (case c15 => k_is); (case k15 => k_is); (case a16 => k_is); (case l16 => k_is); (case c16 => k_is); (case k16 => k_is); (case a17 => k_is); (case l17 => k_is); (case c17 => k_is); (case k17 => k_is); (case a18 => k_is); (case l18 => k_is); (case c18 => k_is); (case k18 => k_is); (case a19 => k_is); (case l19 => k_is); (case c19 => k_is); (case k19 => k_is); (case a20 => k_is); (case l20 => k_is); (case c20 => k_is); (case k20 => k_is); (case a21 => k_is); (case l21 => k_is); (case c21 => k_is); (case k21 => k_is); (case z0 => k_is); (case z1 => k_is); (case z2 => k_is); (case z3 => k_is); (case z4 => k_is); (case z5 => k_is); (case z6 => k_is); (case z7 => k_is); (case z8 => k_is); (case z9 => k_is); (case z10 => k_is); (case z11 => k_is); (case z12 => k_is); (case z13 => k_is); (case m0 => k_is); (case m1 => k_is); (case m2 => k_is); (case m3 => k_is)

