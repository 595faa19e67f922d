import PyProof.Rows.All
import HandS.ForMost
import HandS.TupAny
import HandS.TupLe
import HandS.Deep
import HandS.Style
import HandS.Wide
import HandS.Flow
import HandS.IsInst
import HandS.SortInts
import HandS.TupMul
import HandS.SortRule
import HandS.Zip
import PySem.Challenge.RW_farcall_k52_pictures_coarse_first
set_option Elab.async false
set_option linter.all false
set_option maxRecDepth 100000
set_option maxHeartbeats 4000000
namespace TL
open PySem PySem.Spec PyProof.Rows L2

/-! ### data as trees -/
inductive D where
  | non | bl (b : Bool) | int (i : Int) | str (s : Str)
  | tup (l : List D) | lst (l : List D) | dct (l : List (D × D)) | set (l : List D) | obj (c : Str) (l : List (Str × D)) | scr (ns : List Int)
  deriving Inhabited

def keyD : Key → D
  | .inl i => .int i
  | .inr s => .str s
def keysD (k : List Key) : D := .tup (k.map keyD)

/-! ### what is kept apart -/
def hide (S : List Addr) (H : Hp) : Hp := fun a => if a ∈ S then none else H a
def Le (G G' : Hp) : Prop := ∀ a o, G a = some o → G' a = some o
theorem Le.refl (G : Hp) : Le G G := fun _ _ h => h
theorem Le.trans {A B C : Hp} (h : Le A B) (k : Le B C) : Le A C := fun a o e => k a o (h a o e)
theorem hide_le (S : List Addr) (H : Hp) : Le (hide S H) H := fun a o e => by
  unfold hide at e
  by_cases h : a ∈ S
  · simp [h] at e
  · simpa [h] using e
theorem hide_some {S : List Addr} {H : Hp} {a : Addr} {o : HO} : hide S H a = some o ↔ a ∉ S ∧ H a = some o := by
  unfold hide
  by_cases h : a ∈ S <;> simp [h]
theorem hide_mono {S S' : List Addr} {H H' : Hp} (hS : ∀ a o, a ∉ S → H a = some o → a ∉ S' ∧ H' a = some o) : Le (hide S H) (hide S' H') := fun a o e => by
  rw [hide_some] at e ⊢
  exact hS a o e.1 e.2
theorem Le.seqT {K : PySem.W.Frag} {G G' : Hp} {a : Addr} {xs : List V} (e : Le G G') (h : SqT K G a xs) : SqT K G' a xs := by
  rcases h with (h | ⟨o, h⟩) | h
  · exact .inl (.inl (e _ _ h))
  · exact .inl (.inr ⟨o, e _ _ h⟩)
  · exact .inr h

theorem Le.seqL {K : PySem.W.Frag} {G G' : Hp} {a : Addr} {xs : List V} (e : Le G G') (h : SqL K G a xs) : SqL K G' a xs := by
  rcases h with (h | ⟨o, h⟩) | h
  · exact .inl (.inl (e _ _ h))
  · exact .inl (.inr ⟨o, e _ _ h⟩)
  · exact .inr h

/-! ### frozen trees -/
mutual
inductive Rf (K : PySem.W.Frag) (mg : Str → Option Value) (G : Hp) : D → V → Prop
  | non : Rf K mg G .non .non
  | bl (b : Bool) : Rf K mg G (.bl b) (.bl b)
  | int (i : Int) : Rf K mg G (.int i) (.int i)
  | str (s : Str) : Rf K mg G (.str s) (.str s)
  | tup {a : Addr} {vs : List V} {ds : List D} : SqT K G a vs → Rfs K mg G ds vs → Rf K mg G (.tup ds) (.ref a)
  | lst {a : Addr} {vs : List V} {ds : List D} : G a = some (.lst vs) → Rfs K mg G ds vs → Rf K mg G (.lst ds) (.ref a)
  | dK {a : Addr} {kvs : List (Key × V)} {kds : List (D × D)} : G a = some (.dK kvs) → kds.map (·.1) = kvs.map (fun p => keyD p.1) → Rfs K mg G (kds.map (·.2)) (kvs.map (·.2)) → Rf K mg G (.dct kds) (.ref a)
  | dT {a : Addr} {kvs : List (List Key × V)} {kds : List (D × D)} : G a = some (.dT kvs) → kds.map (·.1) = kvs.map (fun p => keysD p.1) → Rfs K mg G (kds.map (·.2)) (kvs.map (·.2)) → Rf K mg G (.dct kds) (.ref a)
  | obj {a C dx : Addr} {fvs : List (Str × V)} {fds : List (Str × D)} {c : Str} : mg c = some (.ref C) → G a = some (.ins C dx fvs) → fds.map (·.1) = fvs.map (·.1) → Rfs K mg G (fds.map (·.2)) (fvs.map (·.2)) → Rf K mg G (.obj c fds) (.ref a)
  | scr {a : Addr} {ns : List Int} : SqL K G a (ns.map V.int) → Rf K mg G (.scr ns) (.ref a)
inductive Rfs (K : PySem.W.Frag) (mg : Str → Option Value) (G : Hp) : List D → List V → Prop
  | nil : Rfs K mg G [] []
  | cons {d : D} {v : V} {ds : List D} {vs : List V} : Rf K mg G d v → Rfs K mg G ds vs → Rfs K mg G (d :: ds) (v :: vs)
end

section
variable {K : PySem.W.Frag} {mg : Str → Option Value} {G G' : Hp}
mutual
theorem Rf.mono (e : Le G G') : ∀ {d : D} {v : V}, Rf K mg G d v → Rf K mg G' d v
  | _, _, .non => .non
  | _, _, .bl b => .bl b
  | _, _, .int i => .int i
  | _, _, .str s => .str s
  | _, _, .tup h r => .tup (e.seqT h) (Rfs.mono e r)
  | _, _, .lst h r => .lst (e _ _ h) (Rfs.mono e r)
  | _, _, .dK h k r => .dK (e _ _ h) k (Rfs.mono e r)
  | _, _, .dT h k r => .dT (e _ _ h) k (Rfs.mono e r)
  | _, _, .obj m h k r => .obj m (e _ _ h) k (Rfs.mono e r)
  | _, _, .scr h => .scr (e.seqL h)
theorem Rfs.mono (e : Le G G') : ∀ {ds : List D} {vs : List V}, Rfs K mg G ds vs → Rfs K mg G' ds vs
  | _, _, .nil => .nil
  | _, _, .cons h r => .cons (Rf.mono e h) (Rfs.mono e r)
end
theorem Rfs.length : ∀ {ds : List D} {vs : List V}, Rfs K mg G ds vs → ds.length = vs.length
  | _, _, .nil => rfl
  | _, _, .cons _ r => congrArg (· + 1) (Rfs.length r)
theorem Rfs.get : ∀ {ds : List D} {vs : List V} {i : Nat} {d : D}, Rfs K mg G ds vs → ds[i]? = some d → ∃ v, vs[i]? = some v ∧ Rf K mg G d v
  | _, _, 0, _, .cons h _, e => ⟨_, rfl, by simpa using (Option.some.inj e) ▸ h⟩
  | _, _, i + 1, _, .cons _ r, e => Rfs.get (i := i) r (by simpa using e)
  | _, _, _, _, .nil, e => by simp at e
theorem Rfs.get' {ds : List D} {vs : List V} {i : Nat} {v : V} (r : Rfs K mg G ds vs) (e : vs[i]? = some v) : ∃ d, ds[i]? = some d ∧ Rf K mg G d v := by
  have hl := r.length
  have hi : i < ds.length := by
    have := (List.getElem?_eq_some_iff.mp e).1
    omega
  obtain ⟨v', e', q⟩ := Rfs.get r (List.getElem?_eq_getElem hi)
  rw [e] at e'; cases e'
  exact ⟨_, List.getElem?_eq_getElem hi, q⟩
theorem Rfs.append : ∀ {ds es : List D} {vs ws : List V}, Rfs K mg G ds vs → Rfs K mg G es ws → Rfs K mg G (ds ++ es) (vs ++ ws)
  | _, _, _, _, .nil, s => s
  | _, _, _, _, .cons h r, s => .cons h (Rfs.append r s)
theorem Rfs.take : ∀ {ds : List D} {vs : List V} (n : Nat), Rfs K mg G ds vs → Rfs K mg G (ds.take n) (vs.take n)
  | _, _, 0, _ => by simpa using Rfs.nil
  | _, _, _ + 1, .nil => .nil
  | _, _, n + 1, .cons h r => .cons h (Rfs.take n r)
theorem Rfs.drop : ∀ {ds : List D} {vs : List V} (n : Nat), Rfs K mg G ds vs → Rfs K mg G (ds.drop n) (vs.drop n)
  | _, _, 0, r => r
  | _, _, _ + 1, .nil => .nil
  | _, _, n + 1, .cons _ r => Rfs.drop n r
theorem Rfs.set : ∀ {ds : List D} {vs : List V} {d : D} {v : V} (i : Nat), Rfs K mg G ds vs → Rf K mg G d v → Rfs K mg G (ds.set i d) (vs.set i v)
  | _, _, _, _, _, .nil, _ => .nil
  | _, _, _, _, 0, .cons _ r, h => .cons h r
  | _, _, _, _, i + 1, .cons q r, h => .cons q (Rfs.set i r h)
theorem Rfs.one {d : D} {v : V} (h : Rf K mg G d v) : Rfs K mg G [d] [v] := .cons h .nil
theorem Rfs.reverse : ∀ {ds : List D} {vs : List V}, Rfs K mg G ds vs → Rfs K mg G ds.reverse vs.reverse
  | _, _, .nil => .nil
  | _, _, .cons h r => by
    rw [List.reverse_cons, List.reverse_cons]
    exact (Rfs.reverse r).append (.one h)
theorem Rfs.rep {ds : List D} {vs : List V} (h : Rfs K mg G ds vs) : ∀ n : Nat, Rfs K mg G (List.replicate n ds).flatten (List.replicate n vs).flatten
  | 0 => .nil
  | n + 1 => by
    rw [List.replicate_succ, List.replicate_succ, List.flatten_cons, List.flatten_cons]
    exact h.append (Rfs.rep h n)
theorem Rfs.ints : ∀ {ns : List Int} {vs : List V}, Rfs K mg G (ns.map D.int) vs → vs = ns.map V.int
  | [], _, .nil => rfl
  | _ :: _, _, .cons (.int _) r => congrArg _ (Rfs.ints r)
theorem Rfs.of_ints : ∀ (ns : List Int), Rfs K mg G (ns.map D.int) (ns.map V.int)
  | [] => .nil
  | n :: r => .cons (.int n) (Rfs.of_ints r)
theorem Rfs.bls : ∀ {ns : List Bool} {vs : List V}, Rfs K mg G (ns.map D.bl) vs → vs = ns.map V.bl
  | [], _, .nil => rfl
  | _ :: _, _, .cons (.bl _) r => congrArg _ (Rfs.bls r)
end

/-! ### kinds of slots; trees with owned parts -/
inductive Ty where
  | no | sh | oL (t : Ty) | oK (t : Ty) | oT (t : Ty) | oO (c : Str) (l : List Ty)
  deriving Inhabited

mutual
inductive Rp (K : PySem.W.Frag) (mg : Str → Option Value) (H G : Hp) : Ty → D → V → List Addr → Prop
  | sh {d : D} {v : V} : Rf K mg G d v → Rp K mg H G .sh d v []
  | oL {t : Ty} {a : Addr} {vs : List V} {ds : List D} {f : List Addr} : H a = some (.lst vs) → Rps K mg H G (List.replicate ds.length t) ds vs f → Rp K mg H G (.oL t) (.lst ds) (.ref a) (a :: f)
  | oK {t : Ty} {a : Addr} {kvs : List (Key × V)} {kds : List (D × D)} {f : List Addr} : H a = some (.dK kvs) → kds.map (·.1) = kvs.map (fun p => keyD p.1) →
      Rps K mg H G (List.replicate kds.length t) (kds.map (·.2)) (kvs.map (·.2)) f → Rp K mg H G (.oK t) (.dct kds) (.ref a) (a :: f)
  | oT {t : Ty} {a : Addr} {kvs : List (List Key × V)} {kds : List (D × D)} {f : List Addr} : H a = some (.dT kvs) → kds.map (·.1) = kvs.map (fun p => keysD p.1) →
      Rps K mg H G (List.replicate kds.length t) (kds.map (·.2)) (kvs.map (·.2)) f → Rp K mg H G (.oT t) (.dct kds) (.ref a) (a :: f)
  | oO {ts : List Ty} {a C dx : Addr} {fvs : List (Str × V)} {fds : List (Str × D)} {c : Str} {f : List Addr} : mg c = some (.ref C) → H a = some (.ins C dx fvs) → fds.map (·.1) = fvs.map (·.1) →
      Rps K mg H G ts (fds.map (·.2)) (fvs.map (·.2)) f → Rp K mg H G (.oO c ts) (.obj c fds) (.ref a) (a :: f)
inductive Rps (K : PySem.W.Frag) (mg : Str → Option Value) (H G : Hp) : List Ty → List D → List V → List Addr → Prop
  | nil : Rps K mg H G [] [] [] []
  | cons {t : Ty} {d : D} {v : V} {f g : List Addr} {ts : List Ty} {ds : List D} {vs : List V} : Rp K mg H G t d v f → Rps K mg H G ts ds vs g → Rps K mg H G (t :: ts) (d :: ds) (v :: vs) (f ++ g)
end

section
variable {K : PySem.W.Frag} {mg : Str → Option Value} {H H' G G' : Hp}
mutual
theorem Rp.mono (e : Le G G') : ∀ {t : Ty} {d : D} {v : V} {f : List Addr}, (∀ a ∈ f, H' a = H a) → Rp K mg H G t d v f → Rp K mg H' G' t d v f
  | _, _, _, _, _, .sh r => .sh (r.mono e)
  | _, _, _, _, k, .oL h r => .oL ((k _ (by simp)).trans h) (Rps.mono e (fun a ha => k a (List.mem_cons_of_mem _ ha)) r)
  | _, _, _, _, k, .oK h n r => .oK ((k _ (by simp)).trans h) n (Rps.mono e (fun a ha => k a (List.mem_cons_of_mem _ ha)) r)
  | _, _, _, _, k, .oT h n r => .oT ((k _ (by simp)).trans h) n (Rps.mono e (fun a ha => k a (List.mem_cons_of_mem _ ha)) r)
  | _, _, _, _, k, .oO m h n r => .oO m ((k _ (by simp)).trans h) n (Rps.mono e (fun a ha => k a (List.mem_cons_of_mem _ ha)) r)
theorem Rps.mono (e : Le G G') : ∀ {ts : List Ty} {ds : List D} {vs : List V} {f : List Addr}, (∀ a ∈ f, H' a = H a) → Rps K mg H G ts ds vs f → Rps K mg H' G' ts ds vs f
  | _, _, _, _, _, .nil => .nil
  | _, _, _, _, k, .cons h r => .cons (Rp.mono e (fun a ha => k a (List.mem_append_left _ ha)) h) (Rps.mono e (fun a ha => k a (List.mem_append_right _ ha)) r)
end
mutual
/-- the owned parts given away: a frozen tree -/
theorem Rp.frz (e : Le G G') : ∀ {t : Ty} {d : D} {v : V} {f : List Addr}, (∀ a ∈ f, ∀ o, H a = some o → G' a = some o) → Rp K mg H G t d v f → Rf K mg G' d v
  | _, _, _, _, _, .sh r => r.mono e
  | _, _, _, _, k, .oL h r => .lst (k _ (by simp) _ h) (Rps.frz e (fun a ha => k a (List.mem_cons_of_mem _ ha)) r)
  | _, _, _, _, k, .oK h n r => .dK (k _ (by simp) _ h) n (Rps.frz e (fun a ha => k a (List.mem_cons_of_mem _ ha)) r)
  | _, _, _, _, k, .oT h n r => .dT (k _ (by simp) _ h) n (Rps.frz e (fun a ha => k a (List.mem_cons_of_mem _ ha)) r)
  | _, _, _, _, k, .oO m h n r => .obj m (k _ (by simp) _ h) n (Rps.frz e (fun a ha => k a (List.mem_cons_of_mem _ ha)) r)
theorem Rps.frz (e : Le G G') : ∀ {ts : List Ty} {ds : List D} {vs : List V} {f : List Addr}, (∀ a ∈ f, ∀ o, H a = some o → G' a = some o) → Rps K mg H G ts ds vs f → Rfs K mg G' ds vs
  | _, _, _, _, _, .nil => .nil
  | _, _, _, _, k, .cons h r => .cons (Rp.frz e (fun a ha => k a (List.mem_append_left _ ha)) h) (Rps.frz e (fun a ha => k a (List.mem_append_right _ ha)) r)
end
/-- what may stand at an owned address -/
def Own : HO → Prop
  | .lst _ => True
  | .dK _ => True
  | .dT _ => True
  | .ins _ _ _ => True
  | _ => False
mutual
theorem Rp.there : ∀ {t : Ty} {d : D} {v : V} {f : List Addr}, Rp K mg H G t d v f → ∀ a ∈ f, ∃ o, H a = some o ∧ Own o
  | _, _, _, _, .sh _, _, h => nomatch h
  | _, _, _, _, .oL h r, a, ha => (List.mem_cons.mp ha).elim (fun z => by subst z; exact ⟨_, h, trivial⟩) (Rps.there r a)
  | _, _, _, _, .oK h n r, a, ha => (List.mem_cons.mp ha).elim (fun z => by subst z; exact ⟨_, h, trivial⟩) (Rps.there r a)
  | _, _, _, _, .oT h n r, a, ha => (List.mem_cons.mp ha).elim (fun z => by subst z; exact ⟨_, h, trivial⟩) (Rps.there r a)
  | _, _, _, _, .oO m h n r, a, ha => (List.mem_cons.mp ha).elim (fun z => by subst z; exact ⟨_, h, trivial⟩) (Rps.there r a)
theorem Rps.there : ∀ {ts : List Ty} {ds : List D} {vs : List V} {f : List Addr}, Rps K mg H G ts ds vs f → ∀ a ∈ f, ∃ o, H a = some o ∧ Own o
  | _, _, _, _, .nil, _, h => nomatch h
  | _, _, _, _, .cons h r, a, ha => (List.mem_append.mp ha).elim (Rp.there h a) (Rps.there r a)
end
theorem Rps.of_sh : ∀ {ds : List D} {vs : List V}, Rfs K mg G ds vs → Rps K mg H G (List.replicate ds.length .sh) ds vs []
  | _, _, .nil => .nil
  | _, _, .cons h r => by
    have q := Rps.cons (Rp.sh (K := K) (mg := mg) (H := H) h) (Rps.of_sh r)
    exact q
theorem Rps.to_sh : ∀ {n : Nat} {ds : List D} {vs : List V} {f : List Addr}, Rps K mg H G (List.replicate n .sh) ds vs f → Rfs K mg G ds vs ∧ f = []
  | 0, _, _, _, r => by cases r; exact ⟨.nil, rfl⟩
  | n + 1, _, _, _, r => by
    rw [List.replicate_succ] at r
    cases r with
    | cons h r =>
      cases h with
      | sh q =>
        obtain ⟨q2, e⟩ := Rps.to_sh r
        subst e
        exact ⟨.cons q q2, rfl⟩
end

/-! ### the slots -/
inductive Sl (K : PySem.W.Frag) (mg : Str → Option Value) (H G : Hp) : List Ty → List D → L2.St → List Addr → Prop
  | nil : Sl K mg H G [] [] [] []
  | no {d : D} {v : Option V} {ts : List Ty} {ds : List D} {vs : L2.St} {f : List Addr} : Sl K mg H G ts ds vs f → Sl K mg H G (.no :: ts) (d :: ds) (v :: vs) f
  | cons {t : Ty} {d : D} {v : V} {ts : List Ty} {ds : List D} {vs : L2.St} {f g : List Addr} : Rp K mg H G t d v f → Sl K mg H G ts ds vs g → Sl K mg H G (t :: ts) (d :: ds) (some v :: vs) (f ++ g)

section
variable {K : PySem.W.Frag} {mg : Str → Option Value} {H H' G G' : Hp}
theorem Sl.mono (e : Le G G') : ∀ {τ : List Ty} {ρ : List D} {σ : L2.St} {f : List Addr}, (∀ a ∈ f, H' a = H a) → Sl K mg H G τ ρ σ f → Sl K mg H' G' τ ρ σ f
  | _, _, _, _, _, .nil => .nil
  | _, _, _, _, k, .no r => .no (Sl.mono e k r)
  | _, _, _, _, k, .cons h r => .cons (h.mono e fun a ha => k a (List.mem_append_left _ ha)) (Sl.mono e (fun a ha => k a (List.mem_append_right _ ha)) r)
theorem Sl.there : ∀ {τ : List Ty} {ρ : List D} {σ : L2.St} {f : List Addr}, Sl K mg H G τ ρ σ f → ∀ a ∈ f, ∃ o, H a = some o ∧ Own o
  | _, _, _, _, .nil, _, h => nomatch h
  | _, _, _, _, .no r, a, ha => Sl.there r a ha
  | _, _, _, _, .cons h r, a, ha => (List.mem_append.mp ha).elim (h.there a) (Sl.there r a)
theorem Sl.len : ∀ {τ : List Ty} {ρ : List D} {σ : L2.St} {f : List Addr}, Sl K mg H G τ ρ σ f → τ.length = ρ.length ∧ σ.length = ρ.length
  | _, _, _, _, .nil => ⟨rfl, rfl⟩
  | _, _, _, _, .no r => by have := Sl.len r; simp [this.1, this.2]
  | _, _, _, _, .cons h r => by have := Sl.len r; simp [this.1, this.2]
/-- one slot taken out, something else put in, in another heap -/
theorem Sl.split : ∀ {τ : List Ty} {ρ : List D} {σ : L2.St} {f : List Addr} {i : Nat} {t : Ty}, Sl K mg H G τ ρ σ f → τ[i]? = some t →
    ∃ f1 fo f2, f = f1 ++ fo ++ f2 ∧ ((t = .no ∧ fo = []) ∨ ∃ v, σ[i]? = some (some v) ∧ Rp K mg H G t (ρ.getD i .non) v fo) ∧ i < ρ.length ∧
      (∀ {H' G' : Hp} {t' : Ty} {d' : D} {v' : V} {f' : List Addr}, (∀ a ∈ f1 ++ f2, H' a = H a) → Le G G' → Rp K mg H' G' t' d' v' f' → Sl K mg H' G' (τ.set i t') (ρ.set i d') (σ.set i (some v')) (f1 ++ f' ++ f2)) ∧
      (∀ {H' G' : Hp} {t' : Ty} {d' : D} {v' : V} {f' : List Addr}, (∀ a ∈ f1 ++ f2, H' a = H a) → Le G G' → σ[i]? = some (some v') → Rp K mg H' G' t' d' v' f' → Sl K mg H' G' (τ.set i t') (ρ.set i d') σ (f1 ++ f' ++ f2)) ∧
      (∀ {H' G' : Hp} {d' : D}, (∀ a ∈ f1 ++ f2, H' a = H a) → Le G G' → Sl K mg H' G' (τ.set i .no) (ρ.set i d') σ (f1 ++ f2))
  | _, _, _, _, _, _, .nil, e => by simp at e
  | _, _, _, _, 0, t, .no (d := d) (v := v) (f := f) r, e => by
    have e' : Ty.no = t := by simpa using e
    subst e'
    refine ⟨[], [], f, by simp, .inl ⟨rfl, rfl⟩, by simp, fun {H' G' t' d' v' f'} k le h => ?_, fun {H' G' t' d' v' f'} k le ev h => ?_, fun {H' G' d'} k le => ?_⟩
    · exact .cons h (r.mono le fun a ha => k a (by simpa using ha))
    · have : v = some v' := by simpa using ev
      subst this
      exact .cons h (r.mono le fun a ha => k a (by simpa using ha))
    · exact .no (r.mono le fun a ha => k a (by simpa using ha))
  | _, _, _, _, 0, t, .cons (t := t0) (d := d) (v := v) (f := f0) (g := g) h0 r, e => by
    have e' : t0 = t := by simpa using e
    subst e'
    refine ⟨[], f0, g, by simp, .inr ⟨v, rfl, by simpa using h0⟩, by simp, fun {H' G' t' d' v' f'} k le h => ?_, fun {H' G' t' d' v' f'} k le ev h => ?_, fun {H' G' d'} k le => ?_⟩
    · exact .cons h (r.mono le fun a ha => k a (by simpa using ha))
    · have : v = v' := by simpa using ev
      subst this
      exact .cons h (r.mono le fun a ha => k a (by simpa using ha))
    · exact .no (r.mono le fun a ha => k a (by simpa using ha))
  | _, _, _, _, i + 1, t, .no (d := d) (v := v) r, e => by
    obtain ⟨f1, fo, f2, ef, ho, hi, h1, h2, h3⟩ := Sl.split (i := i) r (by simpa using e)
    refine ⟨f1, fo, f2, ef, ?_, by simpa using hi, fun k le h => ?_, fun k le ev h => ?_, fun k le => ?_⟩
    · rcases ho with ho | ⟨v, e1, q⟩
      · exact .inl ho
      · exact .inr ⟨v, by simpa using e1, by simpa using q⟩
    · exact .no (h1 k le h)
    · exact .no (h2 k le (by simpa using ev) h)
    · exact .no (h3 k le)
  | _, _, _, _, i + 1, t, .cons (t := t0) (d := d) (v := v) (f := f0) (g := g) h0 r, e => by
    obtain ⟨f1, fo, f2, ef, ho, hi, h1, h2, h3⟩ := Sl.split (i := i) r (by simpa using e)
    refine ⟨f0 ++ f1, fo, f2, by rw [ef]; simp, ?_, by simpa using hi, fun {H' G' t' d' v' f'} k le h => ?_, fun {H' G' t' d' v' f'} k le ev h => ?_, fun {H' G' d'} k le => ?_⟩
    · rcases ho with ho | ⟨v, e1, q⟩
      · exact .inl ho
      · exact .inr ⟨v, by simpa using e1, by simpa using q⟩
    · have := Sl.cons (h0.mono le fun a ha => k a (by simp [ha])) (h1 (fun a ha => k a (by simp at ha ⊢; rcases ha with h | h <;> simp [h])) le h)
      simpa using this
    · have := Sl.cons (h0.mono le fun a ha => k a (by simp [ha])) (h2 (fun a ha => k a (by simp at ha ⊢; rcases ha with h | h <;> simp [h])) le (by simpa using ev) h)
      simpa using this
    · have := Sl.cons (h0.mono le fun a ha => k a (by simp [ha])) (h3 (fun a ha => k a (by simp at ha ⊢; rcases ha with h | h <;> simp [h])) le (d' := d'))
      simpa using this
end
end TL

namespace TL
open PySem PySem.Spec PyProof.Rows L2

abbrev Rho := List D
/-- a value, or the slot of an owned list that is read where it is used -/
inductive Hd where
  | v (d : D) | x (i : Nat)
def Hd.res (h : Hd) (ρ : Rho) : D := match h with
  | .v d => d
  | .x i => ρ.getD i .non
abbrev Ef := Rho → Option (Hd × Rho)
abbrev Of := Rho → Option (D × Rho)
abbrev Tf := Rho → Option (Bool × Rho)
abbrev Af := Rho → Option (List Hd × Rho)

def Grow (H H' : Hp) : Prop := ∀ a o, H a = some o → H' a = some o
theorem Grow.refl (H : Hp) : Grow H H := fun _ _ h => h
theorem Grow.trans {A B C : Hp} (h : Grow A B) (k : Grow B C) : Grow A C := fun a o e => k a o (h a o e)
theorem Grow.upd {H : Hp} {p : Addr} {o : HO} (h : H p = none) : Grow H (upd H p o) := fun a u e => by
  rw [upd_ne (ne_of_none e h)]; exact e
theorem Grow.free {H H' : Hp} (g : Grow H H') {p : Addr} (h : H' p = none) : H p = none := by
  cases e : H p with
  | none => rfl
  | some o => rw [g _ _ e] at h; cases h

structure Step (H H' : Hp) (fs fs' : List Addr) : Prop where
  ext : ∀ a o, a ∉ fs → H a = some o → H' a = some o
  sub : ∀ a ∈ fs', a ∈ fs ∨ H a = none
  ne : ∀ a o, H a = some o → ∃ o', H' a = some o'
theorem Step.refl (H : Hp) (fs : List Addr) : Step H H fs fs := ⟨fun _ _ _ h => h, fun _ h => .inl h, fun _ o h => ⟨o, h⟩⟩
theorem Step.grow {H H' : Hp} (g : Grow H H') (fs : List Addr) : Step H H' fs fs := ⟨fun a o _ h => g a o h, fun _ h => .inl h, fun a o h => ⟨o, g a o h⟩⟩
theorem Step.trans {A B C : Hp} {f g h : List Addr} (s : Step A B f g) (t : Step B C g h) : Step A C f h where
  ext := fun a o n e => by
    refine t.ext a o (fun z => ?_) (s.ext a o n e)
    rcases s.sub a z with q | q
    · exact n q
    · rw [q] at e; cases e
  sub := fun a ha => by
    rcases t.sub a ha with q | q
    · exact s.sub a q
    · cases e : A a with
      | none => exact .inr rfl
      | some o =>
        obtain ⟨o', e'⟩ := s.ne a o e
        rw [e'] at q; cases q
  ne := fun a o e => by
    obtain ⟨o', e'⟩ := s.ne a o e
    exact t.ne a o' e'
theorem Step.less {H H' : Hp} {f g h : List Addr} (s : Step H H' f g) (k : ∀ a ∈ h, a ∈ g) : Step H H' f h := ⟨s.ext, fun a ha => s.sub a (k a ha), s.ne⟩

/-- the state: R held elsewhere, the slots' owned parts at fs -/
structure SR (K : PySem.W.Frag) (mg : Str → Option Value) (R : List Addr) (τ : List Ty) (ρ : Rho) (σ : L2.St) (H : Hp) (fs : List Addr) : Prop where
  sl : Sl K mg H (hide (R ++ fs) H) τ ρ σ fs
  nd : (R ++ fs).Nodup
  al : ∀ a ∈ R, ∃ o, H a = some o ∧ Own o

section
variable {K : PySem.W.Frag} {mg : Str → Option Value} {R : List Addr} {τ : List Ty} {ρ : Rho} {σ : L2.St} {H H' : Hp} {fs fs' : List Addr}
theorem hide_grow (S : List Addr) (g : Grow H H') : Le (hide S H) (hide S H') := hide_mono fun a o n e => ⟨n, g a o e⟩
theorem SR.own (s : SR K mg R τ ρ σ H fs) : ∀ a ∈ R ++ fs, ∃ o, H a = some o ∧ Own o := fun a ha => (List.mem_append.mp ha).elim (s.al a) (s.sl.there a)
theorem SR.grow (s : SR K mg R τ ρ σ H fs) (g : Grow H H') : SR K mg R τ ρ σ H' fs := by
  refine ⟨s.sl.mono (hide_grow _ g) fun a ha => ?_, s.nd, fun a ha => ?_⟩
  · obtain ⟨o, e, _⟩ := s.sl.there a ha
    rw [e, g a o e]
  · obtain ⟨o, e, q⟩ := s.al a ha
    exact ⟨o, g a o e, q⟩
theorem SR.fresh (s : SR K mg R τ ρ σ H fs) {p : Addr} (h : H p = none) : p ∉ R ++ fs := fun hp => by
  obtain ⟨o, e, _⟩ := s.own p hp
  rw [e] at h; cases h
/-- frozen parts stay behind a step -/
theorem SR.le (s : SR K mg R τ ρ σ H fs) (t : Step H H' fs fs') : Le (hide (R ++ fs) H) (hide (R ++ fs') H') := hide_mono fun a o n e => by
  have n1 : a ∉ R := fun z => n (List.mem_append_left _ z)
  have n2 : a ∉ fs := fun z => n (List.mem_append_right _ z)
  refine ⟨fun z => ?_, t.ext a o n2 e⟩
  rcases List.mem_append.mp z with z | z
  · exact n1 z
  · rcases t.sub a z with q | q
    · exact n2 q
    · rw [q] at e; cases e
/-- a frozen tree, relative to a whole heap; flat owned lists and dicts seen from outside -/
inductive Rv (K : PySem.W.Frag) (mg : Str → Option Value) (S : List Addr) (H : Hp) : D → V → Prop
  | rf {d : D} {v : V} : Rf K mg (hide S H) d v → Rv K mg S H d v
  | lst {a : Addr} {vs : List V} {ds : List D} : H a = some (.lst vs) → Rfs K mg (hide S H) ds vs → Rv K mg S H (.lst ds) (.ref a)
  | dK {a : Addr} {kvs : List (Key × V)} {kds : List (D × D)} : H a = some (.dK kvs) → kds.map (·.1) = kvs.map (fun p => keyD p.1) → Rfs K mg (hide S H) (kds.map (·.2)) (kvs.map (·.2)) → Rv K mg S H (.dct kds) (.ref a)
  | dT {a : Addr} {kvs : List (List Key × V)} {kds : List (D × D)} : H a = some (.dT kvs) → kds.map (·.1) = kvs.map (fun p => keysD p.1) → Rfs K mg (hide S H) (kds.map (·.2)) (kvs.map (·.2)) → Rv K mg S H (.dct kds) (.ref a)
def flatT : Ty → Bool
  | .sh => true
  | .oL .sh => true
  | .oK .sh => true
  | .oT .sh => true
  | _ => false
theorem Rp.rv {S : List Addr} {t : Ty} {d : D} {v : V} {f : List Addr} (ft : flatT t = true) (r : Rp K mg H (hide S H) t d v f) : Rv K mg S H d v := by
  cases r with
  | sh q => exact .rf q
  | @oL t' a vs ds f e q =>
    cases t' <;> simp [flatT] at ft
    exact .lst e q.to_sh.1
  | @oK t' a kvs kds f e n q =>
    cases t' <;> simp [flatT] at ft
    have hl : kds.length = (kds.map (·.2)).length := by simp
    exact .dK e n q.to_sh.1
  | @oT t' a kvs kds f e n q =>
    cases t' <;> simp [flatT] at ft
    exact .dT e n q.to_sh.1
  | oO => simp [flatT] at ft
/-- what a handle is -/
def RH (K : PySem.W.Frag) (mg : Str → Option Value) (S : List Addr) (τ : List Ty) (σ : L2.St) (H : Hp) (h : Hd) (v : V) : Prop := match h with
  | .v d => Rf K mg (hide S H) d v
  | .x i => σ[i]? = some (some v) ∧ ∃ t, τ[i]? = some t ∧ flatT t = true
theorem SR.get (s : SR K mg R τ ρ σ H fs) {i : Nat} {t : Ty} (e : τ[i]? = some t) (n : t ≠ .no) : ∃ v f, σ[i]? = some (some v) ∧ Rp K mg H (hide (R ++ fs) H) t (ρ.getD i .non) v f ∧ ∀ a ∈ f, a ∈ fs := by
  obtain ⟨f1, fo, f2, ef, ho, _⟩ := s.sl.split e
  rcases ho with ⟨rfl, _⟩ | ⟨v, ev, q⟩
  · exact absurd rfl n
  · exact ⟨v, fo, ev, q, fun a ha => by rw [ef]; simp [ha]⟩
theorem SR.res (s : SR K mg R τ ρ σ H fs) {h : Hd} {v : V} (r : RH K mg (R ++ fs) τ σ H h v) : Rv K mg (R ++ fs) H (h.res ρ) v := by
  cases h with
  | v d => exact .rf r
  | x i =>
    obtain ⟨ev, t, et, ft⟩ := r
    obtain ⟨v', f, ev', q, _⟩ := s.get et (by intro z; rw [z] at ft; cases ft)
    rw [ev] at ev'; cases ev'
    exact q.rv ft
theorem SR.holdH (s : SR K mg R τ ρ σ H fs) (t : Step H H' fs fs') {h : Hd} {v : V} (r : RH K mg (R ++ fs) τ σ H h v) : RH K mg (R ++ fs') τ σ H' h v := by
  cases h with
  | v d => exact Rf.mono (s.le t) r
  | x i => exact r
inductive RHs (K : PySem.W.Frag) (mg : Str → Option Value) (S : List Addr) (τ : List Ty) (σ : L2.St) (H : Hp) : List Hd → List V → Prop
  | nil : RHs K mg S τ σ H [] []
  | cons {h : Hd} {v : V} {hs : List Hd} {vs : List V} : RH K mg S τ σ H h v → RHs K mg S τ σ H hs vs → RHs K mg S τ σ H (h :: hs) (v :: vs)
theorem RHs.vals : ∀ {hs : List Hd} {vs : List V} {S : List Addr} {ds : List D}, RHs K mg S τ σ H hs vs → hs = ds.map .v → Rfs K mg (hide S H) ds vs
  | _, _, _, [], .nil, _ => .nil
  | _, _, _, d :: ds, .nil, e => by simp at e
  | _, _, _, [], .cons _ _, e => by simp at e
  | _, _, _, d :: ds, .cons h r, e => by
    simp at e
    obtain ⟨rfl, e⟩ := e
    exact .cons h (RHs.vals r e)
end

/-! ### the judgements -/
def tD (X : Cx) (τ : List Ty) (f : Ef) : TE := fun σ H Q => ∃ R ρ fs h ρ', SR X.K X.mg R τ ρ σ H fs ∧ f ρ = some (h, ρ') ∧
  ∀ v H' fs', Step H H' fs fs' → SR X.K X.mg R τ ρ' σ H' fs' → RH X.K X.mg (R ++ fs') τ σ H' h v → Q v H'
def tO (X : Cx) (τ : List Ty) (f : Of) (t : Ty) : TE := fun σ H Q => ∃ R ρ fs d ρ', SR X.K X.mg R τ ρ σ H fs ∧ f ρ = some (d, ρ') ∧
  ∀ v H' fs' fv, Step H H' fs (fv ++ fs') → SR X.K X.mg (fv ++ R) τ ρ' σ H' fs' → Rp X.K X.mg H' (hide (fv ++ R ++ fs') H') t d v fv → Q v H'
def tT (X : Cx) (τ : List Ty) (f : Tf) : TT := fun σ H Q => ∃ R ρ fs b ρ', SR X.K X.mg R τ ρ σ H fs ∧ f ρ = some (b, ρ') ∧
  ∀ H' fs', Step H H' fs fs' → SR X.K X.mg R τ ρ' σ H' fs' → Q b H'
def tA (X : Cx) (τ : List Ty) (f : Af) : TA := fun σ H Q => ∃ R ρ fs hs ρ', SR X.K X.mg R τ ρ σ H fs ∧ f ρ = some (hs, ρ') ∧
  ∀ vs H' fs', Step H H' fs fs' → SR X.K X.mg R τ ρ' σ H' fs' → RHs X.K X.mg (R ++ fs') τ σ H' hs vs → Q vs H'
abbrev DE (X : Cx) (e : Expr) (τ : List Ty) (f : Ef) : Prop := PE X e (tD X τ f)
abbrev DO (X : Cx) (e : Expr) (τ : List Ty) (f : Of) (t : Ty) : Prop := PE X e (tO X τ f t)
abbrev DT (X : Cx) (e : Expr) (τ : List Ty) (f : Tf) : Prop := PT X e (tT X τ f)
abbrev DA (X : Cx) (es : List Expr) (τ : List Ty) (f : Af) : Prop := PA X es (tA X τ f)

theorem pe_imp {X : Cx} {e : Expr} {t t' : TE} (h : PE X e t) (k : ∀ σ H Q, t' σ H Q → t σ H Q) : PE X e t' := ⟨fun pins s σ H Q I q => h.run pins s σ H Q I (k σ H Q q)⟩
theorem pt_imp {X : Cx} {e : Expr} {t t' : TT} (h : PT X e t) (k : ∀ σ H Q, t' σ H Q → t σ H Q) : PT X e t' := ⟨fun pins s σ H Q I q => h.run pins s σ H Q I (k σ H Q q)⟩
theorem pw_imp {X : Cx} {e : Expr} {t t' : TT} (h : PW X e t) (k : ∀ σ H Q, t' σ H Q → t σ H Q) : PW X e t' := ⟨fun wh pins s σ H Q I q => h.run wh pins s σ H Q I (k σ H Q q)⟩
theorem pa_imp {X : Cx} {es : List Expr} {t t' : TA} (h : PA X es t) (k : ∀ σ H Q, t' σ H Q → t σ H Q) : PA X es t' := ⟨fun pos pins s σ H Q I q => h.run pos pins s σ H Q I (k σ H Q q)⟩

/-! ### names, constants -/
def eC (d : D) : Ef := fun ρ => some (.v d, ρ)
def eVar (i : Nat) : Ef := fun ρ => some (.v (ρ.getD i .non), ρ)
def eOwn (i : Nat) : Ef := fun ρ => some (.x i, ρ)
section
variable {X : Cx} {τ : List Ty} {a b c : Expr} {pos : Pos}
theorem de_C {e : Expr} {d : D} {v : V} (h : PE X e (tC v)) (r : ∀ G, Rf X.K X.mg G d v) : DE X e τ (eC d) := pe_imp h fun σ H Q ⟨R, ρ, fs, h, ρ', s, e, q⟩ => by
  cases e
  exact q v H fs (Step.refl H fs) s (r _)
theorem de_int {i j} : DE X (.Constant (.int i) j pos) τ (eC (.int i)) := de_C pe_int fun _ => .int _
theorem de_bl {i j} : DE X (.Constant (.bool i) j pos) τ (eC (.bl i)) := de_C pe_bl fun _ => .bl _
theorem de_non {j} : DE X (.Constant .none j pos) τ (eC .non) := de_C pe_non fun _ => .non
theorem de_str {i j} : DE X (.Constant (.str i) j pos) τ (eC (.str i)) := de_C pe_str fun _ => .str _
theorem de_var {e : Expr} (i : Nat) (h : PE X e (tVar i)) (ht : τ[i]? = some .sh := by rfl) : DE X e τ (eVar i) := pe_imp h fun σ H Q ⟨R, ρ, fs, h, ρ', s, e, q⟩ => by
  cases e
  obtain ⟨v, f, ev, r, _⟩ := s.get ht (by intro z; cases z)
  cases r with
  | sh r => exact ⟨v, ev, q v H fs (Step.refl H fs) s r⟩
theorem de_own {e : Expr} (i : Nat) {t : Ty} (h : PE X e (tVar i)) (ht : τ[i]? = some t := by rfl) (hf : flatT t = true := by rfl) : DE X e τ (eOwn i) := pe_imp h fun σ H Q ⟨R, ρ, fs, h, ρ', s, e, q⟩ => by
  cases e
  obtain ⟨v, f, ev, r, _⟩ := s.get ht (by intro z; rw [z] at hf; cases hf)
  exact ⟨v, ev, q v H fs (Step.refl H fs) s ⟨ev, t, ht, hf⟩⟩

/-! ### operators by values -/
/-- a rule r of HandS does what g says on trees; the result is frozen -/
def OpD (X : Cx) (r : R2) (g : D → D → Option D) : Prop := ∀ (S : List Addr) (H : Hp) (d1 d2 d : D) (v1 v2 : V) (Q : VK), (∀ a ∈ S, ∃ o, H a = some o ∧ Own o) → Rv X.K X.mg S H d1 v1 → Rv X.K X.mg S H d2 v2 → g d1 d2 = some d →
  (∀ v H', Grow H H' → Rf X.K X.mg (hide S H') d v → Q v H') → r v1 v2 H Q
/-- .. the result is a new list -/
def OpO (X : Cx) (r : R2) (g : D → D → Option (List D)) : Prop := ∀ (S : List Addr) (H : Hp) (d1 d2 : D) (ds : List D) (v1 v2 : V) (Q : VK), (∀ a ∈ S, ∃ o, H a = some o ∧ Own o) → Rv X.K X.mg S H d1 v1 → Rv X.K X.mg S H d2 v2 → g d1 d2 = some ds →
  (∀ p vs, H p = none → Rfs X.K X.mg (hide S H) ds vs → Q (.ref p) (upd H p (.lst vs))) → r v1 v2 H Q
def orG {α β γ : Type} (g g' : α → β → Option γ) : α → β → Option γ := fun a b => (g a b).or (g' a b)
theorem OpD.or {r r' : R2} {g g' : D → D → Option D} (h : OpD X r g) (h' : OpD X r' g') : OpD X (fun x y H Q => r x y H Q ∨ r' x y H Q) (orG g g') := fun S H d1 d2 d v1 v2 Q al r1 r2 e q => by
  unfold orG at e
  cases e1 : g d1 d2 with
  | some z =>
    rw [e1] at e
    exact .inl (h S H d1 d2 d v1 v2 Q al r1 r2 (by rw [e1]; exact e) q)
  | none =>
    rw [e1] at e
    exact .inr (h' S H d1 d2 d v1 v2 Q al r1 r2 (by simpa using e) q)
def eBin (g : D → D → Option D) (f1 f2 : Ef) : Ef := fun ρ => (f1 ρ).bind fun p => (f2 p.2).bind fun q => (g (p.1.res q.2) (q.1.res q.2)).bind fun d => some (.v d, q.2)
def eBinO (g : D → D → Option (List D)) (f1 f2 : Ef) : Of := fun ρ => (f1 ρ).bind fun p => (f2 p.2).bind fun q => (g (p.1.res q.2) (q.1.res q.2)).bind fun d => some (.lst d, q.2)
/-- two operands, one after the other -/
theorem two {f1 f2 : Ef} {R : List Addr} {ρ : Rho} {σ : L2.St} {H : Hp} {fs : List Addr} {p q : Hd × Rho} {k : V → V → Hp → Prop} (s : SR X.K X.mg R τ ρ σ H fs) (e1 : f1 ρ = some p) (e2 : f2 p.2 = some q)
    (h : ∀ v1 v2 H' fs', Step H H' fs fs' → SR X.K X.mg R τ q.2 σ H' fs' → RH X.K X.mg (R ++ fs') τ σ H' p.1 v1 → RH X.K X.mg (R ++ fs') τ σ H' q.1 v2 → k v1 v2 H') :
    tD X τ f1 σ H fun x H1 => tD X τ f2 σ H1 fun y H2 => k x y H2 :=
  ⟨R, ρ, fs, p.1, p.2, s, e1, fun v1 H1 fs1 t1 s1 r1 => ⟨R, p.2, fs1, q.1, q.2, s1, e2, fun v2 H2 fs2 t2 s2 r2 => h v1 v2 H2 fs2 (t1.trans t2) s2 (s1.holdH t2 r1) r2⟩⟩
theorem eBin_inv {g : D → D → Option D} {f1 f2 : Ef} {ρ : Rho} {r : Hd × Rho} (e : eBin g f1 f2 ρ = some r) : ∃ p q d, f1 ρ = some p ∧ f2 p.2 = some q ∧ g (p.1.res q.2) (q.1.res q.2) = some d ∧ r = (.v d, q.2) := by
  unfold eBin at e
  cases h1 : f1 ρ with
  | none => rw [h1] at e; cases e
  | some p =>
    rw [h1] at e
    cases h2 : f2 p.2 with
    | none => simp [h2] at e
    | some q =>
      simp only [Option.bind_some, h2] at e
      cases h3 : g (p.1.res q.2) (q.1.res q.2) with
      | none => simp [h3] at e
      | some d =>
        simp only [h3, Option.bind_some, Option.some.injEq] at e
        exact ⟨p, q, d, rfl, h2, h3, e.symm⟩
theorem eBinO_inv {g : D → D → Option (List D)} {f1 f2 : Ef} {ρ : Rho} {r : D × Rho} (e : eBinO g f1 f2 ρ = some r) : ∃ p q d, f1 ρ = some p ∧ f2 p.2 = some q ∧ g (p.1.res q.2) (q.1.res q.2) = some d ∧ r = (.lst d, q.2) := by
  unfold eBinO at e
  cases h1 : f1 ρ with
  | none => rw [h1] at e; cases e
  | some p =>
    rw [h1] at e
    cases h2 : f2 p.2 with
    | none => simp [h2] at e
    | some q =>
      simp only [Option.bind_some, h2] at e
      cases h3 : g (p.1.res q.2) (q.1.res q.2) with
      | none => simp [h3] at e
      | some d =>
        simp only [h3, Option.bind_some, Option.some.injEq] at e
        exact ⟨p, q, d, rfl, h2, h3, e.symm⟩
/-- the reading of a two-place operation -/
theorem tOp_of {r : R2} {g : D → D → Option D} {f1 f2 : Ef} (o : OpD X r g) : ∀ σ H Q, tD X τ (eBin g f1 f2) σ H Q → tOp r (tD X τ f1) (tD X τ f2) σ H Q := fun σ H Q ⟨R, ρ, fs, h, ρ', s, e, k⟩ => by
  obtain ⟨p, q, d, e1, e2, e3, er⟩ := eBin_inv e
  cases er
  refine two s e1 e2 fun v1 v2 H' fs' t s' r1 r2 => ?_
  refine o (R ++ fs') H' _ _ _ v1 v2 Q s'.own (s'.res r1) (s'.res r2) e3 fun v H2 g2 rf => ?_
  exact k v H2 fs' (t.trans (Step.grow g2 _)) (s'.grow g2) rf
theorem de_bin {op : Operator} {r : R2} {g : D → D → Option D} {f1 f2 : Ef} (ho : OpR X (binaryOp op) r) (o : OpD X r g) (ha : DE X a τ f1) (hb : DE X b τ f2) : DE X (.BinOp a op b pos) τ (eBin g f1 f2) := pe_imp (pe_op ho ha hb) (tOp_of o)
theorem de_cmp {op : CmpOp} {r : R2} {g : D → D → Option D} {f1 f2 : Ef} (ho : OpR X (compareOp op) r) (o : OpD X r g) (ha : DE X a τ f1) (hb : DE X b τ f2) (hm : behindInMarks op b = false) : DE X (.Compare a [op] [b] pos) τ (eBin g f1 f2) := pe_imp (pe_cmpR ho ha hb hm) (tOp_of o)
theorem de_ix {r : R2} {g : D → D → Option D} {f1 f2 : Ef} (hr : IxR X r) (o : OpD X r g) (ha : DE X a τ f1) (hb : DE X b τ f2) (hs : PlainIx b) : DE X (.Subscript a b pos) τ (eBin g f1 f2) := pe_imp (pe_ix hr ha hb hs) (tOp_of o)
theorem hide_upd {S : List Addr} {H : Hp} {p : Addr} {o : HO} (h : H p = none) : Le (hide S H) (hide (p :: S) (upd H p o)) := hide_mono fun a u n e => by
  have ne : a ≠ p := ne_of_none e h
  exact ⟨by simp [ne, n], by rw [upd_ne ne]; exact e⟩
theorem hide_upd' {S S' : List Addr} {H : Hp} {p : Addr} {o : HO} (h : H p = none) (k : ∀ a, a ∈ S' → a = p ∨ a ∈ S) : Le (hide S H) (hide S' (upd H p o)) := hide_mono fun a u n e => by
  have ne : a ≠ p := ne_of_none e h
  exact ⟨fun z => (k a z).elim ne n, by rw [upd_ne ne]; exact e⟩
/-- a new list at p: owned by the value -/
theorem SR.newL {R : List Addr} {ρ : Rho} {σ : L2.St} {H : Hp} {fs : List Addr} {p : Addr} {vs : List V} {ds : List D} (s : SR X.K X.mg R τ ρ σ H fs) (hp : H p = none) (r : Rfs X.K X.mg (hide (R ++ fs) H) ds vs) :
    SR X.K X.mg ([p] ++ R) τ ρ σ (upd H p (.lst vs)) fs ∧ Rp X.K X.mg (upd H p (.lst vs)) (hide ([p] ++ R ++ fs) (upd H p (.lst vs))) (.oL .sh) (.lst ds) (.ref p) [p] ∧ Step H (upd H p (.lst vs)) fs ([p] ++ fs) := by
  have hf := s.fresh hp
  have le : Le (hide (R ++ fs) H) (hide ([p] ++ R ++ fs) (upd H p (.lst vs))) := hide_upd' hp fun a z => by simpa using z
  have np : ∀ a ∈ R ++ fs, a ≠ p := fun a ha e => hf (e ▸ ha)
  refine ⟨⟨s.sl.mono le fun a ha => upd_ne (np a (List.mem_append_right _ ha)), ?_, fun a ha => ?_⟩, ?_, ⟨fun a o _ e => ?_, fun a ha => ?_, fun a o e => ?_⟩⟩
  · have := s.nd
    simpa [hf] using this
  · rcases List.mem_append.mp ha with ha | ha
    · have e : a = p := by simpa using ha
      exact ⟨.lst vs, by rw [e, upd_same], trivial⟩
    · obtain ⟨o, e, w⟩ := s.al a ha
      exact ⟨o, by rw [upd_ne (np a (List.mem_append_left _ ha))]; exact e, w⟩
  · exact Rp.oL upd_same (Rps.of_sh (r.mono le))
  · rw [upd_ne (ne_of_none e hp)]; exact e
  · rcases List.mem_append.mp ha with ha | ha
    · have e : a = p := by simpa using ha
      exact .inr (e ▸ hp)
    · exact .inl ha
  · exact ⟨o, by rw [upd_ne (ne_of_none e hp)]; exact e⟩
theorem tOpO_of {r : R2} {g : D → D → Option (List D)} {f1 f2 : Ef} (o : OpO X r g) : ∀ σ H Q, tO X τ (eBinO g f1 f2) (.oL .sh) σ H Q → tOp r (tD X τ f1) (tD X τ f2) σ H Q := fun σ H Q ⟨R, ρ, fs, h, ρ', s, e, k⟩ => by
  obtain ⟨p, q, d, e1, e2, e3, er⟩ := eBinO_inv e
  cases er
  refine two s e1 e2 fun v1 v2 H' fs' t s' r1 r2 => ?_
  refine o (R ++ fs') H' _ _ _ v1 v2 Q s'.own (s'.res r1) (s'.res r2) e3 fun a vs ha rf => ?_
  obtain ⟨n1, n2, n3⟩ := s'.newL ha rf
  exact k _ _ fs' [a] (t.trans n3) n1 n2
theorem do_bin {op : Operator} {r : R2} {g : D → D → Option (List D)} {f1 f2 : Ef} (ho : OpR X (binaryOp op) r) (o : OpO X r g) (ha : DE X a τ f1) (hb : DE X b τ f2) : DO X (.BinOp a op b pos) τ (eBinO g f1 f2) (.oL .sh) := pe_imp (pe_op ho ha hb) (tOpO_of o)

/-! ### an owned result given away -/
def eF (f : Of) : Ef := fun ρ => (f ρ).bind fun p => some (.v p.1, p.2)
theorem SR.drop {K : PySem.W.Frag} {mg : Str → Option Value} {fv R : List Addr} {ρ : Rho} {σ : L2.St} {H : Hp} {fs : List Addr} (s : SR K mg (fv ++ R) τ ρ σ H fs) : SR K mg R τ ρ σ H fs := by
  refine ⟨s.sl.mono (hide_mono fun a o n e => ⟨fun z => n ?_, e⟩) fun _ _ => rfl, ?_, fun a ha => s.al a (List.mem_append_right _ ha)⟩
  · rw [List.append_assoc]; exact List.mem_append_right _ z
  · have := s.nd
    rw [List.append_assoc] at this
    exact (List.nodup_append.mp this).2.1
theorem Rp.give {K : PySem.W.Frag} {mg : Str → Option Value} {fv R : List Addr} {ρ : Rho} {σ : L2.St} {H : Hp} {fs : List Addr} {t : Ty} {d : D} {v : V} (s : SR K mg (fv ++ R) τ ρ σ H fs) (r : Rp K mg H (hide (fv ++ R ++ fs) H) t d v fv) : Rf K mg (hide (R ++ fs) H) d v := by
  refine r.frz (hide_mono fun a o n e => ⟨fun z => n ?_, e⟩) fun a ha o e => hide_some.mpr ⟨fun z => ?_, e⟩
  · rw [List.append_assoc]; exact List.mem_append_right _ z
  · have := s.nd
    rw [List.append_assoc] at this
    exact (List.nodup_append.mp this).2.2 a ha a z rfl
theorem de_F {e : Expr} {f : Of} {t : Ty} (h : DO X e τ f t) : DE X e τ (eF f) := pe_imp h fun σ H Q ⟨R, ρ, fs, hd, ρ', s, e, k⟩ => by
  unfold eF at e
  cases h1 : f ρ with
  | none => rw [h1] at e; cases e
  | some p =>
    rw [h1] at e
    cases e
    exact ⟨R, ρ, fs, p.1, p.2, s, h1, fun v H' fs' fv t s' r => k v H' fs' (t.less fun a ha => List.mem_append_right _ ha) s'.drop (r.give s')⟩
end
end TL

namespace TL
open PySem PySem.Spec PyProof.Rows L2

def okLen (n : Nat) : Bool := Nat.ble n 16777216
theorem okLen_le {n : Nat} (h : okLen n = true) : n ≤ sizeLine := Nat.le_of_ble_eq_true h

section
variable {K : PySem.W.Frag} {mg : Str → Option Value} {S : List Addr} {H : Hp}
/-! ### what a seen tree is -/
theorem Rv.int_inv {i : Int} {v : V} (r : Rv K mg S H (.int i) v) : v = .int i := by
  cases r with
  | rf r => cases r; rfl
theorem Rv.bl_inv {i : Bool} {v : V} (r : Rv K mg S H (.bl i) v) : v = .bl i := by
  cases r with
  | rf r => cases r; rfl
theorem Rv.non_inv {v : V} (r : Rv K mg S H .non v) : v = .non := by
  cases r with
  | rf r => cases r; rfl
theorem Rv.str_inv {i : Str} {v : V} (r : Rv K mg S H (.str i) v) : v = .str i := by
  cases r with
  | rf r => cases r; rfl
theorem Rv.lst_inv {ds : List D} {v : V} (r : Rv K mg S H (.lst ds) v) : ∃ a vs, v = .ref a ∧ H a = some (.lst vs) ∧ Rfs K mg (hide S H) ds vs := by
  cases r with
  | rf r =>
    cases r with
    | lst h r => exact ⟨_, _, rfl, hide_le _ _ _ _ h, r⟩
  | lst h r => exact ⟨_, _, rfl, h, r⟩
theorem Rv.tup_inv {ds : List D} {v : V} (r : Rv K mg S H (.tup ds) v) : ∃ a vs, v = .ref a ∧ SqT K H a vs ∧ SqT K (hide S H) a vs ∧ Rfs K mg (hide S H) ds vs := by
  cases r with
  | rf r =>
    cases r with
    | tup h r => exact ⟨_, _, rfl, (hide_le _ _).seqT h, h, r⟩
theorem ifSome' {α : Type} {c : Bool} {x r : α} (e : (if c then some x else none) = some r) : c = true ∧ x = r := by
  cases c with
  | true => exact ⟨rfl, by simpa using e⟩
  | false => cases e
def truthD : D → Option Bool
  | .non => some false
  | .bl b => some b
  | .int i => some (i != 0)
  | .str s => if okLen s.length then some ((s.length : Int) != 0) else none
  | .tup l => some (!l.isEmpty)
  | .lst l => some (!l.isEmpty)
  | _ => none
theorem Rfs.isEmpty {G : Hp} {ds : List D} {vs : List V} (r : Rfs K mg G ds vs) : ds.isEmpty = vs.isEmpty := by
  cases r <;> rfl
theorem Rv.tru {d : D} {v : V} {k : Bool} (r : Rv K mg S H d v) (e : truthD d = some k) : TruV K v H k := by
  cases d with
  | non => rw [r.non_inv]; cases e; rfl
  | bl b => rw [r.bl_inv]; cases e; rfl
  | int i => rw [r.int_inv]; cases e; rfl
  | str s =>
    rw [r.str_inv]
    obtain ⟨h, e⟩ := ifSome' e
    subst e
    exact ⟨okLen_le h, rfl⟩
  | tup l =>
    obtain ⟨a, vs, rfl, h, _, q⟩ := r.tup_inv
    cases e
    exact .inr (.inl ⟨vs, h, by rw [q.isEmpty]⟩)
  | lst l =>
    obtain ⟨a, vs, rfl, h, q⟩ := r.lst_inv
    cases e
    exact .inl ⟨vs, .of h, by rw [q.isEmpty]⟩
  | dct l => cases e
  | set l => cases e
  | obj c l => cases e
  | scr l => cases e
end

section
variable {X : Cx} {τ : List Ty} {a b c e : Expr} {es : List Expr} {pos : Pos}
/-! ### tests -/
def tB (f : Ef) : Tf := fun ρ => (f ρ).bind fun p => (truthD (p.1.res p.2)).bind fun k => some (k, p.2)
theorem tB_inv {f : Ef} {ρ : Rho} {r : Bool × Rho} (e : tB f ρ = some r) : ∃ p k, f ρ = some p ∧ truthD (p.1.res p.2) = some k ∧ r = (k, p.2) := by
  unfold tB at e
  cases h1 : f ρ with
  | none => rw [h1] at e; cases e
  | some p =>
    rw [h1] at e
    simp only [Option.bind_some] at e
    cases h2 : truthD (p.1.res p.2) with
    | none => rw [h2] at e; cases e
    | some k => rw [h2] at e; cases e; exact ⟨p, k, rfl, h2, rfl⟩
theorem dt_truth {f : Ef} (h : DE X e τ f) (he : ∀ whole, isTrue e X.env whole = (do let v ← whole; standAt e.pos; holding [v] (truthy v)) := by intro _; rfl) : DT X e τ (tB f) := pt_imp (pt_truth h he) fun σ H Q ⟨R, ρ, fs, b, ρ', s, e, k⟩ => by
  obtain ⟨p, kk, e1, e2, er⟩ := tB_inv e
  cases er
  exact ⟨R, ρ, fs, p.1, p.2, s, e1, fun v H' fs' t s' r => ⟨_, (s'.res r).tru e2, k H' fs' t s'⟩⟩
/-- a comparison as a test -/
def tBl (f : Ef) : Tf := fun ρ => (f ρ).bind fun p => match p.1 with
  | .v (.bl k) => some (k, p.2)
  | _ => none
theorem tBl_inv {f : Ef} {ρ : Rho} {r : Bool × Rho} (e : tBl f ρ = some r) : ∃ k ρ', f ρ = some (.v (.bl k), ρ') ∧ r = (k, ρ') := by
  unfold tBl at e
  cases h1 : f ρ with
  | none => rw [h1] at e; cases e
  | some p =>
    rw [h1] at e
    obtain ⟨p1, p2⟩ := p
    cases p1 with
    | x i => cases e
    | v d => cases d <;> first | (cases e; done) | (cases e; exact ⟨_, _, rfl, rfl⟩)
theorem tTest_of {t : TE} {f : Ef} (h : ∀ σ H Q, tD X τ f σ H Q → t σ H Q) : ∀ σ H Q, tT X τ (tBl f) σ H Q → tTest t σ H Q := fun σ H Q ⟨R, ρ, fs, b, ρ', s, e, k⟩ => by
  obtain ⟨k1, ρ1, e1, er⟩ := tBl_inv e
  cases er
  refine h σ H _ ⟨R, ρ, fs, _, _, s, e1, fun v H' fs' t s' r => ?_⟩
  cases r
  exact ⟨_, rfl, k H' fs' t s'⟩
theorem dt_cmp {op : CmpOp} {r : R2} {g : D → D → Option D} {f1 f2 : Ef} (ho : OpR X (compareOp op) r) (o : OpD X r g) (ha : DE X a τ f1) (hb : DE X b τ f2) (hm : behindInMarks op b = false) : DT X (.Compare a [op] [b] pos) τ (tBl (eBin g f1 f2)) :=
  pt_imp (pt_cmpR ho ha hb hm) (tTest_of (tOp_of o))
/-! a op1 b op2 c -/
def eChain (g g' : D → D → Option D) (f1 f2 f3 : Ef) : Ef := fun ρ => (f1 ρ).bind fun p => (f2 p.2).bind fun q => (g (p.1.res q.2) (q.1.res q.2)).bind fun d => match d with
  | .bl true => (f3 q.2).bind fun r => (g' (q.1.res r.2) (r.1.res r.2)).bind fun d' => some (.v d', r.2)
  | .bl false => some (.v (.bl false), q.2)
  | _ => none
theorem tChain_of {r r' : R2} {g g' : D → D → Option D} {f1 f2 f3 : Ef} (o : OpD X r g) (o' : OpD X r' g') : ∀ σ H Q, tD X τ (eChain g g' f1 f2 f3) σ H Q → tChain r r' (tD X τ f1) (tD X τ f2) (tD X τ f3) σ H Q := fun σ H Q ⟨R, ρ, fs, h, ρ', s, e, k⟩ => by
  unfold eChain at e
  cases h1 : f1 ρ with
  | none => rw [h1] at e; cases e
  | some p =>
    rw [h1] at e
    simp only [Option.bind_some] at e
    cases h2 : f2 p.2 with
    | none => rw [h2] at e; cases e
    | some q =>
      rw [h2] at e
      simp only [Option.bind_some] at e
      cases h3 : g (p.1.res q.2) (q.1.res q.2) with
      | none => rw [h3] at e; cases e
      | some d =>
        rw [h3] at e
        simp only [Option.bind_some] at e
        refine two s h1 h2 fun v1 v2 H' fs' t s' r1 r2 => ?_
        refine o (R ++ fs') H' _ _ _ v1 v2 _ s'.own (s'.res r1) (s'.res r2) h3 fun v H2 g2 rf => ?_
        cases d with
        | bl kk =>
          cases rf
          cases kk with
          | false =>
            cases e
            exact ⟨false, rfl, iteF (k _ H2 fs' (t.trans (Step.grow g2 _)) (s'.grow g2) (.bl _))⟩
          | true =>
            simp only at e
            cases h4 : f3 q.2 with
            | none => rw [h4] at e; cases e
            | some w =>
              rw [h4] at e
              simp only [Option.bind_some] at e
              cases h5 : g' (q.1.res w.2) (w.1.res w.2) with
              | none => rw [h5] at e; cases e
              | some d' =>
                rw [h5] at e
                cases e
                refine ⟨true, rfl, iteT ⟨R, q.2, fs', w.1, w.2, s'.grow g2, h4, fun v3 H3 fs3 t3 s3 r3 => ?_⟩⟩
                have r2' := s3.res ((s'.grow g2).holdH t3 (s'.holdH (Step.grow g2 fs') r2))
                refine o' (R ++ fs3) H3 _ _ _ v2 v3 Q s3.own r2' (s3.res r3) h5 fun v4 H4 g4 rf4 => ?_
                exact k v4 H4 fs3 ((t.trans (Step.grow g2 _)).trans (t3.trans (Step.grow g4 _))) (s3.grow g4) rf4
        | _ => cases e
theorem de_chain {op op' : CmpOp} {r r' : R2} {g g' : D → D → Option D} {f1 f2 f3 : Ef} (ho : OpR X (compareOp op) r) (o : OpD X r g) (ho' : OpR X (compareOp op') r') (o' : OpD X r' g') (ha : DE X a τ f1) (hb : DE X b τ f2) (hc : DE X c τ f3)
    (hm : lastMarks [op, op'] [b, c] = false := by with_unfolding_all rfl) : DE X (.Compare a [op, op'] [b, c] pos) τ (eChain g g' f1 f2 f3) := pe_imp (pe_chain ho ho' ha hb hc hm) (tChain_of o o')
theorem dt_chain {op op' : CmpOp} {r r' : R2} {g g' : D → D → Option D} {f1 f2 f3 : Ef} (ho : OpR X (compareOp op) r) (o : OpD X r g) (ho' : OpR X (compareOp op') r') (o' : OpD X r' g') (ha : DE X a τ f1) (hb : DE X b τ f2) (hc : DE X c τ f3)
    (hm : lastMarks [op, op'] [b, c] = false := by with_unfolding_all rfl) : DT X (.Compare a [op, op'] [b, c] pos) τ (tBl (eChain g g' f1 f2 f3)) := pt_imp (pt_chain ho ho' ha hb hc hm) (tTest_of (tChain_of o o'))

/-! ### and, or, not as tests -/
def tAnd' (f g : Tf) : Tf := fun ρ => (f ρ).bind fun p => if p.1 then g p.2 else some (false, p.2)
def tOr' (f g : Tf) : Tf := fun ρ => (f ρ).bind fun p => if p.1 then some (true, p.2) else g p.2
def tNot' (f : Tf) : Tf := fun ρ => (f ρ).bind fun p => some (!p.1, p.2)
abbrev DW (X : Cx) (e : Expr) (τ : List Ty) (f : Tf) : Prop := PW X e (tT X τ f)
theorem dw_and1 {f : Tf} (h : DT X a τ f) : DW X (.BoolOp .And [a] pos) τ f := pw_and1 h
theorem dw_or1 {f : Tf} (h : DT X a τ f) : DW X (.BoolOp .Or [a] pos) τ f := pw_or1 h
theorem bindT {f : Tf} {ρ : Rho} {β : Type} {k : Bool × Rho → Option β} {r : β} (e : (f ρ).bind k = some r) : ∃ p, f ρ = some p ∧ k p = some r := by
  cases h : f ρ with
  | none => rw [h] at e; cases e
  | some p => rw [h] at e; exact ⟨p, rfl, e⟩
theorem bindO {α β : Type} {x : Option α} {k : α → Option β} {r : β} (e : x.bind k = some r) : ∃ p, x = some p ∧ k p = some r := by
  cases h : x with
  | none => rw [h] at e; cases e
  | some p => rw [h] at e; exact ⟨p, rfl, e⟩
theorem dw_and {f g : Tf} {rest : List Expr} (ha : DT X a τ f) (hb : DW X (.BoolOp .And (b :: rest) pos) τ g) : DW X (.BoolOp .And (a :: b :: rest) pos) τ (tAnd' f g) := pw_imp (pw_and ha hb) fun σ H Q ⟨R, ρ, fs, k, ρ', s, e, q⟩ => by
  obtain ⟨p, e1, e2⟩ := bindO e
  refine ⟨R, ρ, fs, p.1, p.2, s, e1, fun H' fs' t s' => ?_⟩
  cases hp : p.1 with
  | true =>
    rw [hp] at e2
    exact iteT ⟨R, p.2, fs', k, ρ', s', e2, fun H2 fs2 t2 s2 => q H2 fs2 (t.trans t2) s2⟩
  | false =>
    rw [hp] at e2
    cases e2
    exact iteF (q H' fs' t s')
theorem dw_or {f g : Tf} {rest : List Expr} (ha : DT X a τ f) (hb : DW X (.BoolOp .Or (b :: rest) pos) τ g) : DW X (.BoolOp .Or (a :: b :: rest) pos) τ (tOr' f g) := pw_imp (pw_or ha hb) fun σ H Q ⟨R, ρ, fs, k, ρ', s, e, q⟩ => by
  obtain ⟨p, e1, e2⟩ := bindO e
  refine ⟨R, ρ, fs, p.1, p.2, s, e1, fun H' fs' t s' => ?_⟩
  cases hp : p.1 with
  | false =>
    rw [hp] at e2
    exact iteF ⟨R, p.2, fs', k, ρ', s', e2, fun H2 fs2 t2 s2 => q H2 fs2 (t.trans t2) s2⟩
  | true =>
    rw [hp] at e2
    cases e2
    exact iteT (q H' fs' t s')
theorem dt_w {f : Tf} (h : DW X e τ f) : DT X e τ f := h.pt
theorem dt_not {f : Tf} (h : DT X a τ f) : DT X (.UnaryOp .Not a pos) τ (tNot' f) := pt_imp (pt_not h) fun σ H Q ⟨R, ρ, fs, k, ρ', s, e, q⟩ => by
  obtain ⟨p, e1, e2⟩ := bindO e
  cases e2
  exact ⟨R, ρ, fs, p.1, p.2, s, e1, fun H' fs' t s' => q H' fs' t s'⟩
/-! ### and, or, not, if as values -/
def eAnd (f g : Ef) : Ef := fun ρ => (f ρ).bind fun p => (truthD (p.1.res p.2)).bind fun k => if k then g p.2 else some p
def eOr (f g : Ef) : Ef := fun ρ => (f ρ).bind fun p => (truthD (p.1.res p.2)).bind fun k => if k then some p else g p.2
def eNot (f : Ef) : Ef := fun ρ => (f ρ).bind fun p => (truthD (p.1.res p.2)).bind fun k => some (.v (.bl (!k)), p.2)
def eIf (t : Tf) (f g : Ef) : Ef := fun ρ => (t ρ).bind fun p => if p.1 then f p.2 else g p.2
theorem de_one {op} {f : Ef} (h : DE X a τ f) : DE X (.BoolOp op [a] pos) τ f := pe_one h
theorem de_and {f g : Ef} {rest : List Expr} (ha : DE X a τ f) (hb : DE X (.BoolOp .And (b :: rest) pos) τ g) : DE X (.BoolOp .And (a :: b :: rest) pos) τ (eAnd f g) := pe_imp (pe_andT ha hb) fun σ H Q ⟨R, ρ, fs, h, ρ', s, e, q⟩ => by
  obtain ⟨p, e1, e2⟩ := bindO e
  obtain ⟨k, e3, e4⟩ := bindO e2
  refine ⟨R, ρ, fs, p.1, p.2, s, e1, fun v H' fs' t s' r => ⟨k, (s'.res r).tru e3, ?_⟩⟩
  cases k with
  | true => exact iteT ⟨R, p.2, fs', h, ρ', s', e4, fun v H2 fs2 t2 s2 r2 => q v H2 fs2 (t.trans t2) s2 r2⟩
  | false => cases e4; exact iteF (q v H' fs' t s' r)
theorem de_or {f g : Ef} {rest : List Expr} (ha : DE X a τ f) (hb : DE X (.BoolOp .Or (b :: rest) pos) τ g) : DE X (.BoolOp .Or (a :: b :: rest) pos) τ (eOr f g) := pe_imp (pe_orT ha hb) fun σ H Q ⟨R, ρ, fs, h, ρ', s, e, q⟩ => by
  obtain ⟨p, e1, e2⟩ := bindO e
  obtain ⟨k, e3, e4⟩ := bindO e2
  refine ⟨R, ρ, fs, p.1, p.2, s, e1, fun v H' fs' t s' r => ⟨k, (s'.res r).tru e3, ?_⟩⟩
  cases k with
  | false => exact iteF ⟨R, p.2, fs', h, ρ', s', e4, fun v H2 fs2 t2 s2 r2 => q v H2 fs2 (t.trans t2) s2 r2⟩
  | true => cases e4; exact iteT (q v H' fs' t s' r)
theorem de_not {f : Ef} (ha : DE X a τ f) : DE X (.UnaryOp .Not a pos) τ (eNot f) := pe_imp (pe_notT ha) fun σ H Q ⟨R, ρ, fs, h, ρ', s, e, q⟩ => by
  obtain ⟨p, e1, e2⟩ := bindO e
  obtain ⟨k, e3, e4⟩ := bindO e2
  cases e4
  exact ⟨R, ρ, fs, p.1, p.2, s, e1, fun v H' fs' t s' r => ⟨k, (s'.res r).tru e3, q _ H' fs' t s' (.bl _)⟩⟩
theorem de_if {t : Tf} {f g : Ef} (hc : DT X c τ t) (ha : DE X a τ f) (hb : DE X b τ g) : DE X (.IfExp c a b pos) τ (eIf t f g) := pe_imp (pe_ifExp hc ha hb) fun σ H Q ⟨R, ρ, fs, h, ρ', s, e, q⟩ => by
  obtain ⟨p, e1, e2⟩ := bindO e
  refine ⟨R, ρ, fs, p.1, p.2, s, e1, fun H' fs' t s' => ?_⟩
  cases hp : p.1 with
  | true => rw [hp] at e2; exact iteT ⟨R, p.2, fs', h, ρ', s', e2, fun v H2 fs2 t2 s2 r2 => q v H2 fs2 (t.trans t2) s2 r2⟩
  | false => rw [hp] at e2; exact iteF ⟨R, p.2, fs', h, ρ', s', e2, fun v H2 fs2 t2 s2 r2 => q v H2 fs2 (t.trans t2) s2 r2⟩

/-! ### argument lists: handles -/
def aNil : Af := fun ρ => some ([], ρ)
def aCons (f : Ef) (g : Af) : Af := fun ρ => (f ρ).bind fun p => (g p.2).bind fun q => some (p.1 :: q.1, q.2)
theorem SR.holdHs {K : PySem.W.Frag} {mg : Str → Option Value} {R : List Addr} {ρ : Rho} {σ : L2.St} {H H' : Hp} {fs fs' : List Addr} (s : SR K mg R τ ρ σ H fs) (t : Step H H' fs fs') : ∀ {hs : List Hd} {vs : List V}, RHs K mg (R ++ fs) τ σ H hs vs → RHs K mg (R ++ fs') τ σ H' hs vs
  | _, _, .nil => .nil
  | _, _, .cons h r => .cons (s.holdH t h) (SR.holdHs s t r)
theorem da_nil : DA X [] τ aNil := pa_imp pa_nil fun σ H Q ⟨R, ρ, fs, h, ρ', s, e, q⟩ => by
  cases e
  exact q [] H fs (Step.refl H fs) s .nil
theorem da_cons {f : Ef} {g : Af} (ha : DE X e τ f) (hr : DA X es τ g) (hs : starEach (e :: es) X.env = (false, eval e X.env) :: starEach es X.env := by rfl) : DA X (e :: es) τ (aCons f g) := pa_imp (pa_cons ha hr hs) fun σ H Q ⟨R, ρ, fs, h, ρ', s, e, q⟩ => by
  obtain ⟨p, e1, e2⟩ := bindO e
  obtain ⟨w, e3, e4⟩ := bindO e2
  cases e4
  exact ⟨R, ρ, fs, p.1, p.2, s, e1, fun v H' fs' t s' r => ⟨R, p.2, fs', w.1, w.2, s', e3, fun vs H2 fs2 t2 s2 r2 => q (v :: vs) H2 fs2 (t.trans t2) s2 (.cons (s'.holdH t2 r) r2)⟩⟩
def hvals : List Hd → Option (List D)
  | [] => some []
  | .v d :: r => (hvals r).bind fun ds => some (d :: ds)
  | .x _ :: _ => none
theorem RHs.valsOf {K : PySem.W.Frag} {mg : Str → Option Value} {S : List Addr} {σ : L2.St} {H : Hp} : ∀ {hs : List Hd} {vs : List V} {ds : List D}, RHs K mg S τ σ H hs vs → hvals hs = some ds → Rfs K mg (hide S H) ds vs
  | _, _, _, .nil, e => by cases e; exact .nil
  | _, _, _, .cons (h := h) (hs := hs) r rs, e => by
    cases h with
    | x i => cases e
    | v d =>
      unfold hvals at e
      obtain ⟨ds', e1, e2⟩ := bindO e
      cases e2
      exact .cons r (RHs.valsOf rs e1)
/-! ### displays -/
def eTup (f : Af) : Ef := fun ρ => (f ρ).bind fun p => (hvals p.1).bind fun ds => if okLen ds.length then some (.v (.tup ds), p.2) else none
def oLst (f : Af) : Of := fun ρ => (f ρ).bind fun p => (hvals p.1).bind fun ds => if okLen ds.length then some (.lst ds, p.2) else none
theorem SR.newT {R : List Addr} {ρ : Rho} {σ : L2.St} {H : Hp} {fs : List Addr} {p : Addr} {vs : List V} {ds : List D} (s : SR X.K X.mg R τ ρ σ H fs) (hp : H p = none) (r : Rfs X.K X.mg (hide (R ++ fs) H) ds vs) :
    Rf X.K X.mg (hide (R ++ fs) (upd H p (.tup vs))) (.tup ds) (.ref p) := by
  have hf := s.fresh hp
  refine .tup (.of (hide_some.mpr ⟨hf, upd_same⟩)) (r.mono (hide_grow _ (Grow.upd hp)))
theorem ifSome {α : Type} {c : Bool} {x r : α} (e : (if c then some x else none) = some r) : c = true ∧ x = r := by
  cases c with
  | true => exact ⟨rfl, by simpa using e⟩
  | false => cases e
theorem de_tup {f : Af} {x1} (h : DA X es τ f) : DE X (.Tuple es x1 pos) τ (eTup f) := pe_imp (pe_tup h) fun σ H Q ⟨R, ρ, fs, hh, ρ', s, e, q⟩ => by
  obtain ⟨p, e1, e2⟩ := bindO e
  obtain ⟨ds, e3, e4⟩ := bindO e2
  obtain ⟨e5, e6⟩ := ifSome e4
  cases e6
  refine ⟨R, ρ, fs, p.1, p.2, s, e1, fun vs H' fs' t s' r => ?_⟩
  have rf := r.valsOf e3
  refine ⟨by rw [← rf.length]; exact okLen_le e5, fun a ha => ?_⟩
  exact q _ _ fs' (t.trans (Step.grow (Grow.upd ha) _)) (s'.grow (Grow.upd ha)) (s'.newT ha rf)
theorem do_lst {f : Af} (h : DA X es τ f) : DO X (.List es pos) τ (oLst f) (.oL .sh) := pe_imp (pe_lst h) fun σ H Q ⟨R, ρ, fs, hh, ρ', s, e, q⟩ => by
  obtain ⟨p, e1, e2⟩ := bindO e
  obtain ⟨ds, e3, e4⟩ := bindO e2
  obtain ⟨e5, e6⟩ := ifSome e4
  cases e6
  refine ⟨R, ρ, fs, p.1, p.2, s, e1, fun vs H' fs' t s' r => ?_⟩
  have rf := r.valsOf e3
  refine ⟨by rw [← rf.length]; exact okLen_le e5, fun a ha => ?_⟩
  obtain ⟨n1, n2, n3⟩ := s'.newL ha rf
  exact q _ _ fs' [a] (t.trans n3) n1 n2

/-! ### one-place operators -/
def UnD (X : Cx) (r : V → Hp → VK → Prop) (g : D → Option D) : Prop := ∀ (S : List Addr) (H : Hp) (d1 d : D) (v1 : V) (Q : VK), (∀ a ∈ S, ∃ o, H a = some o ∧ Own o) → Rv X.K X.mg S H d1 v1 → g d1 = some d →
  (∀ v H', Grow H H' → Rf X.K X.mg (hide S H') d v → Q v H') → r v1 H Q
def eUn (g : D → Option D) (f : Ef) : Ef := fun ρ => (f ρ).bind fun p => (g (p.1.res p.2)).bind fun d => some (.v d, p.2)
theorem de_un {op : UnaryOp} {r : V → Hp → VK → Prop} {g : D → Option D} {f : Ef} (ho : UnR X (unaryOp op) r) (o : UnD X r g) (ha : DE X a τ f) : DE X (.UnaryOp op a pos) τ (eUn g f) := pe_imp (pe_un ho ha) fun σ H Q ⟨R, ρ, fs, h, ρ', s, e, q⟩ => by
  obtain ⟨p, e1, e2⟩ := bindO e
  obtain ⟨d, e3, e4⟩ := bindO e2
  cases e4
  exact ⟨R, ρ, fs, p.1, p.2, s, e1, fun v H' fs' t s' r => o (R ++ fs') H' _ _ v Q s'.own (s'.res r) e3 fun v2 H2 g2 rf => q v2 H2 fs' (t.trans (Step.grow g2 _)) (s'.grow g2) rf⟩
/-! ### calls of built-ins -/
inductive Rvs (K : PySem.W.Frag) (mg : Str → Option Value) (S : List Addr) (H : Hp) : List D → List V → Prop
  | nil : Rvs K mg S H [] []
  | cons {d : D} {v : V} {ds : List D} {vs : List V} : Rv K mg S H d v → Rvs K mg S H ds vs → Rvs K mg S H (d :: ds) (v :: vs)
theorem SR.ress {K : PySem.W.Frag} {mg : Str → Option Value} {R : List Addr} {ρ : Rho} {σ : L2.St} {H : Hp} {fs : List Addr} (s : SR K mg R τ ρ σ H fs) : ∀ {hs : List Hd} {vs : List V}, RHs K mg (R ++ fs) τ σ H hs vs → Rvs K mg (R ++ fs) H (hs.map fun h => h.res ρ) vs
  | _, _, .nil => .nil
  | _, _, .cons h r => .cons (s.res h) (SR.ress s r)
def CaD (X : Cx) (r : List V → Hp → VK → Prop) (g : List D → Option D) : Prop := ∀ (S : List Addr) (H : Hp) (ds : List D) (d : D) (vs : List V) (Q : VK), (∀ a ∈ S, ∃ o, H a = some o ∧ Own o) → Rvs X.K X.mg S H ds vs → g ds = some d →
  (∀ v H', Grow H H' → Rf X.K X.mg (hide S H') d v → Q v H') → r vs H Q
def CaO (X : Cx) (r : List V → Hp → VK → Prop) (g : List D → Option (List D)) : Prop := ∀ (S : List Addr) (H : Hp) (ds : List D) (d : List D) (vs : List V) (Q : VK), (∀ a ∈ S, ∃ o, H a = some o ∧ Own o) → Rvs X.K X.mg S H ds vs → g ds = some d →
  (∀ p H1 vs, Grow H H1 → H1 p = none → Rfs X.K X.mg (hide S H1) d vs → Q (.ref p) (upd H1 p (.lst vs))) → r vs H Q
theorem CaD.or {r r' : List V → Hp → VK → Prop} {g g' : List D → Option D} (h : CaD X r g) (h' : CaD X r' g') : CaD X (fun x H Q => r x H Q ∨ r' x H Q) (fun ds => (g ds).or (g' ds)) := fun S H ds d vs Q al r1 e q => by
  cases e1 : g ds with
  | some z => simp only [e1] at e; exact .inl (h S H ds d vs Q al r1 (by rw [e1]; exact e) q)
  | none => simp only [e1] at e; exact .inr (h' S H ds d vs Q al r1 (by simpa using e) q)
def eCa (g : List D → Option D) (f : Af) : Ef := fun ρ => (f ρ).bind fun p => (g (p.1.map fun h => h.res p.2)).bind fun d => some (.v d, p.2)
def oCa (g : List D → Option (List D)) (f : Af) : Of := fun ρ => (f ρ).bind fun p => (g (p.1.map fun h => h.res p.2)).bind fun d => some (.lst d, p.2)
theorem tCB_of {r : List V → Hp → VK → Prop} {g : List D → Option D} {f : Af} (o : CaD X r g) : ∀ σ H Q, tD X τ (eCa g f) σ H Q → tCB r (tA X τ f) σ H Q := fun σ H Q ⟨R, ρ, fs, h, ρ', s, e, q⟩ => by
  obtain ⟨p, e1, e2⟩ := bindO e
  obtain ⟨d, e3, e4⟩ := bindO e2
  cases e4
  exact ⟨R, ρ, fs, p.1, p.2, s, e1, fun v H' fs' t s' r => o (R ++ fs') H' _ _ v Q s'.own (s'.ress r) e3 fun v2 H2 g2 rf => q v2 H2 fs' (t.trans (Step.grow g2 _)) (s'.grow g2) rf⟩
theorem tCBO_of {r : List V → Hp → VK → Prop} {g : List D → Option (List D)} {f : Af} (o : CaO X r g) : ∀ σ H Q, tO X τ (oCa g f) (.oL .sh) σ H Q → tCB r (tA X τ f) σ H Q := fun σ H Q ⟨R, ρ, fs, h, ρ', s, e, q⟩ => by
  obtain ⟨p, e1, e2⟩ := bindO e
  obtain ⟨d, e3, e4⟩ := bindO e2
  cases e4
  refine ⟨R, ρ, fs, p.1, p.2, s, e1, fun v H' fs' t s' r => o (R ++ fs') H' _ _ v Q s'.own (s'.ress r) e3 fun a H1 vs g1 ha rf => ?_⟩
  obtain ⟨n1, n2, n3⟩ := (s'.grow g1).newL ha rf
  exact q _ _ fs' [a] (t.trans ((Step.grow g1 _).trans n3)) n1 n2
variable {x : Str} {p : Pos} {id T : String}
theorem de_callB {r : List V → Hp → VK → Prop} {g : List D → Option D} {f : Af} (hc : CallR X (.builtin id) r) (o : CaD X r g) (hg : Gl X x) (hm : X.mg x = none) (hv : bootBuiltins x = some (.builtin id)) (ha : DA X (e :: es) τ f) (hn : x ≠ "__name__" := by decide) (hdb : (x == ("__debug__" : Str)) = false := by decide)
    (he : starEach (e :: es) X.env = (false, eval e X.env) :: starEach es X.env := by rfl) (hpl : (backTo pos (starEach es X.env)).any (·.1) = false := by rfl) : DE X (.Call (.Name x p) (e :: es) [] pos) τ (eCa g f) := pe_imp (pe_callB hc hg hm hv ha hn hdb he hpl) (tCB_of o)
theorem de_callTy {r : List V → Hp → VK → Prop} {g : List D → Option D} {f : Af} (hc : CallR X (.type T) r) (o : CaD X r g) (hg : Gl X x) (hm : X.mg x = none) (hv : bootBuiltins x = some (.type T)) (ha : DA X (e :: es) τ f) (hn : x ≠ "__name__" := by decide) (hdb : (x == ("__debug__" : Str)) = false := by decide)
    (he : starEach (e :: es) X.env = (false, eval e X.env) :: starEach es X.env := by rfl) (hpl : (backTo pos (starEach es X.env)).any (·.1) = false := by rfl) : DE X (.Call (.Name x p) (e :: es) [] pos) τ (eCa g f) := pe_imp (pe_callTy hc hg hm hv ha hn hdb he hpl) (tCB_of o)
theorem do_callB {r : List V → Hp → VK → Prop} {g : List D → Option (List D)} {f : Af} (hc : CallR X (.builtin id) r) (o : CaO X r g) (hg : Gl X x) (hm : X.mg x = none) (hv : bootBuiltins x = some (.builtin id)) (ha : DA X (e :: es) τ f) (hn : x ≠ "__name__" := by decide) (hdb : (x == ("__debug__" : Str)) = false := by decide)
    (he : starEach (e :: es) X.env = (false, eval e X.env) :: starEach es X.env := by rfl) (hpl : (backTo pos (starEach es X.env)).any (·.1) = false := by rfl) : DO X (.Call (.Name x p) (e :: es) [] pos) τ (oCa g f) (.oL .sh) := pe_imp (pe_callB hc hg hm hv ha hn hdb he hpl) (tCBO_of o)
theorem do_callTy {r : List V → Hp → VK → Prop} {g : List D → Option (List D)} {f : Af} (hc : CallR X (.type T) r) (o : CaO X r g) (hg : Gl X x) (hm : X.mg x = none) (hv : bootBuiltins x = some (.type T)) (ha : DA X (e :: es) τ f) (hn : x ≠ "__name__" := by decide) (hdb : (x == ("__debug__" : Str)) = false := by decide)
    (he : starEach (e :: es) X.env = (false, eval e X.env) :: starEach es X.env := by rfl) (hpl : (backTo pos (starEach es X.env)).any (·.1) = false := by rfl) : DO X (.Call (.Name x p) (e :: es) [] pos) τ (oCa g f) (.oL .sh) := pe_imp (pe_callTy hc hg hm hv ha hn hdb he hpl) (tCBO_of o)
/-! ### slices -/
def SlD (X : Cx) (r : V → Option Int → Option Int → Hp → VK → Prop) (g : D → Option Int → Option Int → Option D) : Prop := ∀ (S : List Addr) (H : Hp) (d1 d : D) (lo hi : Option Int) (v1 : V) (Q : VK), (∀ a ∈ S, ∃ o, H a = some o ∧ Own o) → Rv X.K X.mg S H d1 v1 → g d1 lo hi = some d →
  (∀ v H', Grow H H' → Rf X.K X.mg (hide S H') d v → Q v H') → r v1 lo hi H Q
def SlO (X : Cx) (r : V → Option Int → Option Int → Hp → VK → Prop) (g : D → Option Int → Option Int → Option (List D)) : Prop := ∀ (S : List Addr) (H : Hp) (d1 : D) (d : List D) (lo hi : Option Int) (v1 : V) (Q : VK), (∀ a ∈ S, ∃ o, H a = some o ∧ Own o) → Rv X.K X.mg S H d1 v1 → g d1 lo hi = some d →
  (∀ p vs, H p = none → Rfs X.K X.mg (hide S H) d vs → Q (.ref p) (upd H p (.lst vs))) → r v1 lo hi H Q
abbrev Pf := Rho → Option (Option Int × Rho)
def tP (X : Cx) (τ : List Ty) (f : Pf) : TO := fun σ H Q => ∃ R ρ fs b ρ', SR X.K X.mg R τ ρ σ H fs ∧ f ρ = some (b, ρ') ∧ ∀ H' fs', Step H H' fs fs' → SR X.K X.mg R τ ρ' σ H' fs' → Q b H'
abbrev DP (X : Cx) (e : Option Expr) (τ : List Ty) (f : Pf) : Prop := PO X e (tP X τ f)
theorem po_imp {X : Cx} {e : Option Expr} {t t' : TO} (h : PO X e t) (k : ∀ σ H Q, t' σ H Q → t σ H Q) : PO X e t' := ⟨fun pins s σ H Q I q => h.run pins s σ H Q I (k σ H Q q)⟩
def pNo : Pf := fun ρ => some (none, ρ)
def pSome (f : Ef) : Pf := fun ρ => (f ρ).bind fun p => match p.1 with
  | .v (.int i) => some (some i, p.2)
  | _ => none
theorem dp_no : DP X none τ pNo := po_imp po_none fun σ H Q ⟨R, ρ, fs, h, ρ', s, e, q⟩ => by
  cases e
  exact q H fs (Step.refl H fs) s
theorem dp_some {f : Ef} (h : DE X e τ f) : DP X (some e) τ (pSome f) := po_imp (po_some h) fun σ H Q ⟨R, ρ, fs, h, ρ', s, e, q⟩ => by
  obtain ⟨p, e1, e2⟩ := bindO e
  obtain ⟨p1, p2⟩ := p
  cases p1 with
  | x i => cases e2
  | v d =>
    cases d with
    | int i =>
      cases e2
      refine ⟨R, ρ, fs, _, _, s, e1, fun v H' fs' t s' r => ?_⟩
      cases r
      exact ⟨i, rfl, q H' fs' t s'⟩
    | _ => cases e2
def eSl (g : D → Option Int → Option Int → Option D) (f : Ef) (lo hi : Pf) : Ef := fun ρ => (f ρ).bind fun p => (lo p.2).bind fun l => (hi l.2).bind fun h => (g (p.1.res h.2) l.1 h.1).bind fun d => some (.v d, h.2)
def oSl (g : D → Option Int → Option Int → Option (List D)) (f : Ef) (lo hi : Pf) : Of := fun ρ => (f ρ).bind fun p => (lo p.2).bind fun l => (hi l.2).bind fun h => (g (p.1.res h.2) l.1 h.1).bind fun d => some (.lst d, h.2)
theorem de_slice {r : V → Option Int → Option Int → Hp → VK → Prop} {g : D → Option Int → Option Int → Option D} {f : Ef} {lo hi : Pf} {l u : Option Expr} {p2 : Pos} (hr : SlR X r) (o : SlD X r g) (he : DE X e τ f) (hl : DP X l τ lo) (hu : DP X u τ hi) :
    DE X (.Subscript e (.Slice l u none p2) pos) τ (eSl g f lo hi) := pe_imp (pe_slice hr he hl hu) fun σ H Q ⟨R, ρ, fs, h, ρ', s, e, q⟩ => by
  obtain ⟨p, e1, e2⟩ := bindO e
  obtain ⟨w, e3, e4⟩ := bindO e2
  obtain ⟨z, e5, e6⟩ := bindO e4
  obtain ⟨d, e7, e8⟩ := bindO e6
  cases e8
  refine ⟨R, ρ, fs, p.1, p.2, s, e1, fun v H' fs' t s' r => ⟨R, p.2, fs', w.1, w.2, s', e3, fun H2 fs2 t2 s2 => ⟨R, w.2, fs2, z.1, z.2, s2, e5, fun H3 fs3 t3 s3 => ?_⟩⟩⟩
  exact o (R ++ fs3) H3 _ _ _ _ v Q s3.own (s3.res (s2.holdH t3 (s'.holdH t2 r))) e7 fun v4 H4 g4 rf => q v4 H4 fs3 ((t.trans t2).trans (t3.trans (Step.grow g4 _))) (s3.grow g4) rf
theorem do_slice {r : V → Option Int → Option Int → Hp → VK → Prop} {g : D → Option Int → Option Int → Option (List D)} {f : Ef} {lo hi : Pf} {l u : Option Expr} {p2 : Pos} (hr : SlR X r) (o : SlO X r g) (he : DE X e τ f) (hl : DP X l τ lo) (hu : DP X u τ hi) :
    DO X (.Subscript e (.Slice l u none p2) pos) τ (oSl g f lo hi) (.oL .sh) := pe_imp (pe_slice hr he hl hu) fun σ H Q ⟨R, ρ, fs, h, ρ', s, e, q⟩ => by
  obtain ⟨p, e1, e2⟩ := bindO e
  obtain ⟨w, e3, e4⟩ := bindO e2
  obtain ⟨z, e5, e6⟩ := bindO e4
  obtain ⟨d, e7, e8⟩ := bindO e6
  cases e8
  refine ⟨R, ρ, fs, p.1, p.2, s, e1, fun v H' fs' t s' r => ⟨R, p.2, fs', w.1, w.2, s', e3, fun H2 fs2 t2 s2 => ⟨R, w.2, fs2, z.1, z.2, s2, e5, fun H3 fs3 t3 s3 => ?_⟩⟩⟩
  refine o (R ++ fs3) H3 _ _ _ _ v Q s3.own (s3.res (s2.holdH t3 (s'.holdH t2 r))) e7 fun a vs ha rf => ?_
  obtain ⟨n1, n2, n3⟩ := s3.newL ha rf
  exact q _ _ fs3 [a] (((t.trans t2).trans t3).trans n3) n1 n2
/-! ### methods of built-in types that change nothing -/
def MtD (X : Cx) (T : String) (r : V → List V → Hp → VK → Prop) (g : D → List D → Option D) : Prop := ∀ (S : List Addr) (H : Hp) (d1 : D) (ds : List D) (d : D) (v1 : V) (vs : List V) (Q : VK), (∀ a ∈ S, ∃ o, H a = some o ∧ Own o) → Rv X.K X.mg S H d1 v1 → Rvs X.K X.mg S H ds vs → g d1 ds = some d →
  (∀ v H', Grow H H' → Rf X.K X.mg (hide S H') d v → Q v H') → r v1 vs H Q
end
end TL

namespace TL
open PySem PySem.Spec PyProof.Rows L2

/-! ### slots changed -/
def kill (ks : List Nat) (ρ : Rho) : Rho := ks.foldl (fun r i => r.set i .non) ρ
def killT (ks : List Nat) (τ : List Ty) : List Ty := ks.foldl (fun r i => r.set i .no) τ
section
variable {K : PySem.W.Frag} {mg : Str → Option Value} {R : List Addr} {τ : List Ty} {ρ : Rho} {σ : L2.St} {H H' : Hp} {fs fs' : List Addr}
theorem hide_sub {S S' : List Addr} {H : Hp} (k : ∀ a ∈ S', a ∈ S) : Le (hide S H) (hide S' H) := hide_mono fun a o n e => ⟨fun z => n (k a z), e⟩
theorem nodup_mid {A f1 fo f2 f' : List Addr} (h : (A ++ (f1 ++ fo ++ f2)).Nodup) (k : ∀ a ∈ f', a ∉ A ++ (f1 ++ f2)) (n : f'.Nodup) : (A ++ (f1 ++ f' ++ f2)).Nodup := by
  simp only [List.nodup_append, List.mem_append, not_or] at h k ⊢
  obtain ⟨hA, ⟨⟨h1, ho, h1o⟩, h2, h12⟩, hx⟩ := h
  refine ⟨hA, ⟨⟨h1, n, fun a ha b hb e => ?_⟩, h2, fun a ha b hb e => ?_⟩, fun a ha b hb e => ?_⟩
  · subst e; exact (k _ hb).2.1 ha
  · subst e
    rcases ha with ha | ha
    · exact h12 _ (.inl ha) _ hb rfl
    · exact (k _ ha).2.2 hb
  · subst e
    rcases hb with (hb | hb) | hb
    · exact hx _ ha _ (.inl (.inl hb)) rfl
    · exact (k _ hb).1 ha
    · exact hx _ ha _ (.inr hb) rfl
/-- a value goes into a slot -/
theorem SR.put {fv : List Addr} {i : Nat} {t : Ty} {d : D} {v : V} (s : SR K mg (fv ++ R) τ ρ σ H fs) (hi : i < τ.length) (r : Rp K mg H (hide (fv ++ R ++ fs) H) t d v fv) :
    ∃ fs', SR K mg R (τ.set i t) (ρ.set i d) (σ.set i (some v)) H fs' ∧ ∀ a ∈ fs', a ∈ fv ++ fs := by
  obtain ⟨f1, fo, f2, ef, ho, hl, h1, h2, h3⟩ := s.sl.split (List.getElem?_eq_getElem hi)
  have nd := s.nd
  subst ef
  have sub : ∀ a ∈ R ++ (f1 ++ fv ++ f2), a ∈ fv ++ R ++ (f1 ++ fo ++ f2) := by
    intro a ha
    simp only [List.mem_append] at ha ⊢
    rcases ha with h | (h | h) | h <;> simp [h]
  have le : Le (hide (fv ++ R ++ (f1 ++ fo ++ f2)) H) (hide (R ++ (f1 ++ fv ++ f2)) H) := hide_sub sub
  refine ⟨f1 ++ fv ++ f2, ⟨h1 (fun _ _ => rfl) le (r.mono le fun _ _ => rfl), ?_, fun a ha => s.al a (List.mem_append_right _ ha)⟩, fun a ha => ?_⟩
  · have nd' : (R ++ (f1 ++ fo ++ f2)).Nodup := by
      rw [List.append_assoc] at nd
      exact (List.nodup_append.mp nd).2.1
    refine nodup_mid nd' (fun a ha z => ?_) ?_
    · rw [List.append_assoc] at nd
      exact (List.nodup_append.mp nd).2.2 a ha a (by
        simp only [List.mem_append] at z ⊢
        rcases z with h | h | h <;> simp [h]) rfl
    · rw [List.append_assoc] at nd
      exact (List.nodup_append.mp nd).1
  · simp only [List.mem_append] at ha ⊢
    rcases ha with (h | h) | h <;> simp [h]
theorem set_getD {α : Type} (d : α) : ∀ (l : List α) (i : Nat), l.set i (l.getD i d) = l
  | [], _ => rfl
  | a :: r, 0 => rfl
  | a :: r, i + 1 => by simpa using set_getD d r i
theorem set_at {α : Type} : ∀ {l : List α} {i : Nat} {t : α}, l[i]? = some t → l.set i t = l
  | [], _, _, e => by simp at e
  | a :: r, 0, t, e => by simp at e; simp [e]
  | a :: r, i + 1, t, e => by simpa using set_at (l := r) (i := i) (by simpa using e)
theorem SR.frz {i : Nat} {t : Ty} (s : SR K mg R τ ρ σ H fs) (e : τ[i]? = some t) (n : t ≠ .no) : ∃ fs', SR K mg R (τ.set i .sh) ρ σ H fs' ∧ ∀ a ∈ fs', a ∈ fs := by
  obtain ⟨f1, fo, f2, ef, ho, hl, h1, h2, h3⟩ := s.sl.split e
  subst ef
  rcases ho with ⟨z, _⟩ | ⟨v, ev, r⟩
  · exact absurd z n
  · have le : Le (hide (R ++ (f1 ++ fo ++ f2)) H) (hide (R ++ (f1 ++ [] ++ f2)) H) := hide_sub fun a ha => by
      simp only [List.mem_append] at ha ⊢
      rcases ha with h | (h | h) | h
      · simp [h]
      · simp [h]
      · simp at h
      · simp [h]
    have nd := s.nd
    have rf : Rf K mg (hide (R ++ (f1 ++ [] ++ f2)) H) (ρ.getD i .non) v := r.frz le fun a ha o eo => hide_some.mpr ⟨fun z => ?_, eo⟩
    · have q := h2 (fun _ _ => rfl) le ev (.sh rf)
      rw [set_getD] at q
      refine ⟨f1 ++ [] ++ f2, ⟨q, nodup_mid nd (fun a ha => nomatch ha) List.nodup_nil, s.al⟩, fun a ha => ?_⟩
      simp only [List.mem_append] at ha ⊢
      rcases ha with (h | h) | h
      · simp [h]
      · simp at h
      · simp [h]
    · simp only [List.nodup_append, List.mem_append] at nd
      simp only [List.mem_append] at z
      rcases z with z | (z | z) | z
      · exact nd.2.2 a z a (.inl (.inr ha)) rfl
      · exact nd.2.1.1.2.2 a z a ha rfl
      · simp at z
      · exact nd.2.1.2.2 a (.inr ha) a z rfl
theorem SR.kill1 (s : SR K mg R τ ρ σ H fs) (i : Nat) (d : D) : ∃ fs', SR K mg R (τ.set i .no) (ρ.set i d) σ H fs' ∧ ∀ a ∈ fs', a ∈ fs := by
  by_cases hi : i < τ.length
  · obtain ⟨f1, fo, f2, ef, ho, hl, h1, h2, h3⟩ := s.sl.split (List.getElem?_eq_getElem hi)
    subst ef
    have nd := s.nd
    refine ⟨f1 ++ f2, ⟨h3 (fun _ _ => rfl) (hide_sub fun a ha => ?_), ?_, s.al⟩, fun a ha => ?_⟩
    · simp only [List.mem_append] at ha ⊢
      rcases ha with h | h | h <;> simp [h]
    · have := nodup_mid nd (f' := []) (fun a ha => nomatch ha) List.nodup_nil
      simpa using this
    · simp only [List.mem_append] at ha ⊢
      rcases ha with h | h <;> simp [h]
  · have hl := s.sl.len
    rw [List.set_eq_of_length_le (by omega), List.set_eq_of_length_le (by omega)]
    exact ⟨fs, s, fun _ h => h⟩
theorem SR.killS : ∀ (ks : List Nat) {τ : List Ty} {ρ : Rho} {fs : List Addr}, SR K mg R τ ρ σ H fs → ∃ fs', SR K mg R (killT ks τ) (kill ks ρ) σ H fs' ∧ ∀ a ∈ fs', a ∈ fs
  | [], _, _, fs, s => ⟨fs, s, fun _ h => h⟩
  | i :: ks, _, _, _, s => by
    obtain ⟨f1, s1, k1⟩ := s.kill1 i .non
    obtain ⟨f2, s2, k2⟩ := SR.killS ks s1
    exact ⟨f2, s2, fun a ha => k1 a (k2 a ha)⟩
end

/-! ### a def's promise -/
structure Sg where
  ps : List Ty
  ret : Ty
def Ty.io : Ty → Ty
  | .sh => .no
  | t => t
/-- the result, and the parameters' trees behind the call -/
abbrev Fm := List D → Option (D × List D)
def spD (K : PySem.W.Frag) (mg : Str → Option Value) (sg : Sg) (F : Fm) : Sp := fun vs H Q _ => ∃ R ds fs d ds', SR K mg R sg.ps ds (vs.map some) H fs ∧ F ds = some (d, ds') ∧
  ∀ v H' fs' fv, Step H H' fs (fv ++ fs') → SR K mg (fv ++ R) (sg.ps.map Ty.io) ds' (vs.map some) H' fs' → Rp K mg H' (hide (fv ++ R ++ fs') H') sg.ret d v fv → Q v H'
abbrev FnD (P : Program) (w : World) (K : PySem.W.Frag) (mg : Str → Option Value) (base : Heap) (k : Nat) (f : Addr) (fd : FuncData) (ps : List Str) (sg : Sg) (F : Fm) : Prop := FnOk P w K mg base CX0 k f fd ps (spD K mg sg F)
theorem Sl.of_sh {K : PySem.W.Frag} {mg : Str → Option Value} {H G : Hp} : ∀ {ds : List D} {vs : List V}, Rfs K mg G ds vs → Sl K mg H G (List.replicate ds.length .sh) ds (vs.map some) []
  | _, _, .nil => .nil
  | _, _, .cons h r => by
    have q := Sl.cons (Rp.sh (K := K) (mg := mg) (H := H) h) (Sl.of_sh r)
    exact q
theorem SR.args {K : PySem.W.Frag} {mg : Str → Option Value} {S : List Addr} {H : Hp} {ds : List D} {vs : List V} (r : Rfs K mg (hide S H) ds vs) (nd : S.Nodup) (al : ∀ a ∈ S, ∃ o, H a = some o ∧ Own o) : SR K mg S (List.replicate ds.length .sh) ds (vs.map some) H [] := by
  refine ⟨?_, by simpa using nd, al⟩
  rw [List.append_nil]
  exact Sl.of_sh r

section
variable {X : Cx} {τ : List Ty} {a b c e : Expr} {es : List Expr} {pos p : Pos} {x : Str} {k : Nat} {f : Addr} {fd : FuncData} {ps : List Str} {sg : Sg} {F : Fm}
/-! ### a call: all arguments frozen -/
def oCall (F : Fm) (g : Af) : Of := fun ρ => (g ρ).bind fun p => (hvals p.1).bind fun ds => (F ds).bind fun r => some (r.1, p.2)
theorem hvals_len : ∀ {hs : List Hd} {ds : List D}, hvals hs = some ds → ds.length = hs.length
  | [], _, e => by cases e; rfl
  | .v d :: r, _, e => by
    obtain ⟨ds, e1, e2⟩ := bindO (show (hvals r).bind _ = _ from e)
    cases e2
    simp [hvals_len e1]
  | .x i :: r, _, e => by cases e
theorem do_call {g : Af} (Fo : FnD X.prog X.w X.K X.mg X.base k f fd ps sg F) (hr : Room k X.A) (hg : Gl X x) (hm : X.mg x = some (.ref f)) (hk : PySem.W.keepIn X.K (.ref f) = true) (hb : Binds X.K fd ps [])
    (ha : DA X (e :: es) τ g) (n : Nat) (hps : sg.ps = List.replicate n .sh) (hn : ∀ ds r, F ds = some r → ds.length = n) (hdb : (x == ("__debug__" : Str)) = false := by decide) (he : starEach (e :: es) X.env = (false, eval e X.env) :: starEach es X.env := by rfl) (hpl : (backTo pos (starEach es X.env)).any (·.1) = false := by rfl) :
    DO X (.Call (.Name x p) (e :: es) [] pos) τ (oCall F g) sg.ret := pe_imp (pe_call Fo hr hg hm hk hb .nil (pass0 (X := X)) ha hdb he hpl) fun σ H Q ⟨R, ρ, fs, d, ρ', s, eq, q⟩ => by
  obtain ⟨w, e1, e2⟩ := bindO eq
  obtain ⟨ds, e3, e4⟩ := bindO e2
  obtain ⟨r, e5, e6⟩ := bindO e4
  cases e6
  refine ⟨R, ρ, fs, w.1, w.2, s, e1, fun vs H1 fs1 t1 s1 r1 => ?_⟩
  have rf := r1.valsOf e3
  show spD X.K X.mg sg F (vs ++ []) H1 Q E0
  rw [List.append_nil]
  have sa := SR.args rf s1.nd s1.own
  rw [hn _ _ e5, ← hps] at sa
  refine ⟨R ++ fs1, ds, [], r.1, r.2, sa, e5, fun v H2 fs2 fv t2 s2 rp => ?_⟩
  have gr : Grow H1 H2 := fun a o e => t2.ext a o (by simp) e
  have fr : ∀ a ∈ fv, H1 a = none := fun a ha => (t2.sub a (List.mem_append_left _ ha)).elim (fun z => by simp at z) id
  have nd2 := s2.nd
  refine q v H2 fs1 fv (t1.trans ⟨fun a o _ e => gr a o e, fun a ha => (List.mem_append.mp ha).elim (fun z => .inr (fr a z)) .inl, fun a o e => ⟨o, gr a o e⟩⟩) ⟨s1.sl.mono ?_ ?_, ?_, fun a ha => ?_⟩ (rp.mono ?_ fun _ _ => rfl)
  · refine hide_mono fun a o n e => ⟨fun z => ?_, gr a o e⟩
    simp only [List.mem_append] at z n
    rcases z with (z | z) | z
    · rw [fr a z] at e; cases e
    · exact n (.inl z)
    · exact n (.inr z)
  · intro a ha
    obtain ⟨o, e, _⟩ := s1.sl.there a ha
    rw [e, gr a o e]
  · rw [List.append_assoc] at nd2
    have := List.nodup_append.mp nd2
    rw [List.append_assoc, List.nodup_append]
    refine ⟨this.1, s1.nd, fun a ha b hb => this.2.2 a ha b (List.mem_append_left _ hb)⟩
  · rcases List.mem_append.mp ha with z | z
    · exact s2.own a (List.mem_append_left _ (List.mem_append_left _ z))
    · obtain ⟨o, e, w⟩ := s1.al a z
      exact ⟨o, gr a o e, w⟩
  · exact hide_sub fun a ha => by
      simp only [List.mem_append] at ha ⊢
      rcases ha with (z | z) | z <;> simp [z]

/-! ### a call with borrowed lists: what comes back holds none -/
def immL (l : List D) (f : D → Bool) : Bool := l.all f
mutual
def imm : D → Bool
  | .tup l => imms l
  | .lst _ => false
  | .dct _ => false
  | .set _ => false
  | .obj _ _ => false
  | .scr _ => false
  | _ => true
def imms : List D → Bool
  | [] => true
  | d :: r => imm d && imms r
end
def immR : Ty → D → Bool
  | .sh, d => imm d
  | .oL .sh, .lst l => imms l
  | _, _ => false
mutual
theorem Rf.imm {K : PySem.W.Frag} {mg : Str → Option Value} {G G' : Hp} (h : ∀ a xs, G a = some (.tup xs) → G' a = some (.tup xs)) (hf : ∀ a o u, G a = some (.frz o u) → G' a = some (.frz o u)) : ∀ {d : D} {v : V}, imm d = true → Rf K mg G d v → Rf K mg G' d v
  | _, _, _, .non => .non
  | _, _, _, .bl b => .bl b
  | _, _, _, .int i => .int i
  | _, _, _, .str s => .str s
  | _, _, e, .tup q r => .tup (by
      rcases q with (q | ⟨o, q⟩) | q
      · exact .inl (.inl (h _ _ q))
      · exact .inl (.inr ⟨o, hf _ _ _ q⟩)
      · exact .inr q) (Rfs.imm h hf (by simpa [TL.imm] using e) r)
  | _, _, e, .lst _ _ => by simp [TL.imm] at e
  | _, _, e, .dK _ _ _ => by simp [TL.imm] at e
  | _, _, e, .dT _ _ _ => by simp [TL.imm] at e
  | _, _, e, .obj _ _ _ _ => by simp [TL.imm] at e
  | _, _, e, .scr _ => by simp [TL.imm] at e
theorem Rfs.imm {K : PySem.W.Frag} {mg : Str → Option Value} {G G' : Hp} (h : ∀ a xs, G a = some (.tup xs) → G' a = some (.tup xs)) (hf : ∀ a o u, G a = some (.frz o u) → G' a = some (.frz o u)) : ∀ {d : List D} {v : List V}, imms d = true → Rfs K mg G d v → Rfs K mg G' d v
  | _, _, _, .nil => .nil
  | _, _, e, .cons q r => .cons (Rf.imm h hf (by simp [imms] at e; exact e.1) q) (Rfs.imm h hf (by simp [imms] at e; exact e.2) r)
end
theorem Rv.whole {K : PySem.W.Frag} {mg : Str → Option Value} {S : List Addr} {H : Hp} {d : D} {v : V} (r : Rv K mg S H d v) : Rf K mg (hide [] H) d v := by
  have le : Le (hide S H) (hide [] H) := hide_sub fun a ha => by simp at ha
  have eq : hide [] H = H := by funext a; simp [hide]
  rw [eq] at le ⊢
  cases r with
  | rf r => exact r.mono le
  | lst h r => exact .lst h (r.mono le)
  | dK h n r => exact .dK h n (r.mono le)
  | dT h n r => exact .dT h n (r.mono le)
theorem Rvs.whole {K : PySem.W.Frag} {mg : Str → Option Value} {S : List Addr} {H : Hp} : ∀ {d : List D} {v : List V}, Rvs K mg S H d v → Rfs K mg (hide [] H) d v
  | _, _, .nil => .nil
  | _, _, .cons h r => .cons h.whole (Rvs.whole r)
def oCallB (t : Ty) (F : Fm) (g : Af) : Of := fun ρ => (g ρ).bind fun p => (F (p.1.map fun h => h.res p.2)).bind fun r => if immR t r.1 then some (r.1, p.2) else none
theorem do_callB' {g : Af} (Fo : FnD X.prog X.w X.K X.mg X.base k f fd ps sg F) (hr : Room k X.A) (hg : Gl X x) (hm : X.mg x = some (.ref f)) (hk : PySem.W.keepIn X.K (.ref f) = true) (hb : Binds X.K fd ps [])
    (ha : DA X (e :: es) τ g) (n : Nat) (hps : sg.ps = List.replicate n .sh) (hn : ∀ ds r, F ds = some r → ds.length = n) (hdb : (x == ("__debug__" : Str)) = false := by decide) (he : starEach (e :: es) X.env = (false, eval e X.env) :: starEach es X.env := by rfl) (hpl : (backTo pos (starEach es X.env)).any (·.1) = false := by rfl) :
    DO X (.Call (.Name x p) (e :: es) [] pos) τ (oCallB sg.ret F g) sg.ret := pe_imp (pe_call Fo hr hg hm hk hb .nil (pass0 (X := X)) ha hdb he hpl) fun σ H Q ⟨R, ρ, fs, d, ρ', s, eq, q⟩ => by
  obtain ⟨w, e1, e2⟩ := bindO eq
  obtain ⟨r, e5, e6⟩ := bindO e2
  obtain ⟨e7, e8⟩ := ifSome e6
  cases e8
  refine ⟨R, ρ, fs, w.1, w.2, s, e1, fun vs H1 fs1 t1 s1 r1 => ?_⟩
  have rf := (s1.ress r1).whole
  show spD X.K X.mg sg F (vs ++ []) H1 Q E0
  rw [List.append_nil]
  have sa := SR.args rf List.nodup_nil (fun a ha => nomatch ha)
  rw [hn _ _ e5, ← hps] at sa
  refine ⟨[], _, [], r.1, r.2, sa, e5, fun v H2 fs2 fv t2 s2 rp => ?_⟩
  have gr : Grow H1 H2 := fun a o e => t2.ext a o (by simp) e
  have fr : ∀ a ∈ fv, H1 a = none := fun a ha => (t2.sub a (List.mem_append_left _ ha)).elim (fun z => by simp at z) id
  have nd2 := s2.nd
  have nfv : fv.Nodup := by
    simp only [List.append_nil] at nd2
    exact (List.nodup_append.mp nd2).1
  have own2 : ∀ a ∈ R ++ fs1, ∃ o, H2 a = some o ∧ Own o := fun a ha => by
    obtain ⟨o, e, w⟩ := s1.own a ha
    exact ⟨o, gr a o e, w⟩
  have dis : ∀ a ∈ fv, a ∉ R ++ fs1 := fun a ha z => by
    obtain ⟨o, e, _⟩ := s1.own a z
    rw [fr a ha] at e; cases e
  have immk : ∀ a xs, hide (fv ++ [] ++ fs2) H2 a = some (.tup xs) → hide (fv ++ R ++ fs1) H2 a = some (.tup xs) := fun a xs e => by
    rw [hide_some] at e ⊢
    refine ⟨fun z => ?_, e.2⟩
    rw [List.append_assoc] at z
    rcases List.mem_append.mp z with z | z
    · exact e.1 (by simp [z])
    · obtain ⟨o, e', w⟩ := own2 a z
      rw [e.2] at e'; cases e'; exact w
  have immf : ∀ a o u, hide (fv ++ [] ++ fs2) H2 a = some (.frz o u) → hide (fv ++ R ++ fs1) H2 a = some (.frz o u) := fun a o u e => by
    rw [hide_some] at e ⊢
    refine ⟨fun z => ?_, e.2⟩
    rw [List.append_assoc] at z
    rcases List.mem_append.mp z with z | z
    · exact e.1 (by simp [z])
    · obtain ⟨o, e', w⟩ := own2 a z
      rw [e.2] at e'; cases e'; exact w
  refine q v H2 fs1 fv (t1.trans ⟨fun a o _ e => gr a o e, fun a ha => (List.mem_append.mp ha).elim (fun z => .inr (fr a z)) .inl, fun a o e => ⟨o, gr a o e⟩⟩) ⟨s1.sl.mono ?_ ?_, ?_, fun a ha => ?_⟩ ?_
  · refine hide_mono fun a o n e => ⟨fun z => ?_, gr a o e⟩
    simp only [List.mem_append] at z n
    rcases z with (z | z) | z
    · rw [fr a z] at e; cases e
    · exact n (.inl z)
    · exact n (.inr z)
  · intro a ha
    obtain ⟨o, e, _⟩ := s1.sl.there a ha
    rw [e, gr a o e]
  · rw [List.append_assoc, List.nodup_append]
    exact ⟨nfv, s1.nd, fun a ha b hb e => dis a ha (e ▸ hb)⟩
  · rcases List.mem_append.mp ha with z | z
    · exact s2.own a (by simp [z])
    · obtain ⟨o, e, w⟩ := s1.al a z
      exact ⟨o, gr a o e, w⟩
  · revert rp e7
    cases hret : sg.ret with
    | sh =>
      intro e7 rp
      cases rp with
      | sh rp => exact .sh (rp.imm immk immf e7)
    | oL t =>
      cases t with
      | sh =>
        intro e7 rp
        generalize r.1 = dd at e7 rp
        cases rp with
        | oL h rp =>
          have z := rp.to_sh
          have z2 := z.2
          subst z2
          exact .oL h (Rps.of_sh (z.1.imm immk immf e7))
      | _ => intro e7; simp [immR] at e7
    | _ => intro e7; simp [immR] at e7

/-! ### a call that changes one of its arguments -/
inductive RHi (K : PySem.W.Frag) (mg : Str → Option Value) (S : List Addr) (τ : List Ty) (σ : L2.St) (H : Hp) : Hd → V → Prop
  | rh {h : Hd} {v : V} : RH K mg S τ σ H h v → RHi K mg S τ σ H h v
  | io {i : Nat} {v : V} : σ[i]? = some (some v) → RHi K mg S τ σ H (.x i) v
inductive RHis (K : PySem.W.Frag) (mg : Str → Option Value) (S : List Addr) (τ : List Ty) (σ : L2.St) (H : Hp) : List Hd → List V → Prop
  | nil : RHis K mg S τ σ H [] []
  | cons {h : Hd} {v : V} {hs : List Hd} {vs : List V} : RHi K mg S τ σ H h v → RHis K mg S τ σ H hs vs → RHis K mg S τ σ H (h :: hs) (v :: vs)
def tAi (X : Cx) (τ : List Ty) (f : Af) : TA := fun σ H Q => ∃ R ρ fs hs ρ', SR X.K X.mg R τ ρ σ H fs ∧ f ρ = some (hs, ρ') ∧
  ∀ vs H' fs', Step H H' fs fs' → SR X.K X.mg R τ ρ' σ H' fs' → RHis X.K X.mg (R ++ fs') τ σ H' hs vs → Q vs H'
abbrev DAi (X : Cx) (es : List Expr) (τ : List Ty) (f : Af) : Prop := PA X es (tAi X τ f)
theorem SR.holdHi {K : PySem.W.Frag} {mg : Str → Option Value} {R : List Addr} {ρ : Rho} {σ : L2.St} {H H' : Hp} {fs fs' : List Addr} (s : SR K mg R τ ρ σ H fs) (t : Step H H' fs fs') {h : Hd} {v : V} (r : RHi K mg (R ++ fs) τ σ H h v) : RHi K mg (R ++ fs') τ σ H' h v := by
  cases r with
  | rh r => exact .rh (s.holdH t r)
  | io e => exact .io e
theorem dai_nil : DAi X [] τ aNil := pa_imp pa_nil fun σ H Q ⟨R, ρ, fs, h, ρ', s, e, q⟩ => by
  cases e
  exact q [] H fs (Step.refl H fs) s .nil
theorem dai_cons {f : Ef} {g : Af} (ha : DE X e τ f) (hr : DAi X es τ g) (hs : starEach (e :: es) X.env = (false, eval e X.env) :: starEach es X.env := by rfl) : DAi X (e :: es) τ (aCons f g) := pa_imp (pa_cons ha hr hs) fun σ H Q ⟨R, ρ, fs, h, ρ', s, e, q⟩ => by
  obtain ⟨p, e1, e2⟩ := bindO e
  obtain ⟨w, e3, e4⟩ := bindO e2
  cases e4
  exact ⟨R, ρ, fs, p.1, p.2, s, e1, fun v H' fs' t s' r => ⟨R, p.2, fs', w.1, w.2, s', e3, fun vs H2 fs2 t2 s2 r2 => q (v :: vs) H2 fs2 (t.trans t2) s2 (.cons (s'.holdHi t2 (.rh r)) r2)⟩⟩
theorem dai_io {g : Af} (i : Nat) {t : Ty} (ha : PE X e (tVar i)) (hr : DAi X es τ g) (ht : τ[i]? = some t := by rfl) (hn : t ≠ .no := by intro z; cases z) (hs : starEach (e :: es) X.env = (false, eval e X.env) :: starEach es X.env := by rfl) : DAi X (e :: es) τ (aCons (eOwn i) g) := pa_imp (pa_cons ha hr hs) fun σ H Q ⟨R, ρ, fs, h, ρ', s, e, q⟩ => by
  obtain ⟨p, e1, e2⟩ := bindO e
  obtain ⟨w, e3, e4⟩ := bindO e2
  cases e4
  cases e1
  obtain ⟨v, f, ev, _, _⟩ := s.get ht hn
  exact ⟨v, ev, R, ρ, fs, w.1, w.2, s, e3, fun vs H2 fs2 t2 s2 r2 => q (v :: vs) H2 fs2 t2 s2 (.cons (.io ev) r2)⟩
/-- the parameters' kinds: all frozen but the j-th -/
def ioPs (n j : Nat) (t : Ty) : List Ty := (List.replicate n .sh).set j t
/-- the handles: all values but the j-th, which is the slot i -/
def hvI (i : Nat) : List Hd → Nat → Rho → Option (List D)
  | [], _, _ => none
  | .x m :: r, 0, ρ => if m == i then (hvals r).bind fun ds => some (ρ.getD i .non :: ds) else none
  | .v _ :: _, 0, _ => none
  | .v d :: r, j + 1, ρ => (hvI i r j ρ).bind fun ds => some (d :: ds)
  | .x _ :: _, _ + 1, _ => none
def oCallI (F : Fm) (i j : Nat) (g : Af) : Of := fun ρ => (g ρ).bind fun p => (hvI i p.1 j p.2).bind fun ds => (F ds).bind fun r => some (r.1, p.2.set i (r.2.getD j .non))
theorem RHis.valsOf {K : PySem.W.Frag} {mg : Str → Option Value} {S : List Addr} {σ : L2.St} {H : Hp} : ∀ {hs : List Hd} {vs : List V} {ds : List D}, RHis K mg S τ σ H hs vs → hvals hs = some ds → Rfs K mg (hide S H) ds vs
  | _, _, _, .nil, e => by cases e; exact .nil
  | _, _, _, .cons (h := h) (hs := hs) r rs, e => by
    cases h with
    | x i => cases e
    | v d =>
      obtain ⟨ds', e1, e2⟩ := bindO (show (hvals hs).bind _ = _ from e)
      cases e2
      cases r with
      | rh r => exact .cons r (RHis.valsOf rs e1)
theorem RHis.argsI {K : PySem.W.Frag} {mg : Str → Option Value} {S : List Addr} {σ : L2.St} {H : Hp} {ρ : Rho} {t : Ty} {v : V} {fo : List Addr} {i : Nat} (ev : σ[i]? = some (some v)) (rp : Rp K mg H (hide S H) t (ρ.getD i .non) v fo) : ∀ {hs : List Hd} {vs : List V} {ds : List D} {j : Nat}, RHis K mg S τ σ H hs vs → hvI i hs j ρ = some ds →
    Sl K mg H (hide S H) (ioPs ds.length j t) ds (vs.map some) fo ∧ vs[j]? = some v ∧ j < ds.length
  | _, _, _, _, .nil, e => by cases e
  | _, _, _, 0, .cons (h := h) (v := v0) (hs := hs) r rs, e => by
    cases h with
    | v d => cases e
    | x m =>
      obtain ⟨e1, e2⟩ := ifSome' (x := ()) (r := ()) (c := m == i) (by
        unfold hvI at e
        by_cases q : (m == i) = true
        · simp [q]
        · rw [if_neg q] at e; cases e)
      have em : m = i := by simpa using e1
      subst em
      unfold hvI at e
      rw [if_pos e1] at e
      obtain ⟨ds', e3, e4⟩ := bindO e
      cases e4
      have ev' : σ[m]? = some (some v0) := by
        cases r with
        | rh r => exact r.1
        | io r => exact r
      rw [ev] at ev'; cases ev'
      have q := Sl.cons rp (Sl.of_sh (H := H) (rs.valsOf e3))
      rw [List.append_nil] at q
      exact ⟨q, rfl, by simp⟩
  | _, _, _, j + 1, .cons (h := h) (hs := hs) r rs, e => by
    cases h with
    | x i => cases e
    | v d =>
      obtain ⟨ds', e1, e2⟩ := bindO (show (hvI i hs j ρ).bind _ = _ from e)
      cases e2
      obtain ⟨q, q2, q3⟩ := RHis.argsI ev rp rs e1
      cases r with
      | rh r =>
        exact ⟨Sl.cons (Rp.sh (H := H) r) q, by simpa using q2, by simpa using q3⟩
theorem do_callI {g : Af} {t : Ty} (i j n : Nat) (Fo : FnD X.prog X.w X.K X.mg X.base k f fd ps sg F) (hr : Room k X.A) (hg : Gl X x) (hm : X.mg x = some (.ref f)) (hk : PySem.W.keepIn X.K (.ref f) = true) (hb : Binds X.K fd ps [])
    (ha : DAi X (e :: es) τ g) (hps : sg.ps = ioPs n j t) (hn : ∀ ds r, F ds = some r → ds.length = n) (ht : τ[i]? = some t := by rfl) (hno : t ≠ .no := by intro z; cases z) (hsh : t.io = t := by rfl) (hdb : (x == ("__debug__" : Str)) = false := by decide) (he : starEach (e :: es) X.env = (false, eval e X.env) :: starEach es X.env := by rfl) (hpl : (backTo pos (starEach es X.env)).any (·.1) = false := by rfl) :
    DO X (.Call (.Name x p) (e :: es) [] pos) τ (oCallI F i j g) sg.ret := pe_imp (pe_call Fo hr hg hm hk hb .nil (pass0 (X := X)) ha hdb he hpl) fun σ H Q ⟨R, ρ, fs, d, ρ', s, eq, q⟩ => by
  obtain ⟨w, e1, e2⟩ := bindO eq
  obtain ⟨ds, e3, e4⟩ := bindO e2
  obtain ⟨r, e5, e6⟩ := bindO e4
  cases e6
  refine ⟨R, ρ, fs, w.1, w.2, s, e1, fun vs H1 fs1 t1 s1 r1 => ?_⟩
  show spD X.K X.mg sg F (vs ++ []) H1 Q E0
  rw [List.append_nil]
  obtain ⟨f1, fo, f2, ef, ho, hl, h1, h2, h3⟩ := s1.sl.split ht
  rcases ho with ⟨z, _⟩ | ⟨vi, evi, rp⟩
  · exact absurd z hno
  subst ef
  obtain ⟨sa, ej, hj⟩ := r1.argsI evi rp e3
  rw [hn _ _ e5, ← hps] at sa
  have nd1 := s1.nd
  have mem1 : ∀ a, a ∈ (R ++ (f1 ++ f2)) ++ fo ↔ a ∈ R ++ (f1 ++ fo ++ f2) := fun a => by
    simp only [List.mem_append]
    constructor
    · rintro ((h | h | h) | h) <;> simp [h]
    · rintro (h | (h | h) | h) <;> simp [h]
  have ndm : ((R ++ (f1 ++ f2)) ++ fo).Nodup := by
    have pm : ((R ++ (f1 ++ f2)) ++ fo).Perm (R ++ (f1 ++ fo ++ f2)) := by
      rw [List.append_assoc]
      refine List.Perm.append_left R ?_
      rw [List.append_assoc, List.append_assoc]
      exact List.Perm.append_left f1 List.perm_append_comm
    exact pm.nodup_iff.mpr nd1
  have sA : SR X.K X.mg (R ++ (f1 ++ f2)) sg.ps ds (vs.map some) H1 fo := ⟨sa.mono (hide_sub fun a ha => (mem1 a).mp ha) fun _ _ => rfl, ndm, fun a ha => s1.own a ((mem1 a).mp (List.mem_append_left _ ha))⟩
  refine ⟨R ++ (f1 ++ f2), ds, fo, r.1, r.2, sA, e5, fun v H2 fs2 fv t2 s2 rp2 => ?_⟩
  have hjn : j < n := by rw [← hn _ _ e5]; exact hj
  have tj : (sg.ps.map Ty.io)[j]? = some t := by
    rw [hps, List.getElem?_map]
    unfold ioPs
    rw [List.getElem?_set_self (by simpa using hjn)]
    simp [hsh]
  obtain ⟨g1, f', g2, eg, ho2, _⟩ := s2.sl.split tj
  rcases ho2 with ⟨z, _⟩ | ⟨v', ev', rpj⟩
  · exact absurd z hno
  have hf' : ∀ a ∈ f', a ∈ fs2 := fun a ha => by rw [eg]; simp [ha]
  have evv : v' = vi := by
    rw [List.getElem?_map, ej] at ev'
    simpa using ev'.symm
  subst evv
  have nd2 := s2.nd
  have H12 : ∀ a ∈ R ++ (f1 ++ f2), ∀ o, H1 a = some o → H2 a = some o := fun a ha o e => t2.ext a o (fun z => (List.nodup_append.mp ndm).2.2 a ha a z rfl) e
  have key : ∀ a, a ∈ fv ++ R ++ (f1 ++ f' ++ f2) → a ∈ fv ++ (R ++ (f1 ++ f2)) ++ fs2 := fun a ha => by
    simp only [List.mem_append] at ha ⊢
    rcases ha with (h | h) | (h | h) | h
    · simp [h]
    · simp [h]
    · simp [h]
    · simp [hf' a h]
    · simp [h]
  have le1 : Le (hide (R ++ (f1 ++ fo ++ f2)) H1) (hide (fv ++ R ++ (f1 ++ f' ++ f2)) H2) := hide_mono fun a o n e => by
    have nfo : a ∉ fo := fun z => n (by simp [z])
    refine ⟨fun z => ?_, t2.ext a o nfo e⟩
    have z := key a z
    have nR : a ∉ R ++ (f1 ++ f2) := fun z => n ((mem1 a).mp (List.mem_append_left _ z))
    rcases List.mem_append.mp z with z | z
    · rcases List.mem_append.mp z with z | z
      · rcases t2.sub a (List.mem_append_left _ z) with q | q
        · exact nfo q
        · rw [q] at e; cases e
      · exact nR z
    · rcases t2.sub a (List.mem_append_right _ z) with q | q
      · exact nfo q
      · rw [q] at e; cases e
  have rpj' : Rp X.K X.mg H2 (hide (fv ++ R ++ (f1 ++ f' ++ f2)) H2) t (r.2.getD j .non) v' f' := rpj.mono (hide_sub key) fun _ _ => rfl
  have sl' := h2 (H' := H2) (G' := hide (fv ++ R ++ (f1 ++ f' ++ f2)) H2) (t' := t) (d' := r.2.getD j .non) (v' := v') (f' := f') (fun a ha => by
      obtain ⟨o, e, _⟩ := s1.own a (by
        simp only [List.mem_append] at ha ⊢
        rcases ha with h | h <;> simp [h])
      rw [e, H12 a (List.mem_append_right _ ha) o e]) le1 evi rpj'
  rw [set_at ht] at sl'
  have nfs2 : fs2.Nodup := (List.nodup_append.mp nd2).2.1
  have nf' : f'.Nodup := by
    rw [eg] at nfs2
    exact (List.nodup_append.mp (List.nodup_append.mp nfs2).1).2.1
  have ndA : (fv ++ (R ++ (f1 ++ f2))).Nodup := (List.nodup_append.mp nd2).1
  have nd3 : (fv ++ R ++ (f1 ++ f' ++ f2)).Nodup := by
    refine nodup_mid (fo := []) ?_ (fun a ha z => ?_) nf'
    · simp only [List.append_nil]
      rw [List.append_assoc]; exact ndA
    · refine (List.nodup_append.mp nd2).2.2 a ?_ a (hf' a ha) rfl
      rw [List.append_assoc] at z
      exact z
  refine q v H2 (f1 ++ f' ++ f2) fv (t1.trans ⟨fun a o n e => t2.ext a o (fun z => n (by simp [z])) e, fun a ha => ?_, t2.ne⟩) ⟨sl', nd3, fun a ha => ?_⟩ (rp2.mono (hide_sub key) fun _ _ => rfl)
  · rcases List.mem_append.mp ha with z | z
    · rcases t2.sub a (List.mem_append_left _ z) with q | q
      · exact .inl (by simp [q])
      · exact .inr q
    · simp only [List.mem_append] at z
      rcases z with (z | z) | z
      · exact .inl (by simp [z])
      · rcases t2.sub a (List.mem_append_right _ (hf' a z)) with q | q
        · exact .inl (by simp [q])
        · exact .inr q
      · exact .inl (by simp [z])
  · rcases List.mem_append.mp ha with z | z
    · exact s2.own a (by simp [z])
    · obtain ⟨o, e, w⟩ := s1.al a z
      exact ⟨o, H12 a (List.mem_append_left _ z) o e, w⟩
end
end TL

namespace TL
open PySem PySem.Spec PyProof.Rows L2

inductive Out where
  | nx (ρ : Rho) | bk (ρ : Rho) | ct (ρ : Rho) | rt (d : D) (ρ : Rho)
abbrev Sf := Rho → Option Out
/-- what holds throughout a def: the slots that stay (its changed parameters), the result's kind, the slots' kinds at a return; at a break, at a continue -/
structure Gm where
  io : List Nat
  ret : Ty
  rty : List Ty
  bk : List Ty := []
  ct : List Ty := []
def Kp (io : List Nat) (σ σ' : L2.St) : Prop := ∀ i ∈ io, σ'[i]? = σ[i]?
theorem Kp.refl (io : List Nat) (σ : L2.St) : Kp io σ σ := fun _ _ => rfl
theorem Kp.trans {io : List Nat} {a b c : L2.St} (h : Kp io a b) (k : Kp io b c) : Kp io a c := fun i hi => (k i hi).trans (h i hi)
/-- the end of a statement, seen from the state (σ0, H0, fs0) -/
def Post (X : Cx) (γ : Gm) (D : Ends) (R : List Addr) (σ0 : L2.St) (H0 : Hp) (fs0 : List Addr) (τ' : List Ty) : Out → Prop
  | .nx ρ' => ∀ σ' H' fs', Step H0 H' fs0 fs' → Kp γ.io σ0 σ' → SR X.K X.mg R τ' ρ' σ' H' fs' → D.nx σ' H'
  | .bk ρ' => ∀ σ' H' fs', Step H0 H' fs0 fs' → Kp γ.io σ0 σ' → SR X.K X.mg R γ.bk ρ' σ' H' fs' → D.bk σ' H'
  | .ct ρ' => ∀ σ' H' fs', Step H0 H' fs0 fs' → Kp γ.io σ0 σ' → SR X.K X.mg R γ.ct ρ' σ' H' fs' → D.ct σ' H'
  | .rt d ρ' => ∀ v σ' H' fs' fv, Step H0 H' fs0 (fv ++ fs') → Kp γ.io σ0 σ' → SR X.K X.mg (fv ++ R) γ.rty ρ' σ' H' fs' → Rp X.K X.mg H' (hide (fv ++ R ++ fs') H') γ.ret d v fv → D.rt v H'
def tS (X : Cx) (γ : Gm) (τ : List Ty) (f : Sf) (τ' : List Ty) : TS := fun D σ H => ∃ R ρ fs out, SR X.K X.mg R τ ρ σ H fs ∧ f ρ = some out ∧ Post X γ D R σ H fs τ' out
abbrev DS (X : Cx) (γ : Gm) (st : Stmt) (τ : List Ty) (f : Sf) (τ' : List Ty) : Prop := PS X st (tS X γ τ f τ')
abbrev DSs (X : Cx) (γ : Gm) (st : List Stmt) (τ : List Ty) (f : Sf) (τ' : List Ty) : Prop := PSs X st (tS X γ τ f τ')
theorem ps_imp {X : Cx} {e : Stmt} {t t' : TS} (h : PS X e t) (k : ∀ D σ H, t' D σ H → t D σ H) : PS X e t' := ⟨fun pins s σ H D I q => h.run pins s σ H D I (k D σ H q)⟩
theorem pss_imp {X : Cx} {e : List Stmt} {t t' : TS} (h : PSs X e t) (k : ∀ D σ H, t' D σ H → t D σ H) : PSs X e t' := ⟨fun pins s σ H D I q => h.run pins s σ H D I (k D σ H q)⟩
theorem Post.mono {X : Cx} {γ : Gm} {D D' : Ends} {R : List Addr} {σ0 σ1 : L2.St} {H0 H1 : Hp} {fs0 fs1 : List Addr} {τ' τ'' : List Ty} {o : Out} (t : Step H0 H1 fs0 fs1) (k : Kp γ.io σ0 σ1) (p : Post X γ D R σ0 H0 fs0 τ' o)
    (hn : ∀ ρ' σ' H' fs', o = .nx ρ' → Step H0 H' fs0 fs' → Kp γ.io σ0 σ' → SR X.K X.mg R τ'' ρ' σ' H' fs' → D'.nx σ' H') (hb : D'.bk = D.bk) (hc : D'.ct = D.ct) (hr : D'.rt = D.rt) : Post X γ D' R σ1 H1 fs1 τ'' o := by
  cases o with
  | nx ρ' => exact fun σ' H' fs' t' k' s' => hn ρ' σ' H' fs' rfl (t.trans t') (k.trans k') s'
  | bk ρ' => exact fun σ' H' fs' t' k' s' => by rw [hb]; exact p σ' H' fs' (t.trans t') (k.trans k') s'
  | ct ρ' => exact fun σ' H' fs' t' k' s' => by rw [hc]; exact p σ' H' fs' (t.trans t') (k.trans k') s'
  | rt d ρ' => exact fun v σ' H' fs' fv t' k' s' r => by rw [hr]; exact p v σ' H' fs' fv (t.trans t') (k.trans k') s' r

def sNil : Sf := fun ρ => some (.nx ρ)
def sSeq (f g : Sf) : Sf := fun ρ => (f ρ).bind fun o => match o with
  | .nx ρ' => g ρ'
  | o => some o
/-- slots forgotten behind a block -/
def sKl (ks : List Nat) (f : Sf) : Sf := fun ρ => (f ρ).bind fun o => match o with
  | .nx ρ' => some (.nx (kill ks ρ'))
  | o => some o
section
variable {X : Cx} {γ : Gm} {τ τ1 τ' : List Ty} {st : Stmt} {rest : List Stmt} {a b c e : Expr} {es : List Expr} {pos p : Pos}
theorem dss_nil : DSs X γ [] τ sNil τ := pss_imp pss_nil fun D σ H ⟨R, ρ, fs, o, s, e, q⟩ => by
  cases e
  exact q σ H fs (Step.refl H fs) (Kp.refl _ _) s
theorem dss_cons {f g : Sf} (h1 : DS X γ st τ f τ1) (h2 : DSs X γ rest τ1 g τ') : DSs X γ (st :: rest) τ (sSeq f g) τ' := pss_imp (pss_cons h1 h2) fun D σ H ⟨R, ρ, fs, o, s, e, q⟩ => by
  obtain ⟨o1, e1, e2⟩ := bindO e
  refine ⟨R, ρ, fs, o1, s, e1, ?_⟩
  cases o1 with
  | nx ρ1 => exact fun σ1 H1 fs1 t1 k1 s1 => ⟨R, ρ1, fs1, o, s1, e2, q.mono t1 k1 (fun ρ' σ' H' fs' eo t' k' s' => by subst eo; exact q σ' H' fs' t' k' s') rfl rfl rfl⟩
  | bk ρ1 => cases e2; exact q
  | ct ρ1 => cases e2; exact q
  | rt d ρ1 => cases e2; exact q
theorem dss_one {f : Sf} (h1 : DS X γ st τ f τ') : DSs X γ [st] τ f τ' := pss_imp (pss_one h1) fun D σ H q => q
theorem dss_kill {sts : List Stmt} {f : Sf} (ks : List Nat) (h : DSs X γ sts τ f τ1) (ht : killT ks τ1 = τ' := by rfl) : DSs X γ sts τ (sKl ks f) τ' := pss_imp h fun D σ H ⟨R, ρ, fs, o, s, e, q⟩ => by
  obtain ⟨o1, e1, e2⟩ := bindO e
  refine ⟨R, ρ, fs, o1, s, e1, ?_⟩
  cases o1 with
  | nx ρ1 =>
    cases e2
    intro σ1 H1 fs1 t1 k1 s1
    obtain ⟨fs2, s2, sub⟩ := s1.killS ks
    rw [ht] at s2
    exact q σ1 H1 fs2 (t1.less sub) k1 s2
  | bk ρ1 => cases e2; exact q
  | ct ρ1 => cases e2; exact q
  | rt d ρ1 => cases e2; exact q
/-- an owned slot given away ahead of a block -/
theorem dss_frz {sts : List Stmt} {f : Sf} (i : Nat) {t : Ty} (h : DSs X γ sts (τ.set i .sh) f τ') (ht : τ[i]? = some t := by rfl) (hn : t ≠ .no := by intro z; cases z) : DSs X γ sts τ f τ' := pss_imp h fun D σ H ⟨R, ρ, fs, o, s, e, q⟩ => by
  obtain ⟨fs1, s1, sub⟩ := s.frz ht hn
  exact ⟨R, ρ, fs1, o, s1, e, q.mono ((Step.refl H fs).less sub) (Kp.refl _ _) (fun ρ' σ' H' fs' eo t' k' s' => by subst eo; exact q σ' H' fs' t' k' s') rfl rfl rfl⟩
theorem ds_frz {f : Sf} (i : Nat) {t : Ty} (h : DS X γ st (τ.set i .sh) f τ') (ht : τ[i]? = some t := by rfl) (hn : t ≠ .no := by intro z; cases z) : DS X γ st τ f τ' := ps_imp h fun D σ H ⟨R, ρ, fs, o, s, e, q⟩ => by
  obtain ⟨fs1, s1, sub⟩ := s.frz ht hn
  exact ⟨R, ρ, fs1, o, s1, e, q.mono ((Step.refl H fs).less sub) (Kp.refl _ _) (fun ρ' σ' H' fs' eo t' k' s' => by subst eo; exact q σ' H' fs' t' k' s') rfl rfl rfl⟩

/-! ### small statements -/
def sPass : Sf := fun ρ => some (.nx ρ)
def sBrk : Sf := fun ρ => some (.bk ρ)
def sCont : Sf := fun ρ => some (.ct ρ)
theorem ds_pass : DS X γ (.Pass pos) τ sPass τ := ps_imp ps_pass fun D σ H ⟨R, ρ, fs, o, s, e, q⟩ => by
  cases e
  exact q σ H fs (Step.refl H fs) (Kp.refl _ _) s
theorem ds_brk (h : γ.bk = τ := by rfl) : DS X γ (.Break pos) τ sBrk τ' := ps_imp ps_break fun D σ H ⟨R, ρ, fs, o, s, e, q⟩ => by
  cases e
  exact q σ H fs (Step.refl H fs) (Kp.refl _ _) (by rw [h]; exact s)
theorem ds_cont (h : γ.ct = τ := by rfl) : DS X γ (.Continue pos) τ sCont τ' := ps_imp ps_continue fun D σ H ⟨R, ρ, fs, o, s, e, q⟩ => by
  cases e
  exact q σ H fs (Step.refl H fs) (Kp.refl _ _) (by rw [h]; exact s)
/-- what a return needs: the changed parameters are still owned -/
def LeT : List Ty → List Ty → Prop
  | [], [] => True
  | .no :: r, _ :: s => LeT r s
  | t :: r, u :: s => t = u ∧ LeT r s
  | _, _ => False
mutual
def tyEq : Ty → Ty → Bool
  | .no, .no => true
  | .sh, .sh => true
  | .oL a, .oL b => tyEq a b
  | .oK a, .oK b => tyEq a b
  | .oT a, .oT b => tyEq a b
  | .oO c l, .oO d m => c == d && tyEqs l m
  | _, _ => false
def tyEqs : List Ty → List Ty → Bool
  | [], [] => true
  | a :: l, b :: m => tyEq a b && tyEqs l m
  | _, _ => false
end
mutual
theorem tyEq_ok : ∀ {a b : Ty}, tyEq a b = true → a = b
  | .no, .no, _ => rfl
  | .sh, .sh, _ => rfl
  | .oL a, .oL b, h => by rw [tyEq_ok (a := a) (b := b) (by simpa [tyEq] using h)]
  | .oK a, .oK b, h => by rw [tyEq_ok (a := a) (b := b) (by simpa [tyEq] using h)]
  | .oT a, .oT b, h => by rw [tyEq_ok (a := a) (b := b) (by simpa [tyEq] using h)]
  | .oO c l, .oO d m, h => by
    have h' : (c == d) = true ∧ tyEqs l m = true := by simpa [tyEq] using h
    rw [tyEqs_ok h'.2, eq_of_beq h'.1]
  | .no, .sh, h | .no, .oL _, h | .no, .oK _, h | .no, .oT _, h | .no, .oO _ _, h => by simp [tyEq] at h
  | .sh, .no, h | .sh, .oL _, h | .sh, .oK _, h | .sh, .oT _, h | .sh, .oO _ _, h => by simp [tyEq] at h
  | .oL _, .no, h | .oL _, .sh, h | .oL _, .oK _, h | .oL _, .oT _, h | .oL _, .oO _ _, h => by simp [tyEq] at h
  | .oK _, .no, h | .oK _, .sh, h | .oK _, .oL _, h | .oK _, .oT _, h | .oK _, .oO _ _, h => by simp [tyEq] at h
  | .oT _, .no, h | .oT _, .sh, h | .oT _, .oL _, h | .oT _, .oK _, h | .oT _, .oO _ _, h => by simp [tyEq] at h
  | .oO _ _, .no, h | .oO _ _, .sh, h | .oO _ _, .oL _, h | .oO _ _, .oK _, h | .oO _ _, .oT _, h => by simp [tyEq] at h
theorem tyEqs_ok : ∀ {a b : List Ty}, tyEqs a b = true → a = b
  | [], [], _ => rfl
  | a :: l, b :: m, h => by
    have h' : tyEq a b = true ∧ tyEqs l m = true := by simpa [tyEqs] using h
    rw [tyEq_ok h'.1, tyEqs_ok h'.2]
  | [], _ :: _, h | _ :: _, [], h => by simp [tyEqs] at h
end
def leTb : List Ty → List Ty → Bool
  | [], [] => true
  | .no :: r, _ :: s => leTb r s
  | t :: r, u :: s => tyEq t u && leTb r s
  | _, _ => false
theorem leTb_ok : ∀ {a b : List Ty}, leTb a b = true → LeT a b
  | [], [], _ => trivial
  | [], _ :: _, h => by cases h
  | t :: r, [], h => by cases t <;> cases h
  | .no :: r, _ :: s, h => leTb_ok (a := r) (b := s) h
  | .sh :: r, u :: s, h => by
    have h' : tyEq .sh u = true ∧ leTb r s = true := by simpa [leTb] using h
    exact ⟨tyEq_ok h'.1, leTb_ok h'.2⟩
  | .oL t :: r, u :: s, h => by
    have h' : tyEq (.oL t) u = true ∧ leTb r s = true := by simpa [leTb] using h
    exact ⟨tyEq_ok h'.1, leTb_ok h'.2⟩
  | .oK t :: r, u :: s, h => by
    have h' : tyEq (.oK t) u = true ∧ leTb r s = true := by simpa [leTb] using h
    exact ⟨tyEq_ok h'.1, leTb_ok h'.2⟩
  | .oT t :: r, u :: s, h => by
    have h' : tyEq (.oT t) u = true ∧ leTb r s = true := by simpa [leTb] using h
    exact ⟨tyEq_ok h'.1, leTb_ok h'.2⟩
  | .oO c t :: r, u :: s, h => by
    have h' : tyEq (.oO c t) u = true ∧ leTb r s = true := by simpa [leTb] using h
    exact ⟨tyEq_ok h'.1, leTb_ok h'.2⟩
theorem SR.leT {K : PySem.W.Frag} {mg : Str → Option Value} {R : List Addr} : ∀ {τ τ' : List Ty} {ρ : Rho} {σ : L2.St} {H : Hp} {fs : List Addr}, SR K mg R τ ρ σ H fs → LeT τ' τ → ∃ fs', SR K mg R τ' ρ σ H fs' ∧ ∀ a ∈ fs', a ∈ fs := by
  intro τ τ' ρ σ H fs s l
  have main : ∀ {τ τ' : List Ty} {ρ : Rho} {σ : L2.St} {f : List Addr} {G : Hp}, Sl K mg H G τ ρ σ f → LeT τ' τ → ∃ f', f'.Sublist f ∧ ∀ {G' : Hp}, Le G G' → Sl K mg H G' τ' ρ σ f' := by
    intro τ τ' ρ σ f G s
    induction s generalizing τ' with
    | nil =>
      intro l
      cases τ' with
      | nil => exact ⟨[], .slnil, fun _ => .nil⟩
      | cons t r => cases t <;> exact l.elim
    | no _ ih =>
      intro l
      cases τ' with
      | nil => exact l.elim
      | cons t r =>
        cases t with
        | no =>
          obtain ⟨f', sb, k⟩ := ih l
          exact ⟨f', sb, fun le => .no (k le)⟩
        | _ => cases l.1
    | cons h _ ih =>
      intro l
      cases τ' with
      | nil => exact l.elim
      | cons t r =>
        cases t with
        | no =>
          obtain ⟨f', sb, k⟩ := ih l
          exact ⟨f', sb.trans (List.sublist_append_right _ _), fun le => .no (k le)⟩
        | _ =>
          obtain ⟨e, l⟩ := l
          subst e
          obtain ⟨f', sb, k⟩ := ih l
          exact ⟨_ ++ f', (List.Sublist.refl _).append sb, fun le => .cons (h.mono le fun _ _ => rfl) (k le)⟩
  obtain ⟨f', sb, k⟩ := main s.sl l
  refine ⟨f', ⟨k (hide_sub fun a ha => ?_), ((List.Sublist.refl R).append sb).nodup s.nd, s.al⟩, fun a ha => sb.subset ha⟩
  rcases List.mem_append.mp ha with z | z
  · exact List.mem_append_left _ z
  · exact List.mem_append_right _ (sb.subset z)
def sRet (f : Ef) : Sf := fun ρ => (f ρ).bind fun p => match p.1 with
  | .v d => some (.rt d p.2)
  | _ => none
def sRetO (f : Of) : Sf := fun ρ => (f ρ).bind fun p => some (.rt p.1 p.2)
theorem ds_ret {f : Ef} (h : DE X e τ f) (hr : γ.ret = .sh := by rfl) (hl : leTb γ.rty τ = true := by rfl) : DS X γ (.Return (some e) pos) τ (sRet f) τ' := ps_imp (ps_ret h) fun D σ H ⟨R, ρ, fs, o, s, e, q⟩ => by
  obtain ⟨p, e1, e2⟩ := bindO e
  obtain ⟨p1, p2⟩ := p
  cases p1 with
  | x i => cases e2
  | v d =>
    cases e2
    refine ⟨R, ρ, fs, _, _, s, e1, fun v H1 fs1 t1 s1 r => ?_⟩
    obtain ⟨fs2, s2, sub⟩ := s1.leT (leTb_ok hl)
    refine q v σ H1 fs2 [] (t1.less sub) (Kp.refl _ _) s2 ?_
    rw [hr]
    exact .sh (Rf.mono (hide_sub fun a ha => by
      simp only [List.nil_append, List.mem_append] at ha ⊢
      exact ha.imp id (sub a)) r)
theorem ds_retO {f : Of} {t : Ty} (h : DO X e τ f t) (hr : γ.ret = t := by rfl) (hl : leTb γ.rty τ = true := by rfl) : DS X γ (.Return (some e) pos) τ (sRetO f) τ' := ps_imp (ps_ret h) fun D σ H ⟨R, ρ, fs, o, s, e, q⟩ => by
  obtain ⟨p, e1, e2⟩ := bindO e
  cases e2
  refine ⟨R, ρ, fs, p.1, p.2, s, e1, fun v H1 fs1 fv t1 s1 r => ?_⟩
  obtain ⟨fs2, s2, sub⟩ := s1.leT (leTb_ok hl)
  refine q v σ H1 fs2 fv (t1.less fun a ha => (List.mem_append.mp ha).elim (fun z => by simp [z]) fun z => by simp [sub a z]) (Kp.refl _ _) s2 ?_
  rw [hr]
  exact r.mono (hide_sub fun a ha => by
    simp only [List.mem_append] at ha ⊢
    exact ha.imp id (sub a)) fun _ _ => rfl
/-- an owned slot is the result -/
def sRetX (i : Nat) : Sf := fun ρ => some (.rt (ρ.getD i .non) ρ)
theorem ds_retX (i : Nat) {t : Ty} (h : PE X e (tVar i)) (ht : τ[i]? = some t := by rfl) (hn : t ≠ .no := by intro z; cases z) (hr : γ.ret = t := by rfl) (hl : leTb γ.rty (τ.set i .no) = true := by rfl) : DS X γ (.Return (some e) pos) τ (sRetX i) τ' := ps_imp (ps_ret h) fun D σ H ⟨R, ρ, fs, o, s, e, q⟩ => by
  cases e
  obtain ⟨f1, fo, f2, ef, ho, hl2, h1, h2, h3⟩ := s.sl.split ht
  rcases ho with ⟨z, _⟩ | ⟨v, ev, r⟩
  · exact absurd z hn
  subst ef
  refine ⟨v, ev, ?_⟩
  have nd := s.nd
  have mem : ∀ a, a ∈ fo ++ R ++ (f1 ++ f2) → a ∈ R ++ (f1 ++ fo ++ f2) := fun a ha => by
    simp only [List.mem_append] at ha ⊢
    rcases ha with (h | h) | h | h <;> simp [h]
  have sK := h3 (H' := H) (G' := hide (fo ++ R ++ (f1 ++ f2)) H) (d' := ρ.getD i .non) (fun _ _ => rfl) (hide_sub mem)
  rw [set_getD] at sK
  have pm : (fo ++ R ++ (f1 ++ f2)).Perm (R ++ (f1 ++ fo ++ f2)) := by
    rw [List.append_assoc, List.append_assoc, ← List.append_assoc R f1, ← List.append_assoc R f1, ← List.append_assoc (R ++ f1) fo f2]
    refine (List.perm_append_comm (l₁ := fo) (l₂ := R ++ f1 ++ f2)).trans ?_
    rw [List.append_assoc (R ++ f1) f2 fo, List.append_assoc (R ++ f1) fo f2]
    exact List.Perm.append_left _ List.perm_append_comm
  have s' : SR X.K X.mg (fo ++ R) (τ.set i .no) ρ σ H (f1 ++ f2) := ⟨sK, pm.nodup_iff.mpr nd, fun a ha => s.own a (mem a (List.mem_append_left _ ha))⟩
  obtain ⟨fs2, s2, sub⟩ := s'.leT (leTb_ok hl)
  refine q v σ H fs2 fo ((Step.refl H _).less fun a ha => ?_) (Kp.refl _ _) s2 ?_
  · rcases List.mem_append.mp ha with z | z
    · simp [z]
    · have := sub a z
      simp only [List.mem_append] at this ⊢
      rcases this with h | h <;> simp [h]
  · rw [hr]
    exact r.mono (hide_sub fun a ha => mem a (by
      rcases List.mem_append.mp ha with z | z
      · exact List.mem_append_left _ z
      · exact List.mem_append_right _ (sub a z))) fun _ _ => rfl
def sRetN : Sf := fun ρ => some (.rt .non ρ)
theorem ds_retN (hr : γ.ret = .sh := by rfl) (hl : leTb γ.rty τ = true := by rfl) : DS X γ (.Return none pos) τ sRetN τ' := ps_imp ps_retN fun D σ H ⟨R, ρ, fs, o, s, e, q⟩ => by
  cases e
  obtain ⟨fs2, s2, sub⟩ := s.leT (leTb_ok hl)
  refine q .non σ H fs2 [] ((Step.refl H fs).less sub) (Kp.refl _ _) s2 ?_
  rw [hr]
  exact .sh .non
/-! an expression whose value is dropped -/
def sDrop (f : Ef) : Sf := fun ρ => (f ρ).bind fun p => some (.nx p.2)
theorem ds_drop {f : Ef} (h : DE X e τ f) (hs : swapsWith e none pos.line X.env = pure false := by rfl) : DS X γ (.Expr e pos) τ (sDrop f) τ := ps_imp (ps_expr h hs) fun D σ H ⟨R, ρ, fs, o, s, e, q⟩ => by
  obtain ⟨p, e1, e2⟩ := bindO e
  cases e2
  exact ⟨R, ρ, fs, p.1, p.2, s, e1, fun v H1 fs1 t1 s1 r => q σ H1 fs1 t1 (Kp.refl _ _) s1⟩
/-! if -/
def sIf (t : Tf) (f g : Sf) : Sf := fun ρ => (t ρ).bind fun p => if p.1 then f p.2 else g p.2
theorem ds_if {t : Tf} {f g : Sf} {sa sb : List Stmt} (hc : DT X c τ t) (ha : DSs X γ sa τ f τ') (hb : DSs X γ sb τ g τ') : DS X γ (.If c sa sb pos) τ (sIf t f g) τ' := ps_imp (ps_if hc ha hb) fun D σ H ⟨R, ρ, fs, o, s, e, q⟩ => by
  obtain ⟨p, e1, e2⟩ := bindO e
  refine ⟨R, ρ, fs, p.1, p.2, s, e1, fun H1 fs1 t1 s1 => ?_⟩
  have q1 : Post X γ D R σ H1 fs1 τ' o := q.mono t1 (Kp.refl _ _) (fun ρ' σ' H' fs' eo t' k' s' => by subst eo; exact q σ' H' fs' t' k' s') rfl rfl rfl
  cases hp : p.1 with
  | true => rw [hp] at e2; exact iteT ⟨R, p.2, fs1, o, s1, e2, q1⟩
  | false => rw [hp] at e2; exact iteF ⟨R, p.2, fs1, o, s1, e2, q1⟩

/-! ### targets -/
abbrev Gf := D → Rho → Option Rho
def tG (X : Cx) (io : List Nat) (τ : List Ty) (g : Gf) (τ' : List Ty) : TG := fun v σ H Q => ∃ R ρ fs d ρ', SR X.K X.mg R τ ρ σ H fs ∧ Rf X.K X.mg (hide (R ++ fs) H) d v ∧ g d ρ = some ρ' ∧
  ∀ σ' fs', (∀ a ∈ fs', a ∈ fs) → Kp io σ σ' → SR X.K X.mg R τ' ρ' σ' H fs' → Q σ' H
abbrev DG (X : Cx) (io : List Nat) (target : Expr) (τ : List Ty) (g : Gf) (τ' : List Ty) : Prop := PG X target (tG X io τ g τ')
theorem pg_imp {X : Cx} {e : Expr} {t t' : TG} (h : PG X e t) (k : ∀ v σ H Q, t' v σ H Q → t v σ H Q) : PG X e t' := ⟨fun pins s σ H v u Q I r q => h.run pins s σ H v u Q I r (k v σ H Q q)⟩
def gNm (i : Nat) : Gf := fun d ρ => some (ρ.set i d)
theorem dg_name {io : List Nat} (i : Nat) {x : Str} (hN : X.N.Nodup) (hi : X.N[i]? = some x) (hx : Loc X.env.scope x) (ht : i < τ.length := by decide) (hio : i ∉ io := by decide) (hf : X.fn x = true ∨ X.env.scope.names.lookup x = some .local := by first | exact .inl rfl | exact .inr rfl | assumption) : DG X io (.Name x pos) τ (gNm i) (τ.set i .sh) := pg_imp (pg_name hN hi hx hf) fun v σ H Q ⟨R, ρ, fs, d, ρ', s, r, e, q⟩ => by
  cases e
  obtain ⟨fs', s', sub⟩ := SR.put (fv := []) (t := .sh) (d := d) (v := v) (i := i) s ht (.sh r)
  refine q _ fs' (fun a ha => by simpa using sub a ha) (fun j hj => ?_) s'
  exact List.getElem?_set_ne (i := i) (j := j) (fun z => hio (by rw [z]; exact hj))
def tGs (X : Cx) (io : List Nat) (τ : List Ty) (g : List D → Rho → Option Rho) (τ' : List Ty) : TGs := fun vs σ H Q => ∃ R ρ fs ds ρ', SR X.K X.mg R τ ρ σ H fs ∧ Rfs X.K X.mg (hide (R ++ fs) H) ds vs ∧ g ds ρ = some ρ' ∧
  ∀ σ' fs', (∀ a ∈ fs', a ∈ fs) → Kp io σ σ' → SR X.K X.mg R τ' ρ' σ' H fs' → Q σ' H
abbrev DGs (X : Cx) (io : List Nat) (ts : List Expr) (τ : List Ty) (g : List D → Rho → Option Rho) (τ' : List Ty) : Prop := PGs X ts (tGs X io τ g τ')
theorem pgs_imp {X : Cx} {e : List Expr} {t t' : TGs} (h : PGs X e t) (k : ∀ v σ H Q, t' v σ H Q → t v σ H Q) : PGs X e t' := ⟨fun pins s σ H v u Q I r q => h.run pins s σ H v u Q I r (k v σ H Q q)⟩
def gsNil : List D → Rho → Option Rho := fun ds ρ => match ds with
  | [] => some ρ
  | _ => none
def gsCons (g : Gf) (h : List D → Rho → Option Rho) : List D → Rho → Option Rho := fun ds ρ => match ds with
  | d :: r => (g d ρ).bind fun ρ' => h r ρ'
  | [] => none
theorem dgs_nil {io : List Nat} : DGs X io [] τ gsNil τ := pgs_imp pgs_nil fun v σ H Q ⟨R, ρ, fs, ds, ρ', s, r, e, q⟩ => by
  cases r with
  | nil => cases e; exact ⟨rfl, q σ fs (fun _ h => h) (Kp.refl _ _) s⟩
  | cons _ _ => cases e
theorem dgs_cons {io : List Nat} {g : Gf} {h : List D → Rho → Option Rho} (h1 : DG X io e τ g τ1) (h2 : DGs X io es τ1 h τ') (hs : (assignEach (e :: es) X.env).map (·.2) = assign e X.env :: (assignEach es X.env).map (·.2) := by rfl) : DGs X io (e :: es) τ (gsCons g h) τ' := pgs_imp (pgs_cons h1 h2 hs) fun v σ H Q ⟨R, ρ, fs, ds, ρ', s, r, e, q⟩ => by
  cases r with
  | nil => cases e
  | cons r rs =>
    obtain ⟨ρ1, e1, e2⟩ := bindO e
    refine ⟨_, _, rfl, R, ρ, fs, _, ρ1, s, r, e1, fun σ1 fs1 sub1 k1 s1 => ⟨R, ρ1, fs1, _, ρ', s1, rs.mono (hide_sub fun a ha => ?_), e2, fun σ2 fs2 sub2 k2 s2 => q σ2 fs2 (fun a ha => sub1 a (sub2 a ha)) (k1.trans k2) s2⟩⟩
    rcases List.mem_append.mp ha with z | z
    · exact List.mem_append_left _ z
    · exact List.mem_append_right _ (sub1 a z)
def gTp (g : List D → Rho → Option Rho) : Gf := fun d ρ => match d with
  | .tup ds => g ds ρ
  | _ => none
theorem gs_len {n : Nat} {io : List Nat} {g : List D → Rho → Option Rho} (hn : ∀ ds ρ ρ', g ds ρ = some ρ' → ds.length = n) {ds : List D} {ρ ρ' : Rho} (e : g ds ρ = some ρ') : ds.length = n := hn ds ρ ρ' e
theorem gsNil_len : ∀ ds ρ ρ', gsNil ds ρ = some ρ' → ds.length = 0 := fun ds ρ ρ' e => by
  cases ds with
  | nil => rfl
  | cons _ _ => cases e
theorem gsCons_len {g : Gf} {h : List D → Rho → Option Rho} {n : Nat} (k : ∀ ds ρ ρ', h ds ρ = some ρ' → ds.length = n) : ∀ ds ρ ρ', gsCons g h ds ρ = some ρ' → ds.length = n + 1 := fun ds ρ ρ' e => by
  cases ds with
  | nil => cases e
  | cons d r =>
    obtain ⟨ρ1, _, e2⟩ := bindO e
    simp [k _ _ _ e2]
theorem dg_tup {io : List Nat} {g : List D → Rho → Option Rho} {kk : Nat} {n : Nat} (hc : X.calm = true) (h : DGs X io es τ g τ') (hl : ∀ ds ρ ρ', g ds ρ = some ρ' → ds.length = n)
    (hn : (assignEach es X.env).length = n := by rfl) (hst : (assignEach es X.env).findIdx? (·.1) = none := by rfl) : DG X io (.Tuple es kk pos) τ (gTp g) τ' := pg_imp (pg_tup hc h hn hst) fun v σ H Q ⟨R, ρ, fs, d, ρ', s, r, e, q⟩ => by
  cases d with
  | tup ds =>
    cases r with
    | tup hT r => exact ⟨_, _, rfl, (hide_le _ _).seqT hT, by rw [← r.length]; exact hl _ _ _ e, R, ρ, fs, ds, ρ', s, r, e, q⟩
  | _ => cases e
/-! ### assignments -/
def sAsg (f : Ef) (g : Gf) : Sf := fun ρ => (f ρ).bind fun p => match p.1 with
  | .v d => (g d p.2).bind fun ρ' => some (.nx ρ')
  | _ => none
theorem sAsg_inv {f : Ef} {g : Gf} {ρ : Rho} {o : Out} (e : sAsg f g ρ = some o) : ∃ d ρ1 ρ', f ρ = some (.v d, ρ1) ∧ g d ρ1 = some ρ' ∧ o = .nx ρ' := by
  obtain ⟨p, e1, e2⟩ := bindO e
  obtain ⟨p1, p2⟩ := p
  cases p1 with
  | x i => cases e2
  | v d =>
    obtain ⟨ρ', e3, e4⟩ := bindO e2
    cases e4
    exact ⟨d, p2, ρ', e1, e3, rfl⟩
theorem tAsg_of {f : Ef} {g : Gf} : ∀ D σ H, tS X γ τ (sAsg f g) τ' D σ H → tAsg (tD X τ f) (tG X γ.io τ g τ') D σ H := fun D σ H ⟨R, ρ, fs, o, s, e, q⟩ => by
  obtain ⟨d, ρ1, ρ', e1, e2, rfl⟩ := sAsg_inv e
  exact ⟨R, ρ, fs, _, _, s, e1, fun v H1 fs1 t1 s1 r => ⟨R, ρ1, fs1, d, ρ', s1, r, e2, fun σ' fs' sub k s' => q σ' H1 fs' (t1.less sub) k s'⟩⟩
theorem ds_asg {f : Ef} {g : Gf} {tg : Expr} (he : DE X e τ f) (hg : DG X γ.io tg τ g τ') (hs : swapsWithSole [tg] e pos.line X.env = pure false := by rfl) (hw : swappedStores [tg] e X.env = pure none := by rfl)
    (h1 : (assignEach [tg] X.env).map (·.2) = [assign tg X.env] := by rfl) : DS X γ (.Assign [tg] e pos) τ (sAsg f g) τ' := ps_imp (ps_asg he hg hs hw h1) tAsg_of
theorem ds_set {f : Ef} {x : Str} {pos' : Pos} (i : Nat) (hN : X.N.Nodup) (hi : X.N[i]? = some x) (hx : Loc X.env.scope x) (he : DE X e τ f) (hs : swapsWith e (some (.Name x pos')) pos.line X.env = pure false := by rfl) (ht : i < τ.length := by decide) (hio : i ∉ γ.io := by decide) (hf : X.fn x = true ∨ X.env.scope.names.lookup x = some .local := by first | exact .inl rfl | exact .inr rfl | assumption) :
    DS X γ (.Assign [.Name x pos'] e pos) τ (sAsg f (gNm i)) (τ.set i .sh) := ps_imp (ps_set hN hi hx he hs hf) fun D σ H ⟨R, ρ, fs, o, s, e, q⟩ => by
  obtain ⟨d, ρ1, ρ', e1, e2, rfl⟩ := sAsg_inv e
  cases e2
  refine ⟨R, ρ, fs, _, _, s, e1, fun v H1 fs1 t1 s1 r => ?_⟩
  obtain ⟨fs', s', sub⟩ := SR.put (fv := []) (t := .sh) (d := d) (v := v) (i := i) s1 ht (.sh r)
  exact q _ H1 fs' (t1.less fun a ha => by simpa using sub a ha) (fun j hj => List.getElem?_set_ne (i := i) (j := j) (fun z => hio (by rw [z]; exact hj))) s'
/-! an owned value into a slot -/
def sSetO (i : Nat) (f : Of) : Sf := fun ρ => (f ρ).bind fun p => some (.nx (p.2.set i p.1))
theorem setO_of {f : Of} {t : Ty} (i : Nat) (ht : i < τ.length) (hio : i ∉ γ.io) : ∀ D σ H, tS X γ τ (sSetO i f) (τ.set i t) D σ H → tAsg (tO X τ f t) (gName i) D σ H := fun D σ H ⟨R, ρ, fs, o, s, e, q⟩ => by
  obtain ⟨p, e1, e2⟩ := bindO e
  cases e2
  refine ⟨R, ρ, fs, p.1, p.2, s, e1, fun v H1 fs1 fv t1 s1 r => ?_⟩
  obtain ⟨fs', s', sub⟩ := SR.put s1 ht r
  exact q _ H1 fs' (t1.less sub) (fun j hj => List.getElem?_set_ne (i := i) (j := j) (fun z => hio (by rw [z]; exact hj))) s'
theorem ds_setO {f : Of} {t : Ty} {x : Str} {pos' : Pos} (i : Nat) (hN : X.N.Nodup) (hi : X.N[i]? = some x) (hx : Loc X.env.scope x) (he : DO X e τ f t) (hs : swapsWith e (some (.Name x pos')) pos.line X.env = pure false := by rfl) (ht : i < τ.length := by decide) (hio : i ∉ γ.io := by decide) (hf : X.fn x = true ∨ X.env.scope.names.lookup x = some .local := by first | exact .inl rfl | exact .inr rfl | assumption) :
    DS X γ (.Assign [.Name x pos'] e pos) τ (sSetO i f) (τ.set i t) := ps_imp (ps_set hN hi hx he hs hf) (setO_of i ht hio)
/-! ### a list grows, an item is stored -/
def sApp (i : Nat) (f : Ef) : Sf := fun ρ => (f ρ).bind fun p => match p.1, p.2.getD i .non with
  | .v d, .lst l => if okLen (l.length + 1) then some (.nx (p.2.set i (.lst (l ++ [d])))) else none
  | _, _ => none
theorem SR.write {K : PySem.W.Frag} {mg : Str → Option Value} {R : List Addr} {ρ : Rho} {σ : L2.St} {H : Hp} {fs : List Addr} {i : Nat} {v : V} (s : SR K mg R τ ρ σ H fs) {t : Ty} (ht : τ[i]? = some t) {a0 : Addr} {f : List Addr} (ev : σ[i]? = some (some v)) {d : D} {f1 fo f2 : List Addr} (ef : fs = f1 ++ (a0 :: fo) ++ f2)
    {o : HO} {d' : D} (w : Own o) (h2 : ∀ {H' G' : Hp} {t' : Ty} {d' : D} {v' : V} {f' : List Addr}, (∀ a ∈ f1 ++ f2, H' a = H a) → Le (hide (R ++ fs) H) G' → σ[i]? = some (some v') → Rp K mg H' G' t' d' v' f' → Sl K mg H' G' (τ.set i t') (ρ.set i d') σ (f1 ++ f' ++ f2))
    (rp : Rp K mg (upd H a0 o) (hide (R ++ fs) (upd H a0 o)) t d' v (a0 :: fo)) : SR K mg R τ (ρ.set i d') σ (upd H a0 o) fs ∧ Step H (upd H a0 o) fs fs := by
  have nd := s.nd
  have ia : a0 ∈ fs := by rw [ef]; simp
  have nf : ∀ a ∈ f1 ++ f2, a ≠ a0 := fun a ha z => by
    subst z
    rw [ef] at nd
    simp only [List.nodup_append, List.mem_append, List.mem_cons] at nd
    rcases List.mem_append.mp ha with h | h
    · exact nd.2.1.1.2.2 a h a (.inl rfl) rfl
    · exact nd.2.1.2.2 a (.inr (.inl rfl)) a h rfl
  have nR : ∀ a ∈ R, a ≠ a0 := fun a ha z => by
    subst z
    exact (List.nodup_append.mp nd).2.2 a ha a ia rfl
  have le : Le (hide (R ++ fs) H) (hide (R ++ fs) (upd H a0 o)) := hide_mono fun a u n e => ⟨n, by
    rw [upd_ne fun z => n (by rw [z]; exact List.mem_append_right _ ia)]; exact e⟩
  have q := h2 (fun a ha => upd_ne (nf a ha)) le ev rp
  rw [set_at ht, ← ef] at q
  refine ⟨⟨q, nd, fun a ha => ?_⟩, ⟨fun a u n e => ?_, fun a ha => .inl ha, fun a u e => ?_⟩⟩
  · obtain ⟨u, e, w⟩ := s.al a ha
    exact ⟨u, by rw [upd_ne (nR a ha)]; exact e, w⟩
  · rw [upd_ne fun z => n (by rw [z]; exact ia)]; exact e
  · by_cases z : a = a0
    · exact ⟨o, by rw [z, upd_same]⟩
    · exact ⟨u, by rw [upd_ne z]; exact e⟩
theorem ds_app {f : Ef} {o : Expr} {apos cpos : Pos} (i : Nat) (ho : PE X o (tVar i)) (he : DE X e τ f) (ht : τ[i]? = some (.oL .sh) := by rfl) (hbase : attributeBase o "append" X.env (eval o X.env) = eval o X.env := by rfl)
    (hfew : ((backTo cpos (starEach [e] X.env)).all (fun x => !x.1) && (backToKw cpos (keywordEach [] X.env)).all (fun x => x.1.isSome)
      && decide ([e].length + ([] : List Keyword).length + (if ([] : List Keyword).isEmpty then 0 else 1) < 30)) = true := by rfl)
    (hline : (apos.endLine == cpos.line) = true := by rfl) (hs : starEach [e] X.env = (false, eval e X.env) :: starEach [] X.env := by rfl) :
    DS X γ (.Expr (.Call (.Attribute o "append" apos) [e] [] cpos) pos) τ (sApp i f) τ :=
  ps_imp (ps_expr (pe_bm PySem.F.plainAttrs_list PySem.F.slot_list_append PySem.F.type_list_append mt_append ho (pa_cons he pa_nil hs) hbase hfew hline hs rfl) rfl) fun D σ H ⟨R, ρ, fs, out, s, e, q⟩ => by
    obtain ⟨p, e1, e2⟩ := bindO e
    obtain ⟨p1, p2⟩ := p
    cases p1 with
    | x i => cases e2
    | v d =>
      obtain ⟨v0, f0, ev0, r0, _⟩ := s.get ht (by intro z; cases z)
      refine ⟨v0, ev0, ?_, R, ρ, fs, _, _, s, e1, fun v H1 fs1 t1 s1 r => ?_⟩
      · generalize ρ.getD i .non = d0 at r0
        cases r0 with
        | oL h _ => exact .inl ⟨rfl, _, .of h⟩
      · obtain ⟨f1, fo, f2, ef, hos, hl, _, h2, _⟩ := s1.sl.split ht
        rcases hos with ⟨z, _⟩ | ⟨v1, ev1, r1⟩
        · cases z
        rw [ev0] at ev1; cases ev1
        have e3 : (match p2.getD i .non with | .lst l => if okLen (l.length + 1) then some (Out.nx (p2.set i (.lst (l ++ [d])))) else none | _ => none) = some out := by
          revert e2
          cases p2.getD i .non <;> exact id
        clear e2
        revert r1 e3
        generalize p2.getD i .non = d0
        intro r1 e3
        cases r1 with
        | @oL t a vs ds g h rs =>
          obtain ⟨e4, e5⟩ := ifSome' e3
          cases e5
          obtain ⟨rf, eg⟩ := rs.to_sh
          subst eg
          have hl : vs.length < sizeLine := by
            rw [← rf.length]
            have := okLen_le e4
            omega
          refine ⟨a, vs, v, rfl, rfl, h, hl, ?_⟩
          have le : Le (hide (R ++ fs1) H1) (hide (R ++ fs1) (upd H1 a (.lst (vs ++ [v])))) := hide_mono fun b u n e => ⟨n, by
            rw [upd_ne fun z => n (by rw [z, ef]; simp)]; exact e⟩
          obtain ⟨sn, tn⟩ := s1.write ht (f := []) ev0 (d := d) ef (o := .lst (vs ++ [v])) (d' := .lst (ds ++ [d])) trivial h2 (.oL upd_same (Rps.of_sh ((rf.append (.one r)).mono le)))
          exact q σ _ fs1 (t1.trans tn) (Kp.refl _ _) sn
end
end TL

namespace TL
open PySem PySem.Spec PyProof.Rows L2

/-! ### walks -/
abbrev Itf := Rho → Option (List D × Rho)
def Walks (K : PySem.W.Frag) (mg : Str → Option Value) (J : It) (ds : List D) (G : Hp) : Prop := ∀ (i : Nat) (S : List Addr) (H : Hp), (∀ a ∈ S, ∃ o, H a = some o ∧ Own o) → Le G (hide S H) →
  (∀ d, ds[i]? = some d → J.go i H ∧ ∀ x H', J.yld i H x H' → Grow H H' ∧ Rf K mg (hide S H') d x) ∧ (ds.length ≤ i → J.stop i H)
def tI (X : Cx) (τ : List Ty) (it : Itf) : TI := fun σ H Q => ∃ R ρ fs ds ρ', SR X.K X.mg R τ ρ σ H fs ∧ it ρ = some (ds, ρ') ∧
  ∀ J H' fs', Step H H' fs fs' → SR X.K X.mg R τ ρ' σ H' fs' → Walks X.K X.mg J ds (hide (R ++ fs') H') → Q J H'
abbrev DI (X : Cx) (tg iter : Expr) (τ : List Ty) (it : Itf) : Prop := PI X tg iter (tI X τ it)
theorem pi_imp {X : Cx} {tg e : Expr} {t t' : TI} (h : PI X tg e t) (k : ∀ σ H Q, t' σ H Q → t σ H Q) : PI X tg e t' := ⟨fun pins s σ H R I q => h.run pins s σ H R I (k σ H R q)⟩
theorem pi_or {X : Cx} {tg e : Expr} {t t' : TI} (h : PI X tg e t) (h' : PI X tg e t') : PI X tg e (fun σ H Q => t σ H Q ∨ t' σ H Q) := ⟨fun pins s σ H R I q => q.elim (h.run pins s σ H R I) (h'.run pins s σ H R I)⟩
theorem walks_list {K : PySem.W.Frag} {mg : Str → Option Value} {G : Hp} {a : Addr} {vs : List V} {ds : List D} (h : G a = some (.lst vs)) (r : Rfs K mg G ds vs) : Walks K mg (Itl K a) ds G := fun i S H al le => by
  have hH : H a = some (.lst vs) := hide_le _ _ _ _ (le _ _ h)
  refine ⟨fun d e => ?_, fun e => ⟨vs, .of hH, by rw [← r.length]; exact e⟩⟩
  obtain ⟨v, ev, rv⟩ := r.get e
  refine ⟨⟨vs, v, .of hH, ev⟩, fun x H' ⟨e1, e2⟩ => ?_⟩
  subst e1
  have := e2 vs (.of hH)
  rw [ev] at this; cases this
  exact ⟨Grow.refl _, rv.mono le⟩
theorem walks_tup {K : PySem.W.Frag} {mg : Str → Option Value} {G : Hp} {a : Addr} {vs : List V} {ds : List D} (h : SqT K G a vs) (r : Rfs K mg G ds vs) : Walks K mg (Itt K a) ds G := fun i S H al le => by
  have hH : SqT K H a vs := (hide_le S H).seqT (le.seqT h)
  refine ⟨fun d e => ?_, fun e => ⟨vs, hH, by rw [← r.length]; exact e⟩⟩
  obtain ⟨v, ev, rv⟩ := r.get e
  refine ⟨⟨vs, v, hH, ev⟩, fun x H' ⟨e1, e2⟩ => ?_⟩
  subst e1
  have := e2 vs hH
  rw [ev] at this; cases this
  exact ⟨Grow.refl _, rv.mono le⟩
def seqD : Hd → Option (List D)
  | .v (.lst l) => some l
  | .v (.tup l) => some l
  | _ => none
def iSeq (f : Ef) : Itf := fun ρ => (f ρ).bind fun p => (seqD p.1).bind fun l => some (l, p.2)
section
variable {X : Cx} {γ : Gm} {τ τ1 τ' : List Ty} {tg a b c e : Expr} {es : List Expr} {pos p : Pos}
theorem di_seq {f : Ef} (h : DE X e τ f) : DI X tg e τ (iSeq f) := pi_imp (pi_or (pi_list h) (pi_tup h)) fun σ H Q ⟨R, ρ, fs, ds, ρ', s, e, q⟩ => by
  obtain ⟨p, e1, e2⟩ := bindO e
  obtain ⟨l, e3, e4⟩ := bindO e2
  cases e4
  obtain ⟨p1, p2⟩ := p
  cases p1 with
  | x i => cases e3
  | v d =>
    cases d with
    | lst l =>
      cases e3
      refine .inl ⟨R, ρ, fs, _, _, s, e1, fun v H' fs' t s' r => ?_⟩
      cases r with
      | lst h r => exact ⟨_, rfl, ⟨_, .of (hide_le _ _ _ _ h)⟩, q _ H' fs' t s' (walks_list h r)⟩
    | tup l =>
      cases e3
      refine .inr ⟨R, ρ, fs, _, _, s, e1, fun v H' fs' t s' r => ?_⟩
      cases r with
      | tup h r => exact ⟨_, rfl, ⟨_, (hide_le _ _).seqT h⟩, q _ H' fs' t s' (walks_tup h r)⟩
    | _ => cases e3
def intsD (lo : Int) (n : Nat) : List D := (List.range n).map fun i => D.int (lo + (i : Nat))
def small62 (i : Int) : Bool := Nat.ble i.natAbs 4611686018427387903
theorem walks_range {K : PySem.W.Frag} {mg : Str → Option Value} {G : Hp} (lo : Int) (n : Nat) : Walks K mg (Itr lo n) (intsD lo n) G := fun i S H al le => by
  refine ⟨fun d e => ?_, fun e => show n ≤ i by simpa [intsD] using e⟩
  unfold intsD at e
  rw [List.getElem?_map] at e
  by_cases hi : i < n
  · rw [List.getElem?_range hi] at e
    cases e
    refine ⟨hi, fun x H' ⟨e1, e2⟩ => ?_⟩
    subst e1; subst e2
    exact ⟨Grow.refl _, .int _⟩
  · rw [List.getElem?_eq_none (by simpa using hi)] at e
    cases e
def iRng1 (f : Af) : Itf := fun ρ => (f ρ).bind fun p => match p.1 with
  | [.v (.int j)] => if small62 j then some (intsD 0 j.toNat, p.2) else none
  | _ => none
def iRng2 (f : Af) : Itf := fun ρ => (f ρ).bind fun p => match p.1 with
  | [.v (.int i), .v (.int j)] => if small62 i && small62 j then some (intsD i (j - i).toNat, p.2) else none
  | _ => none
theorem small62_of {i : Int} (h : small62 i = true) : -(2 ^ 62) ≤ i ∧ i < 2 ^ 62 := by
  have h1 : i.natAbs ≤ 4611686018427387903 := Nat.le_of_ble_eq_true h
  have e : (2 : Int) ^ 62 = 4611686018427387904 := by decide
  rw [e]
  omega
theorem di_range1 {f : Af} (hg : Gl X "range") (hm : X.mg "range" = none) (ha : DA X [a] τ f) (hs : starEach [a] X.env = [(false, eval a X.env)] := by rfl) : DI X tg (.Call (.Name "range" p) [a] [] pos) τ (TL.iRng1 f) := pi_imp (pi_range1 hg hm ha hs) fun σ H Q ⟨R, ρ, fs, ds, ρ', s, e, q⟩ => by
  obtain ⟨w, e1, e2⟩ := bindO e
  obtain ⟨w1, w2⟩ := w
  simp only at e2
  split at e2
  · obtain ⟨e3, e4⟩ := ifSome' e2
    cases e4
    refine ⟨R, ρ, fs, _, _, s, e1, fun vs H' fs' t s' r => ?_⟩
    cases r with
    | cons r rs =>
      cases r
      cases rs
      exact ⟨_, rfl, (small62_of e3).1, (small62_of e3).2, q _ H' fs' t s' (walks_range 0 _)⟩
  · cases e2
theorem di_range2 {f : Af} (hg : Gl X "range") (hm : X.mg "range" = none) (ha : DA X [a, b] τ f) (hs : starEach [a, b] X.env = [(false, eval a X.env), (false, eval b X.env)] := by rfl) (hs2 : starEach [b] X.env = [(false, eval b X.env)] := by rfl) : DI X tg (.Call (.Name "range" p) [a, b] [] pos) τ (TL.iRng2 f) := pi_imp (pi_range2 hg hm ha hs hs2) fun σ H Q ⟨R, ρ, fs, ds, ρ', s, e, q⟩ => by
  obtain ⟨w, e1, e2⟩ := bindO e
  obtain ⟨w1, w2⟩ := w
  simp only at e2
  split at e2
  · obtain ⟨e3, e4⟩ := ifSome' e2
    cases e4
    rw [Bool.and_eq_true] at e3
    refine ⟨R, ρ, fs, _, _, s, e1, fun vs H' fs' t s' r => ?_⟩
    cases r with
    | cons r rs =>
      cases r
      cases rs with
      | cons r rs =>
        cases r
        cases rs
        exact ⟨_, _, rfl, ⟨(small62_of e3.1).1, (small62_of e3.1).2, (small62_of e3.2).1, (small62_of e3.2).2⟩, q _ H' fs' t s' (walks_range _ _)⟩
  · cases e2

/-! ### for -/
def loopF (b : D → Rho → Option Out) (ks : List Nat) : List D → Rho → Option Out
  | [], ρ => some (.nx ρ)
  | d :: ds, ρ => (b d ρ).bind fun o => match o with
    | .nx ρ' => loopF b ks ds (kill ks ρ')
    | .ct ρ' => loopF b ks ds (kill ks ρ')
    | .bk ρ' => some (.nx (kill ks ρ'))
    | .rt d ρ' => some (.rt d ρ')
def sFor (ks : List Nat) (it : Itf) (g : Gf) (b : Sf) : Sf := fun ρ => (it ρ).bind fun p => loopF (fun d ρ => (g d ρ).bind b) ks p.1 (kill ks p.2)
theorem drop_get {α : Type} {l : List α} {i : Nat} {a : α} (h : l[i]? = some a) : l.drop i = a :: l.drop (i + 1) := by
  obtain ⟨hi, e⟩ := List.getElem?_eq_some_iff.mp h
  rw [List.drop_eq_getElem_cons hi, e]
theorem ds_for {it : Itf} {g : Gf} {bf : Sf} {iter : Expr} {body : List Stmt} {τg τb tbk tct : List Ty} (ks : List Nat) (hp : PassesOwn (model X.prog X.w) X.A X.env X.xe) (hc : X.calm = true) (hi : DI X tg iter τ it)
    (hg : DG X γ.io tg (killT ks τ) g τg) (hb : DSs X { γ with bk := tbk, ct := tct } body τg bf τb) (h1 : killT ks τb = killT ks τ := by rfl) (h2 : killT ks tbk = killT ks τ := by rfl) (h3 : killT ks tct = killT ks τ := by rfl)
    (hs : ∀ x, foldedSetIterable iter X.env x = pure x := by intro _; rfl) : DS X γ (.For tg iter body [] pos) τ (sFor ks it g bf) (killT ks τ) := ps_imp (ps_for hp hc hi hg hb hs) fun D σ0 H0 ⟨R, ρ0, fs0, out, s0, e, q⟩ => by
  obtain ⟨w, e1, e2⟩ := bindO e
  refine ⟨R, ρ0, fs0, w.1, w.2, s0, e1, fun J H1 fs1' t1' s1' wk => ?_⟩
  obtain ⟨fs1, s1, sub1⟩ := s1'.killS ks
  have t1 := t1'.less sub1
  have wk1 : Walks X.K X.mg J w.1 (hide (R ++ fs1') H1) := wk
  have q1 : Post X γ D R σ0 H1 fs1 (killT ks τ) out := q.mono t1 (Kp.refl _ _) (fun ρ' σ' H' fs' eo t' k' s' => by subst eo; exact q σ' H' fs' t' k' s') rfl rfl rfl
  refine ⟨fun i m σ H => ∃ ρ fs, Step H1 H fs1 fs ∧ Kp γ.io σ0 σ ∧ SR X.K X.mg R (killT ks τ) ρ σ H fs ∧ Le (hide (R ++ fs1') H1) (hide (R ++ fs) H) ∧ loopF (fun d ρ => (g d ρ).bind bf) ks (w.1.drop i) ρ = some out ∧ m + i = w.1.length,
    ⟨w.1.length, _, fs1, Step.refl _ _, Kp.refl _ _, s1, hide_sub (fun a ha => ?_), by simpa using e2, by omega⟩, fun i m σ H ⟨ρ, fs, t, k, s, le, el, em⟩ => ?_⟩
  · rcases List.mem_append.mp ha with z | z
    · exact List.mem_append_left _ z
    · exact List.mem_append_right _ (sub1 a z)
  · obtain ⟨wgo, wst⟩ := wk1 i (R ++ fs) H s.own le
    by_cases hi : i < w.1.length
    · have ed := List.getElem?_eq_getElem hi
      generalize w.1[i] = d at ed
      rw [drop_get ed] at el
      obtain ⟨o, eb, eo⟩ := bindO (show ((g d ρ).bind bf).bind _ = some out from el)
      obtain ⟨ρ1, eg, eb⟩ := bindO eb
      obtain ⟨go, yl⟩ := wgo d ed
      refine .inr ⟨go, fun σ' H' => ∃ ρ' fs', Step H1 H' fs1 fs' ∧ Kp γ.io σ0 σ' ∧ SR X.K X.mg R (killT ks τ) ρ' σ' H' fs' ∧ Le (hide (R ++ fs1') H1) (hide (R ++ fs') H') ∧ loopF (fun d ρ => (g d ρ).bind bf) ks (w.1.drop (i + 1)) ρ' = some out,
        fun σ' H' ⟨ρ', fs', a1, a2, a3, a4, a5⟩ => ⟨m - 1, by omega, ρ', fs', a1, a2, a3, a4, a5, by omega⟩, fun x H' hy => ?_⟩
      obtain ⟨gr, rf⟩ := yl x H' hy
      refine ⟨R, ρ, fs, d, ρ1, s.grow gr, rf, eg, fun σ2 fs2 sub2 k2 s2 => ?_⟩
      have t2 : Step H H' fs fs2 := (Step.grow gr fs).less sub2
      have le2 : Le (hide (R ++ fs1') H1) (hide (R ++ fs2) H') := le.trans (s.le t2)
      refine ⟨R, ρ1, fs2, o, s2, eb, ?_⟩
      have fin : ∀ {τx : List Ty} {ρ' : Rho} {σ' : L2.St} {H'' : Hp} {fs' : List Addr}, killT ks τx = killT ks τ → Step H' H'' fs2 fs' → Kp γ.io σ2 σ' → SR X.K X.mg R τx ρ' σ' H'' fs' →
          ∃ fs'', Step H1 H'' fs1 fs'' ∧ Kp γ.io σ0 σ' ∧ SR X.K X.mg R (killT ks τ) (kill ks ρ') σ' H'' fs'' ∧ Le (hide (R ++ fs1') H1) (hide (R ++ fs'') H'') := fun hx t3 k3 s3 => by
        obtain ⟨fs4, s4, sub4⟩ := s3.killS ks
        rw [hx] at s4
        exact ⟨fs4, (t.trans t2).trans (t3.less sub4), (k.trans k2).trans k3, s4, le2.trans (s2.le (t3.less sub4))⟩
      cases o with
      | nx ρ2 =>
        exact fun σ' H'' fs' t3 k3 s3 => by
          obtain ⟨fs4, a1, a2, a3, a4⟩ := fin h1 t3 k3 s3
          exact ⟨_, fs4, a1, a2, a3, a4, eo⟩
      | ct ρ2 =>
        exact fun σ' H'' fs' t3 k3 s3 => by
          obtain ⟨fs4, a1, a2, a3, a4⟩ := fin h3 t3 k3 s3
          exact ⟨_, fs4, a1, a2, a3, a4, eo⟩
      | bk ρ2 =>
        cases eo
        exact fun σ' H'' fs' t3 k3 s3 => by
          obtain ⟨fs4, a1, a2, a3, a4⟩ := fin h2 t3 k3 s3
          exact q1 σ' H'' fs4 a1 a2 a3
      | rt d ρ2 =>
        cases eo
        exact fun v σ' H'' fs' fv t3 k3 s3 r3 => q1 v σ' H'' fs' fv ((t.trans t2).trans t3) ((k.trans k2).trans k3) s3 r3
    · rw [List.drop_eq_nil_of_le (by omega)] at el
      cases el
      exact .inl ⟨wst (by omega), q1 σ H fs t k s⟩
/-! ### while -/
def loopW (t : Tf) (b : Sf) (ks : List Nat) : Nat → Rho → Option Out
  | 0, _ => none
  | n + 1, ρ => (t ρ).bind fun p => if p.1 then (b p.2).bind fun o => match o with
      | .nx ρ' => loopW t b ks n (kill ks ρ')
      | .ct ρ' => loopW t b ks n (kill ks ρ')
      | .bk ρ' => some (.nx (kill ks ρ'))
      | .rt d ρ' => some (.rt d ρ')
    else some (.nx p.2)
def sWhile (n : Nat) (ks : List Nat) (t : Tf) (b : Sf) : Sf := fun ρ => loopW t b ks n (kill ks ρ)
theorem ds_while {t : Tf} {bf : Sf} {body : List Stmt} {τb tbk tct : List Ty} (n : Nat) (ks : List Nat) (hp : PassesOwn (model X.prog X.w) X.A X.env X.xe) (hc : DT X c (killT ks τ) t)
    (hb : DSs X { γ with bk := tbk, ct := tct } body (killT ks τ) bf τb) (h1 : killT ks τb = killT ks τ := by rfl) (h2 : killT ks tbk = killT ks τ := by rfl) (h3 : killT ks tct = killT ks τ := by rfl) :
    DS X γ (.While c body [] pos) τ (sWhile n ks t bf) (killT ks τ) := ps_imp (ps_while hp hc hb) fun D σ0 H0 ⟨R, ρ0, fs0, out, s0, e, q⟩ => by
  obtain ⟨fs1, s1, sub1⟩ := s0.killS ks
  have q1 : Post X γ D R σ0 H0 fs1 (killT ks τ) out := q.mono ((Step.refl H0 fs0).less sub1) (Kp.refl _ _) (fun ρ' σ' H' fs' eo t' k' s' => by subst eo; exact q σ' H' fs' t' k' s') rfl rfl rfl
  refine ⟨fun m σ H => ∃ ρ fs, Step H0 H fs1 fs ∧ Kp γ.io σ0 σ ∧ SR X.K X.mg R (killT ks τ) ρ σ H fs ∧ loopW t bf ks m ρ = some out, ⟨n, _, fs1, Step.refl _ _, Kp.refl _ _, s1, e⟩, fun m σ H ⟨ρ, fs, st, k, s, el⟩ => ?_⟩
  cases m with
  | zero => cases el
  | succ m =>
    obtain ⟨p, e1, e2⟩ := bindO (show (t ρ).bind _ = some out from el)
    refine ⟨R, ρ, fs, p.1, p.2, s, e1, fun H1 fs2 t2 s2 => ?_⟩
    cases hp : p.1 with
    | false =>
      rw [hp] at e2
      cases e2
      exact iteF (q1 σ H1 fs2 (st.trans t2) k s2)
    | true =>
      rw [hp, if_pos rfl] at e2
      obtain ⟨o, eb, eo⟩ := bindO e2
      refine iteT ⟨fun σ' H' => ∃ ρ' fs', Step H0 H' fs1 fs' ∧ Kp γ.io σ0 σ' ∧ SR X.K X.mg R (killT ks τ) ρ' σ' H' fs' ∧ loopW t bf ks m ρ' = some out, fun σ' H' ⟨ρ', fs', a1, a2, a3, a4⟩ => ⟨m, by omega, ρ', fs', a1, a2, a3, a4⟩, R, p.2, fs2, o, s2, eb, ?_⟩
      have fin : ∀ {τx : List Ty} {ρ' : Rho} {σ' : L2.St} {H'' : Hp} {fs' : List Addr}, killT ks τx = killT ks τ → Step H1 H'' fs2 fs' → Kp γ.io σ σ' → SR X.K X.mg R τx ρ' σ' H'' fs' →
          ∃ fs'', Step H0 H'' fs1 fs'' ∧ Kp γ.io σ0 σ' ∧ SR X.K X.mg R (killT ks τ) (kill ks ρ') σ' H'' fs'' := fun hx t3 k3 s3 => by
        obtain ⟨fs4, s4, sub4⟩ := s3.killS ks
        rw [hx] at s4
        exact ⟨fs4, (st.trans t2).trans (t3.less sub4), k.trans k3, s4⟩
      cases o with
      | nx ρ2 =>
        exact fun σ' H'' fs' t3 k3 s3 => by
          obtain ⟨fs4, a1, a2, a3⟩ := fin h1 t3 k3 s3
          exact ⟨_, fs4, a1, a2, a3, eo⟩
      | ct ρ2 =>
        exact fun σ' H'' fs' t3 k3 s3 => by
          obtain ⟨fs4, a1, a2, a3⟩ := fin h3 t3 k3 s3
          exact ⟨_, fs4, a1, a2, a3, eo⟩
      | bk ρ2 =>
        cases eo
        exact fun σ' H'' fs' t3 k3 s3 => by
          obtain ⟨fs4, a1, a2, a3⟩ := fin h2 t3 k3 s3
          exact q1 σ' H'' fs4 a1 a2 a3
      | rt d ρ2 =>
        cases eo
        exact fun v σ' H'' fs' fv t3 k3 s3 r3 => q1 v σ' H'' fs' fv ((st.trans t2).trans t3) (k.trans k3) s3 r3
end

/-! ### slots that do not matter -/
section
variable {K : PySem.W.Frag} {mg : Str → Option Value} {H G : Hp}
theorem Sl.congr : ∀ {τ : List Ty} {ρ ρ' : Rho} {σ σ' : L2.St} {f : List Addr}, Sl K mg H G τ ρ σ f → ρ'.length = ρ.length → σ'.length = σ.length → (∀ (i : Nat) (t : Ty), τ[i]? = some t → t ≠ .no → ρ'[i]? = ρ[i]? ∧ σ'[i]? = σ[i]?) → Sl K mg H G τ ρ' σ' f
  | _, _, ρ', _, σ', _, .nil, h1, h2, _ => by
    have e1 : ρ' = [] := List.length_eq_zero_iff.mp h1
    have e2 : σ' = [] := List.length_eq_zero_iff.mp h2
    subst e1; subst e2; exact .nil
  | _, _, ρ', _, σ', _, .no r, h1, h2, k => by
    cases ρ' with
    | nil => simp at h1
    | cons d ρ' =>
      cases σ' with
      | nil => simp at h2
      | cons v σ' => exact .no (Sl.congr r (by simpa using h1) (by simpa using h2) fun i t e n => by simpa using k (i + 1) t (by simpa using e) n)
  | _, _, ρ', _, σ', _, .cons (t := t) h r, h1, h2, k => by
    cases ρ' with
    | nil => simp at h1
    | cons d ρ' =>
      cases σ' with
      | nil => simp at h2
      | cons v σ' =>
        have k0 := k 0 t rfl (by intro z; subst z; cases h)
        simp at k0
        obtain ⟨rfl, rfl⟩ := k0
        exact .cons h (Sl.congr r (by simpa using h1) (by simpa using h2) fun i t e n => by simpa using k (i + 1) t (by simpa using e) n)
end
theorem wipe_in {σ : L2.St} {i : Nat} : ∀ {vs : List Nat}, i ∈ vs → i < σ.length → (wipe σ vs)[i]? = some none
  | v :: vs, h, hl => by
    show ((wipe σ vs).set v none)[i]? = some none
    by_cases e : v = i
    · subst e
      rw [List.getElem?_set_self (by rw [wipe_length]; exact hl)]
    · rw [List.getElem?_set_ne e]
      exact wipe_in ((List.mem_cons.mp h).resolve_left (fun z => e z.symm)) hl
/-! ### list comprehensions -/
def oE (f : Ef) : Of := fun ρ => (f ρ).bind fun p => match p.1 with
  | .v d => some (d, p.2)
  | _ => none
theorem do_E {X : Cx} {τ : List Ty} {e : Expr} {f : Ef} (h : DE X e τ f) : DO X e τ (oE f) .sh := pe_imp h fun σ H Q ⟨R, ρ, fs, d, ρ', s, e, q⟩ => by
  obtain ⟨p, e1, e2⟩ := bindO e
  obtain ⟨p1, p2⟩ := p
  cases p1 with
  | x i => cases e2
  | v d => cases e2; exact ⟨R, ρ, fs, _, _, s, e1, fun v H' fs' t s' r => q v H' fs' [] t s' (.sh r)⟩
def stepLc (own : List Nat) (g : Gf) (tt : Tf) (el : Of) (d : D) (ρ : Rho) : Option (Option D × Rho) := (g d ρ).bind fun ρ1 => (tt ρ1).bind fun p => if p.1 then (el p.2).bind fun q => some (some q.1, kill own q.2) else some (none, kill own p.2)
def lcF (step : D → Rho → Option (Option D × Rho)) : List D → Rho → Option (List D × Rho)
  | [], ρ => some ([], ρ)
  | d :: r, ρ => (step d ρ).bind fun q => (lcF step r q.2).bind fun w => some (q.1.toList ++ w.1, w.2)
def oLc (own : List Nat) (it : Itf) (g : Gf) (tt : Tf) (el : Of) : Of := fun ρ => (it ρ).bind fun p => if okLen p.1.length then (lcF (stepLc own g tt el) p.1 p.2).bind fun r => some (.lst r.1, r.2) else none
def isNo : Option Ty → Bool
  | some .no => true
  | _ => false
def allNo (τ : List Ty) (own : List Nat) : Bool := own.all fun i => isNo τ[i]?
theorem allNo_ok {τ : List Ty} {own : List Nat} (h : allNo τ own = true) : ∀ i ∈ own, τ[i]? = some .no := fun i hi => by
  have := List.all_eq_true.mp h i hi
  revert this
  generalize τ[i]? = o
  intro q
  cases o with
  | none => cases q
  | some t => cases t <;> first | rfl | cases q
def others (n : Nat) (own : List Nat) : List Nat := (List.range n).filter fun i => !own.contains i
def tYesF : Tf := fun ρ => some (true, ρ)
abbrev DTs (X : Cx) (ifs : List Expr) (τ : List Ty) (f : Tf) : Prop := PTs X ifs (tT X τ f)
theorem pts_imp {X : Cx} {e : List Expr} {t t' : TT} (h : PTs X e t) (k : ∀ σ H Q, t' σ H Q → t σ H Q) : PTs X e t' := ⟨fun pins s σ H Q I q => h.run pins s σ H Q I (k σ H Q q)⟩
theorem dts_nil {X : Cx} {τ : List Ty} : DTs X [] τ tYesF := pts_imp pts_nil fun σ H Q ⟨R, ρ, fs, b, ρ', s, e, q⟩ => by
  cases e
  exact q H fs (Step.refl H fs) s
theorem dts_one {X : Cx} {τ : List Ty} {c : Expr} {f : Tf} (h : DT X c τ f) : DTs X [c] τ f := pts_one h
theorem SR.updR {K : PySem.W.Frag} {mg : Str → Option Value} {R : List Addr} {τ : List Ty} {ρ : Rho} {σ : L2.St} {H : Hp} {fs : List Addr} {a : Addr} {o : HO} (s : SR K mg R τ ρ σ H fs) (ha : a ∈ R) (w : Own o) : SR K mg R τ ρ σ (upd H a o) fs := by
  have nd := s.nd
  refine ⟨s.sl.mono (hide_mono fun b u n e => ⟨n, by rw [upd_ne fun z => n (by rw [z]; exact List.mem_append_left _ ha)]; exact e⟩) fun b hb => upd_ne fun z => (List.nodup_append.mp nd).2.2 a ha b hb z.symm, nd, fun b hb => ?_⟩
  by_cases z : b = a
  · exact ⟨o, by rw [z, upd_same], w⟩
  · obtain ⟨u, e, w'⟩ := s.al b hb
    exact ⟨u, by rw [upd_ne z]; exact e, w'⟩
theorem Rps.snoc {K : PySem.W.Frag} {mg : Str → Option Value} {H G : Hp} : ∀ {ts : List Ty} {ds : List D} {vs : List V} {f : List Addr} {t : Ty} {d : D} {v : V} {g : List Addr}, Rps K mg H G ts ds vs f → Rp K mg H G t d v g → Rps K mg H G (ts ++ [t]) (ds ++ [d]) (vs ++ [v]) (f ++ g)
  | _, _, _, _, _, _, _, g, .nil, h => by
    have := Rps.cons h .nil
    simpa using this
  | _, _, _, _, _, _, _, g, .cons (f := f0) (g := g0) q r, h => by
    have := Rps.cons q (Rps.snoc r h)
    simpa [List.append_assoc] using this
theorem Rps.len {K : PySem.W.Frag} {mg : Str → Option Value} {H G : Hp} : ∀ {ts : List Ty} {ds : List D} {vs : List V} {f : List Addr}, Rps K mg H G ts ds vs f → ds.length = vs.length
  | _, _, _, _, .nil => rfl
  | _, _, _, _, .cons _ r => by simp [Rps.len r]
section
variable {X : Cx} {γ : Gm} {τ τ1 τ' : List Ty} {tg a b c elt iter : Expr} {ifs : List Expr} {es : List Expr} {pos p : Pos}
/-- the reading of a comprehension -/
theorem tLc_of {it : Itf} {g : Gf} {tt : Tf} {el : Of} {t : Ty} {τg : List Ty} (own : List Nat) (hown : ∀ i ∈ own, τ[i]? = some .no) (hlen : τg.length = τ.length) (hkg : killT own τg = τ) : ∀ σ H Q, tO X τ (oLc own it g tt el) (.oL t) σ H Q →
    tLc (tI X τ it) (tG X (others τ.length own) τ g τg) (tT X τg tt) (tO X τg el t) own σ H Q := fun σ0 H0 Q ⟨R, ρ0, fs0, dd, ρe, s0, e, q⟩ => by
  obtain ⟨w, e1, e2⟩ := bindO e
  obtain ⟨e3, e4⟩ : okLen w.1.length = true ∧ ((lcF (stepLc own g tt el) w.1 w.2).bind fun r => some (D.lst r.1, r.2)) = some (dd, ρe) := by
    by_cases h : okLen w.1.length = true
    · rw [if_pos h] at e2; exact ⟨h, e2⟩
    · rw [if_neg h] at e2; cases e2
  obtain ⟨res, e5, e6⟩ := bindO e4
  cases e6
  refine ⟨R, ρ0, fs0, w.1, w.2, s0, e1, fun J H1 fs1 t1 s1 wk => fun Dd hD => ?_⟩
  obtain ⟨n1, n2, n3⟩ := s1.newL (p := Dd) (vs := []) (ds := []) hD .nil
  have hlσ : ∀ {R' : List Addr} {ρ' : Rho} {H' : Hp} {fs' : List Addr} {σ' : L2.St} {τx : List Ty}, SR X.K X.mg R' τx ρ' σ' H' fs' → σ'.length = τx.length := fun s => by
    have := s.sl.len
    omega
  refine ⟨fun i m H => ∃ ρ fs gs accd acc rest, Step H1 H fs1 ((Dd :: gs) ++ fs) ∧ SR X.K X.mg ((Dd :: gs) ++ R) τ ρ σ0 H fs ∧ Le (hide (R ++ fs1) H1) (hide ((Dd :: gs) ++ R ++ fs) H) ∧ H Dd = some (.lst acc) ∧
      Rps X.K X.mg H (hide ((Dd :: gs) ++ R ++ fs) H) (List.replicate accd.length t) accd acc gs ∧ lcF (stepLc own g tt el) (w.1.drop i) ρ = some rest ∧ accd ++ rest.1 = res.1 ∧ rest.2 = res.2 ∧ accd.length ≤ i ∧ m + i = w.1.length,
    ⟨w.1.length, w.2, fs1, [], [], [], res, n3, n1, ?_, upd_same, .nil, by simpa using e5, rfl, rfl, Nat.le_refl _, by omega⟩, fun i m H ⟨ρ, fs, gs, accd, acc, rest, tS, s, le, hDd, rps, el1, er1, er2, ei, em⟩ => ?_⟩
  · exact hide_upd' hD fun a z => by simpa using z
  · obtain ⟨wgo, wst⟩ := wk i ((Dd :: gs) ++ R ++ fs) H s.own le
    by_cases hi : i < w.1.length
    · have ed := List.getElem?_eq_getElem hi
      generalize w.1[i] = d at ed
      rw [drop_get ed] at el1
      obtain ⟨st, es1, es2⟩ := bindO (show (stepLc own g tt el d ρ).bind _ = some rest from el1)
      obtain ⟨rest', es3, es4⟩ := bindO es2
      obtain ⟨ρ1, eg, es5⟩ := bindO (show (g d ρ).bind _ = some st from es1)
      obtain ⟨pt, et, es6⟩ := bindO es5
      obtain ⟨go, yl⟩ := wgo d ed
      refine .inr ⟨go, fun H' => ∃ ρ fs gs accd acc rest, Step H1 H' fs1 ((Dd :: gs) ++ fs) ∧ SR X.K X.mg ((Dd :: gs) ++ R) τ ρ σ0 H' fs ∧ Le (hide (R ++ fs1) H1) (hide ((Dd :: gs) ++ R ++ fs) H') ∧ H' Dd = some (.lst acc) ∧
          Rps X.K X.mg H' (hide ((Dd :: gs) ++ R ++ fs) H') (List.replicate accd.length t) accd acc gs ∧ lcF (stepLc own g tt el) (w.1.drop (i + 1)) ρ = some rest ∧ accd ++ rest.1 = res.1 ∧ rest.2 = res.2 ∧ accd.length ≤ i + 1,
        fun H' ⟨a0, a1, a2, a3, a4, a5, a6, a7, a8, a9, a10, a11, a12, a13, a14⟩ => ⟨m - 1, by omega, a0, a1, a2, a3, a4, a5, a6, a7, a8, a9, a10, a11, a12, a13, a14, by omega⟩, fun x H' hy => ?_⟩
      obtain ⟨gr, rf⟩ := yl x H' hy
      have sw : SR X.K X.mg ((Dd :: gs) ++ R) τ ρ (wipe σ0 own) H' fs := by
        have s' := s.grow gr
        refine ⟨s'.sl.congr rfl (wipe_length _ _) fun j tj ej nj => ⟨rfl, ?_⟩, s'.nd, s'.al⟩
        exact wipe_out fun z => by rw [hown j z] at ej; exact nj (Option.some.inj ej).symm
      refine ⟨(Dd :: gs) ++ R, ρ, fs, d, ρ1, sw, rf, eg, fun σ2 fs2 sub2 k2 s2 => ⟨?_, ?_⟩⟩
      · apply List.ext_getElem?
        intro j
        have hl2 : σ2.length = σ0.length := by rw [hlσ s2, hlσ s, hlen]
        by_cases hj : j ∈ own
        · by_cases hjl : j < σ0.length
          · rw [wipe_in hj (by rw [hl2]; exact hjl), wipe_in hj hjl]
          · rw [List.getElem?_eq_none (by rw [wipe_length, hl2]; omega), List.getElem?_eq_none (by rw [wipe_length]; omega)]
        · rw [wipe_out hj, wipe_out hj]
          by_cases hjl : j < τ.length
          · rw [k2 j (by unfold others; simp [hjl, hj]), wipe_out hj]
          · rw [List.getElem?_eq_none (by rw [hlσ s2, hlen]; omega), List.getElem?_eq_none (by rw [hlσ s]; omega)]
      · have t2 : Step H H' fs fs2 := (Step.grow gr fs).less sub2
        refine ⟨(Dd :: gs) ++ R, ρ1, fs2, pt.1, pt.2, s2, et, fun H3 fs3 t3 s3 => ?_⟩
        have back : ∀ {R' : List Addr} {ρ' : Rho} {H' : Hp} {fs' : List Addr}, SR X.K X.mg R' τg ρ' σ2 H' fs' → ∃ fs'', SR X.K X.mg R' τ (kill own ρ') σ0 H' fs'' ∧ ∀ a ∈ fs'', a ∈ fs' := fun s' => by
          obtain ⟨fs'', sk, sb⟩ := s'.killS own
          rw [hkg] at sk
          refine ⟨fs'', ⟨sk.sl.congr rfl ?_ fun j tj ej nj => ⟨rfl, ?_⟩, sk.nd, sk.al⟩, sb⟩
          · rw [hlσ s, hlσ sk]
          · have hj : j ∉ own := fun z => by rw [hown j z] at ej; exact nj (Option.some.inj ej).symm
            have hjl : j < τ.length := (List.getElem?_eq_some_iff.mp ej).1
            rw [k2 j (by unfold others; simp [hjl, hj]), wipe_out hj]
        cases hp : pt.1 with
        | false =>
          rw [hp] at es6
          cases es6
          obtain ⟨fs4, s4, sub4⟩ := back s3
          have t4 : Step H H3 fs fs4 := (t2.trans t3).less sub4
          refine iteF ⟨_, fs4, gs, accd, acc, rest', ⟨fun a o n e => ?_, fun a ha => ?_, fun a o e => ?_⟩, s4, le.trans (s.le t4), ?_, ?_, es3, ?_, ?_, by omega⟩
          · by_cases z : a ∈ (Dd :: gs) ++ fs
            · rcases tS.sub a z with q | q
              · exact absurd q n
              · rw [q] at e; cases e
            · exact t4.ext a o (fun h => z (List.mem_append_right _ h)) (tS.ext a o n e)
          · rcases List.mem_append.mp ha with z | z
            · exact tS.sub a (List.mem_append_left _ z)
            · rcases t4.sub a z with q | q
              · exact tS.sub a (List.mem_append_right _ q)
              · refine .inr ?_
                cases e : H1 a with
                | none => rfl
                | some o =>
                  obtain ⟨o', e'⟩ := tS.ne a o e
                  rw [e'] at q; cases q
          · obtain ⟨o', e'⟩ := tS.ne a o e
            exact t4.ne a o' e'
          · refine t4.ext Dd _ (fun z => ?_) hDd
            exact (List.nodup_append.mp s.nd).2.2 Dd (by simp) Dd z rfl
          · refine rps.mono (s.le t4) fun a ha => ?_
            obtain ⟨o, eo, _⟩ := s.al a (by simp [ha])
            rw [eo]
            exact t4.ext a o (fun z => (List.nodup_append.mp s.nd).2.2 a (by simp [ha]) a z rfl) eo
          · rw [← er1, ← Option.some.inj es4]; rfl
          · rw [← er2, ← Option.some.inj es4]
        | true =>
          rw [hp, if_pos rfl] at es6
          obtain ⟨pe, ee, es7⟩ := bindO es6
          cases es7
          refine iteT ⟨(Dd :: gs) ++ R, pt.2, fs3, pe.1, pe.2, s3, ee, fun y H4 fs4 fv t4 s4 r4 => ?_⟩
          obtain ⟨fs5, s5, sub5⟩ := back s4
          have t35 : Step H H4 fs (fv ++ fs5) := (t2.trans t3).trans (t4.less fun a ha => (List.mem_append.mp ha).elim (fun z => by simp [z]) fun z => by simp [sub5 a z])
          have hD4 : H4 Dd = some (.lst acc) := t35.ext Dd _ (fun z => (List.nodup_append.mp s.nd).2.2 Dd (by simp) Dd z rfl) hDd
          have lacc : acc.length < sizeLine := by
            rw [← rps.len]
            have := okLen_le e3
            omega
          refine ⟨acc, hD4, lacc, ?_⟩
          have s6 := s5.updR (a := Dd) (o := .lst (acc ++ [y])) (by simp) trivial
          have mem : ∀ a, a ∈ (Dd :: (gs ++ fv)) ++ R ++ fs5 ↔ a ∈ fv ++ ((Dd :: gs) ++ R) ++ fs5 := fun a => by
            simp only [List.mem_append, List.mem_cons]
            constructor
            · rintro (((h | h | h) | h) | h) <;> simp [h]
            · rintro ((h | (h | h) | h) | h) <;> simp [h]
          have pm : ((Dd :: (gs ++ fv)) ++ R ++ fs5).Perm (fv ++ ((Dd :: gs) ++ R) ++ fs5) := by
            refine List.Perm.append_right _ ?_
            rw [← List.cons_append, List.append_assoc]
            refine (List.Perm.append_left (Dd :: gs) (List.perm_append_comm (l₁ := fv) (l₂ := R))).trans ?_
            rw [← List.append_assoc]
            exact List.perm_append_comm
          have s7 : SR X.K X.mg ((Dd :: (gs ++ fv)) ++ R) τ (kill own pe.2) σ0 (upd H4 Dd (.lst (acc ++ [y]))) fs5 := by
            refine ⟨s6.sl.mono (hide_sub fun a ha => (mem a).mp ha) fun _ _ => rfl, pm.nodup_iff.mpr s6.nd, fun a ha => ?_⟩
            refine s6.own a ((mem a).mp (List.mem_append_left _ ha))
          have ndS := s5.nd
          have neD : ∀ a, a ∈ gs ∨ a ∈ fv → a ≠ Dd := fun a ha z => by
            subst z
            simp only [List.append_assoc, List.nodup_append, List.mem_append, List.cons_append, List.nodup_cons] at ndS
            rcases ha with h | h
            · exact ndS.2.1.1 (.inl h)
            · exact ndS.2.2 a h a (by simp) rfl
          have leU : Le (hide ((Dd :: gs) ++ R ++ fs) H) (hide ((Dd :: (gs ++ fv)) ++ R ++ fs5) (upd H4 Dd (.lst (acc ++ [y])))) := hide_mono fun a o n e => by
            have n1 : a ≠ Dd := fun z => n (by simp [z])
            have nfs : a ∉ fs := fun z => n (by simp [z])
            refine ⟨fun z => ?_, by rw [upd_ne n1]; exact t35.ext a o nfs e⟩
            have z := (mem a).mp z
            simp only [List.mem_append, List.mem_cons] at z n
            rcases z with (z | (z | z) | z) | z
            · rcases t35.sub a (by simp [z]) with q | q
              · exact nfs q
              · rw [q] at e; cases e
            · exact n1 z
            · exact n (by simp [z])
            · exact n (by simp [z])
            · rcases t35.sub a (by simp [z]) with q | q
              · exact nfs q
              · rw [q] at e; cases e
          refine ⟨_, fs5, gs ++ fv, accd ++ [pe.1], acc ++ [y], rest', ⟨fun a o n e => ?_, fun a ha => ?_, fun a o e => ?_⟩, s7, le.trans leU, upd_same, ?_, es3, ?_, ?_, by simp; omega⟩
          · have z : a ∉ (Dd :: gs) ++ fs := fun z => by
              rcases tS.sub a z with q | q
              · exact n q
              · rw [q] at e; cases e
            rw [upd_ne fun h => z (by simp [h])]
            exact t35.ext a o (fun h => z (List.mem_append_right _ h)) (tS.ext a o n e)
          · have fr : ∀ a, H a = none → H1 a = none := fun a q => by
              cases e : H1 a with
              | none => rfl
              | some o =>
                obtain ⟨o', e'⟩ := tS.ne a o e
                rw [e'] at q; cases q
            simp only [List.mem_append, List.mem_cons] at ha
            rcases ha with (z | z | z) | z
            · exact tS.sub a (by simp [z])
            · exact tS.sub a (by simp [z])
            · rcases t35.sub a (by simp [z]) with q | q
              · exact tS.sub a (by simp [q])
              · exact .inr (fr a q)
            · rcases t35.sub a (by simp [z]) with q | q
              · exact tS.sub a (by simp [q])
              · exact .inr (fr a q)
          · obtain ⟨o', e'⟩ := tS.ne a o e
            obtain ⟨o2, e2⟩ := t35.ne a o' e'
            by_cases z : a = Dd
            · exact ⟨_, by rw [z, upd_same]⟩
            · exact ⟨o2, by rw [upd_ne z]; exact e2⟩
          · have r1 := rps.mono leU (H' := upd H4 Dd (.lst (acc ++ [y]))) fun a ha => by
              rw [upd_ne (neD a (.inl ha))]
              obtain ⟨o, eo, _⟩ := s.al a (by simp [ha])
              rw [eo]
              exact t35.ext a o (fun z => (List.nodup_append.mp s.nd).2.2 a (by simp [ha]) a z rfl) eo
            have leV : Le (hide (fv ++ ((Dd :: gs) ++ R) ++ fs4) H4) (hide ((Dd :: (gs ++ fv)) ++ R ++ fs5) (upd H4 Dd (.lst (acc ++ [y])))) := hide_mono fun a o n e => by
              have n1 : a ≠ Dd := fun z => n (by simp [z])
              refine ⟨fun z => n ?_, by rw [upd_ne n1]; exact e⟩
              have z := (mem a).mp z
              rcases List.mem_append.mp z with z | z
              · exact List.mem_append_left _ z
              · exact List.mem_append_right _ (sub5 a z)
            have r2 := r4.mono leV (H' := upd H4 Dd (.lst (acc ++ [y]))) fun a ha => upd_ne (neD a (.inr ha))
            have := r1.snoc r2
            rw [← List.replicate_succ', show accd.length + 1 = (accd ++ [pe.1]).length by simp] at this
            exact this
          · rw [← er1, ← Option.some.inj es4]; simp
          · rw [← er2, ← Option.some.inj es4]
    · rw [List.drop_eq_nil_of_le (by omega)] at el1
      cases el1
      refine .inl ⟨wst (by omega), ?_⟩
      simp at er1 er2
      subst er1
      subst er2
      exact q (.ref Dd) H fs (Dd :: gs) (t1.trans tS) s (.oL hDd rps)
theorem do_lc {it : Itf} {g : Gf} {tt : Tf} {el : Of} {t : Ty} {τg : List Ty} {scope : Scope} {own : List (Str × Nat)} (hc : X.calm = true) (hN : X.N.Nodup) (hi : DI X tg iter τ it) (ok : BlkOk X.N X.env.scope scope own)
    (hg : ∀ (s : Shared) (H : Hp) (C : Addr) (cl : List (Str × Addr)) (fp : List Addr), DG (X.blk s H scope (compEnvC scope cl C X.env) fp) (others τ.length (own.map (·.2))) tg τ g τg)
    (ht : ∀ (s : Shared) (H : Hp) (C : Addr) (cl : List (Str × Addr)) (fp : List Addr), DTs (X.blk s H scope (compEnvC scope cl C X.env) fp) ifs τg tt)
    (he : ∀ (s : Shared) (H : Hp) (C : Addr) (cl : List (Str × Addr)) (fp : List Addr), DO (X.blk s H scope (compEnvC scope cl C X.env) fp) elt τg el t)
    (hown : allNo τ (own.map (·.2)) = true := by rfl) (hlen : τg.length = τ.length := by rfl) (hkg : killT (own.map (·.2)) τg = τ := by rfl)
    (hs : ∀ x, foldedSetIterable iter X.env x = pure x := by intro _; rfl) :
    DO X (.ListComp elt [⟨tg, iter, ifs, 0⟩] scope pos) τ (oLc (own.map (·.2)) it g tt el) (.oL t) := pe_imp (pe_lc hc hN hi ok hg ht he hs) (tLc_of (own.map (·.2)) (allNo_ok hown) hlen hkg)
end
end TL

namespace TL
open PySem PySem.Spec PyProof.Rows L2

section
variable {X : Cx} {γ : Gm} {τ τ1 τ' : List Ty} {tg a b c e elt iter o : Expr} {ifs : List Expr} {es : List Expr} {pos p : Pos}
/-- name = [..], the name local: the stores are exchanged -/
theorem ds_setLc {it : Itf} {g : Gf} {tt : Tf} {el : Of} {t : Ty} {τg : List Ty} {scope : Scope} {own : List (Str × Nat)} {y : Str} {py spos : Pos} (i : Nat) (hc : X.calm = true) (hN : X.N.Nodup) (hy : X.N[i]? = some y) (hyl : X.env.scope.names.lookup y = some .local)
    (hsw : swapsWith (.ListComp elt [⟨tg, iter, ifs, 0⟩] scope pos) (some (.Name y py)) spos.line X.env = pure true) (hi : DI X tg iter τ it) (ok : BlkOk X.N X.env.scope scope own)
    (hg : ∀ (s : Shared) (H : Hp) (C : Addr) (cl : List (Str × Addr)) (fp : List Addr), DG (X.blk s H scope (compEnvC scope cl C X.env) fp) (others τ.length (own.map (·.2))) tg τ g τg)
    (ht : ∀ (s : Shared) (H : Hp) (C : Addr) (cl : List (Str × Addr)) (fp : List Addr), DTs (X.blk s H scope (compEnvC scope cl C X.env) fp) ifs τg tt)
    (he : ∀ (s : Shared) (H : Hp) (C : Addr) (cl : List (Str × Addr)) (fp : List Addr), DO (X.blk s H scope (compEnvC scope cl C X.env) fp) elt τg el t)
    (hown : allNo τ (own.map (·.2)) = true := by rfl) (hlen : τg.length = τ.length := by rfl) (hkg : killT (own.map (·.2)) τg = τ := by rfl)
    (hs : ∀ x, foldedSetIterable iter X.env x = pure x := by intro _; rfl) (hti : i < τ.length := by decide) (hio : i ∉ γ.io := by decide) :
    DS X γ (.Assign [.Name y py] (.ListComp elt [⟨tg, iter, ifs, 0⟩] scope pos) spos) τ (sSetO i (oLc (own.map (·.2)) it g tt el)) (τ.set i (.oL t)) :=
  ps_imp (ps_setLc (i := i) hc hN hy hyl hsw hi ok hg ht he hs) fun D σ H q => by
    have := setO_of i hti hio D σ H q
    obtain ⟨R, ρ, fs, d, ρ', s, e, k⟩ := this
    exact tLc_of (own.map (·.2)) (allNo_ok hown) hlen hkg σ H _ ⟨R, ρ, fs, d, ρ', s, e, k⟩
/-- an owned value, then its slot is frozen -/
theorem ds_frzA {st : Stmt} {f : Sf} (i : Nat) {t : Ty} (h : DS X γ st τ f τ1) (ht : τ1[i]? = some t := by rfl) (hn : t ≠ .no := by intro z; cases z) : DS X γ st τ f (τ1.set i .sh) := ps_imp h fun D σ H ⟨R, ρ, fs, o, s, e, q⟩ => by
  refine ⟨R, ρ, fs, o, s, e, ?_⟩
  cases o with
  | nx ρ' =>
    exact fun σ' H' fs' t' k' s' => by
      obtain ⟨fs2, s2, sub⟩ := s'.frz ht hn
      exact q σ' H' fs2 (t'.less sub) k' s2
  | bk ρ' => exact q
  | ct ρ' => exact q
  | rt d ρ' => exact q

/-! ### o[i] = e -/
def setL (l : List D) (k : Int) (d : D) : Option (List D) := (ixN l.length k).bind fun j => some (l.set j d)
def sSetIx (i : Nat) (f fk : Ef) : Sf := fun ρ => (f ρ).bind fun p => (fk p.2).bind fun q => match p.1, q.1, q.2.getD i .non with
  | .v d, .v (.int k), .lst l => (setL l k d).bind fun l' => some (.nx (q.2.set i (.lst l')))
  | _, _, _ => none
theorem SR.gSub_aux {K : PySem.W.Frag} {mg : Str → Option Value} {R : List Addr} {ρ : Rho} {σ : L2.St} {H : Hp} {fs : List Addr} {i : Nat} {v0 : V} (s : SR K mg R τ ρ σ H fs) (ht : τ[i]? = some (.oL .sh)) (ev : σ[i]? = some (some v0)) {l : List D} (el : ρ.getD i .non = .lst l) :
    ∃ a vs, v0 = .ref a ∧ H a = some (.lst vs) ∧ Rfs K mg (hide (R ++ fs) H) l vs ∧ ∀ (vs' : List V) (l' : List D), Rfs K mg (hide (R ++ fs) H) l' vs' → SR K mg R τ (ρ.set i (.lst l')) σ (upd H a (.lst vs')) fs ∧ Step H (upd H a (.lst vs')) fs fs := by
  obtain ⟨f1, fo, f2, ef, hos, hl, _, h2, _⟩ := s.sl.split ht
  rcases hos with ⟨z, _⟩ | ⟨v1, ev1, r1⟩
  · cases z
  rw [ev] at ev1; cases ev1
  rw [el] at r1
  cases r1 with
  | @oL t a vs ds g h rs =>
    obtain ⟨rf, eg⟩ := rs.to_sh
    subst eg
    refine ⟨a, vs, rfl, h, rf, fun vs' l' rf' => ?_⟩
    have le : Le (hide (R ++ fs) H) (hide (R ++ fs) (upd H a (.lst vs'))) := hide_mono fun b u n e => ⟨n, by
      rw [upd_ne fun z => n (by rw [z, ef]; simp)]; exact e⟩
    exact s.write ht (f := []) ev (d := .lst l) ef (o := .lst vs') (d' := .lst l') trivial h2 (.oL upd_same (Rps.of_sh (rf'.mono le)))
theorem ds_setix {f fk : Ef} {ok ek : Expr} (i : Nat) (he : DE X e τ f) (ho : PE X ok (tVar i)) (hk : DE X ek τ fk) (ht : τ[i]? = some (.oL .sh) := by rfl)
    (ha : ∀ v, assign (.Subscript ok ek p) X.env v = (do
      let ov ← holding [v] (eval ok X.env)
      let iv ← holding [v, ov] (eval ek X.env)
      standAt p
      holding [v, ov, iv] (setItem ov iv v)
      release [v, ov, iv] []) := by intro _; rfl)
    (hs : swapsWithSole [.Subscript ok ek p] e pos.line X.env = pure false := by rfl) (hw : swappedStores [.Subscript ok ek p] e X.env = pure none := by rfl)
    (h1 : (assignEach [.Subscript ok ek p] X.env).map (·.2) = [assign (.Subscript ok ek p) X.env] := by rfl) :
    DS X γ (.Assign [.Subscript ok ek p] e pos) τ (sSetIx i f fk) τ := ps_imp (ps_asg he (pg_sub ho hk set_list ha) hs hw h1) fun D σ H ⟨R, ρ, fs, out, s, e, q⟩ => by
  obtain ⟨w, e1, e2⟩ := bindO e
  obtain ⟨z, e3, e4⟩ := bindO e2
  obtain ⟨w1, w2⟩ := w
  obtain ⟨z1, z2⟩ := z
  cases w1 with
  | x i => cases e4
  | v d =>
    cases z1 with
    | x i => cases e4
    | v dk =>
      cases dk with
      | int k =>
        have e5 : (match z2.getD i .non with | .lst l => (setL l k d).bind fun l' => some (Out.nx (z2.set i (.lst l'))) | _ => none) = some out := by
          revert e4
          simp only
          cases z2.getD i .non <;> exact id
        obtain ⟨l, el, e6⟩ : ∃ l, z2.getD i .non = .lst l ∧ ((setL l k d).bind fun l' => some (Out.nx (z2.set i (.lst l')))) = some out := by
          revert e5
          cases hz : z2.getD i .non with
          | lst l => exact fun e5 => ⟨l, rfl, e5⟩
          | _ => exact fun e5 => by cases e5
        obtain ⟨l', e7, e8⟩ := bindO e6
        cases e8
        obtain ⟨j, e9, e10⟩ := bindO e7
        cases e10
        obtain ⟨v0, f0, ev0, r0, _⟩ := s.get ht (by intro z; cases z)
        refine ⟨R, ρ, fs, _, _, s, e1, fun v H1 fs1 t1 s1 r => ⟨v0, ev0, R, w2, fs1, _, _, s1, e3, fun vk H2 fs2 t2 s2 rk => ?_⟩⟩
        cases rk
        obtain ⟨a, vs, rfl, hH, rf, mk⟩ := s2.gSub_aux ht ev0 el
        have rv : Rf X.K X.mg (hide (R ++ fs2) H2) d v := Rf.mono (s1.le t2) r
        obtain ⟨sn, tn⟩ := mk (vs.set j v) (l.set j d) (rf.set j rv)
        exact ⟨a, vs, k, j, rfl, rfl, hH, by rw [← rf.length]; exact e9, q σ _ fs2 ((t1.trans t2).trans tn) (Kp.refl _ _) sn⟩
      | _ => cases e4

/-! ### a, b = e1, e2 (both local): stored from the right -/
abbrev Lf := Rho → Option (List D × Rho)
/-- values, some of them owned -/
def tL (X : Cx) (τ : List Ty) (f : Lf) (ts : List Ty) : TA := fun σ H Q => ∃ R ρ fs ds ρ', SR X.K X.mg R τ ρ σ H fs ∧ f ρ = some (ds, ρ') ∧
  ∀ vs H' fs' fv, Step H H' fs (fv ++ fs') → SR X.K X.mg (fv ++ R) τ ρ' σ H' fs' → Rps X.K X.mg H' (hide (fv ++ R ++ fs') H') ts ds vs fv → Q vs H'
abbrev DL (X : Cx) (es : List Expr) (τ : List Ty) (f : Lf) (ts : List Ty) : Prop := PA X es (tL X τ f ts)
def lNil : Lf := fun ρ => some ([], ρ)
def lCons (f : Of) (g : Lf) : Lf := fun ρ => (f ρ).bind fun p => (g p.2).bind fun q => some (p.1 :: q.1, q.2)
theorem dl_nil : DL X [] τ lNil [] := pa_imp pa_nil fun σ H Q ⟨R, ρ, fs, h, ρ', s, e, q⟩ => by
  cases e
  exact q [] H fs [] (Step.refl H fs) s .nil
theorem dl_cons {f : Of} {g : Lf} {t : Ty} {ts : List Ty} (ha : DO X e τ f t) (hr : DL X es τ g ts) (hs : starEach (e :: es) X.env = (false, eval e X.env) :: starEach es X.env := by rfl) : DL X (e :: es) τ (lCons f g) (t :: ts) := pa_imp (pa_cons ha hr hs) fun σ H Q ⟨R, ρ, fs, h, ρ', s, e, q⟩ => by
  obtain ⟨p, e1, e2⟩ := bindO e
  obtain ⟨w, e3, e4⟩ := bindO e2
  cases e4
  refine ⟨R, ρ, fs, p.1, p.2, s, e1, fun v H1 fs1 f1 t1 s1 r1 => ⟨f1 ++ R, p.2, fs1, w.1, w.2, s1, e3, fun vs H2 fs2 f2 t2 s2 r2 => ?_⟩⟩
  have mem : ∀ a, a ∈ (f1 ++ f2) ++ R ++ fs2 ↔ a ∈ f2 ++ (f1 ++ R) ++ fs2 := fun a => by
    simp only [List.mem_append]
    constructor
    · rintro (((h | h) | h) | h) <;> simp [h]
    · rintro ((h | (h | h)) | h) <;> simp [h]
  have pm : ((f1 ++ f2) ++ R ++ fs2).Perm (f2 ++ (f1 ++ R) ++ fs2) := by
    refine List.Perm.append_right _ ?_
    rw [← List.append_assoc]
    exact List.Perm.append_right _ List.perm_append_comm
  refine q (v :: vs) H2 fs2 (f1 ++ f2) ⟨fun a o n e => ?_, fun a ha => ?_, fun a o e => ?_⟩ ⟨s2.sl.mono (hide_sub fun a ha => (mem a).mp ha) fun _ _ => rfl, pm.nodup_iff.mpr s2.nd, fun a ha => s2.own a ((mem a).mp (List.mem_append_left _ ha))⟩ (.cons (r1.mono ?_ ?_) (r2.mono (hide_sub fun a ha => (mem a).mp ha) fun _ _ => rfl))
  · refine t2.ext a o (fun z => ?_) (t1.ext a o n e)
    rcases t1.sub a (List.mem_append_right _ z) with q | q
    · exact n q
    · rw [q] at e; cases e
  · have fr : ∀ a, H1 a = none → H a = none := fun a q => by
      cases e : H a with
      | none => rfl
      | some o =>
        obtain ⟨o', e'⟩ := t1.ne a o e
        rw [e'] at q; cases q
    simp only [List.mem_append] at ha
    rcases ha with (z | z) | z
    · exact t1.sub a (by simp [z])
    · rcases t2.sub a (by simp [z]) with q | q
      · exact t1.sub a (by simp [q])
      · exact .inr (fr a q)
    · rcases t2.sub a (by simp [z]) with q | q
      · exact t1.sub a (by simp [q])
      · exact .inr (fr a q)
  · obtain ⟨o', e'⟩ := t1.ne a o e
    exact t2.ne a o' e'
  · refine hide_mono fun a o n e => ?_
    have nfs : a ∉ fs1 := fun z => n (List.mem_append_right _ z)
    refine ⟨fun z => ?_, t2.ext a o nfs e⟩
    have z := (mem a).mp z
    rcases List.mem_append.mp z with z | z
    · rcases List.mem_append.mp z with z | z
      · rcases t2.sub a (List.mem_append_left _ z) with q | q
        · exact nfs q
        · rw [q] at e; cases e
      · exact n (List.mem_append_left _ z)
    · rcases t2.sub a (List.mem_append_right _ z) with q | q
      · exact nfs q
      · rw [q] at e; cases e
  · intro a ha
    obtain ⟨o, e, _⟩ := s1.own a (List.mem_append_left _ (List.mem_append_left _ ha))
    rw [e]
    exact t2.ext a o (fun z => (List.nodup_append.mp s1.nd).2.2 a (List.mem_append_left _ ha) a z rfl) e
def sPar (i j : Nat) (f : Lf) : Sf := fun ρ => (f ρ).bind fun p => match p.1 with
  | [a, b] => some (.nx ((p.2.set i a).set j b))
  | _ => none
theorem SR.put2 {K : PySem.W.Frag} {mg : Str → Option Value} {R : List Addr} {ρ : Rho} {σ : L2.St} {H : Hp} {fs fv : List Addr} {i : Nat} {t : Ty} {ts : List Ty} {d : D} {ds : List D} {v : V} {vs : List V} (s : SR K mg (fv ++ R) τ ρ σ H fs) (hi : i < τ.length) (r : Rps K mg H (hide (fv ++ R ++ fs) H) (t :: ts) (d :: ds) (v :: vs) fv) :
    ∃ fs' fw, SR K mg (fw ++ R) (τ.set i t) (ρ.set i d) (σ.set i (some v)) H fs' ∧ Rps K mg H (hide (fw ++ R ++ fs') H) ts ds vs fw ∧ ∀ a ∈ fw ++ fs', a ∈ fv ++ fs := by
  cases r with
  | @cons _ _ _ f g _ _ _ h r =>
    have s' : SR K mg (f ++ (g ++ R)) τ ρ σ H fs := by rw [← List.append_assoc]; exact s
    have h' : Rp K mg H (hide (f ++ (g ++ R) ++ fs) H) t d v f := by rw [← List.append_assoc]; exact h
    obtain ⟨fs', s2, sub⟩ := s'.put hi h'
    refine ⟨fs', g, s2, r.mono (hide_sub fun a ha => ?_) fun _ _ => rfl, fun a ha => ?_⟩
    · simp only [List.mem_append] at ha ⊢
      rcases ha with (z | z) | z
      · simp [z]
      · simp [z]
      · have := sub a z
        simp only [List.mem_append] at this
        rcases this with h | h <;> simp [h]
    · simp only [List.mem_append] at ha ⊢
      rcases ha with z | z
      · simp [z]
      · have := sub a z
        simp only [List.mem_append] at this
        rcases this with h | h <;> simp [h]
theorem ds_par {f : Lf} {x y : Str} {px py pt : Pos} {kt k2 pt2} {t1 t2 : Ty} (i j : Nat) (hc : X.calm = true) (hN : X.N.Nodup) (hi : X.N[i]? = some x) (hj : X.N[j]? = some y) (hx : X.env.scope.names.lookup x = some .local) (hy : X.env.scope.names.lookup y = some .local) (ha : DL X [a, b] τ f [t1, t2])
    (hw : swappedStores [.Tuple [.Name x px, .Name y py] kt pt] (.Tuple [a, b] k2 pt2) X.env = pure (some [x, y])) (hij : i ≠ j := by decide) (hit : i < τ.length := by decide) (hjt : j < τ.length := by decide) (hio : i ∉ γ.io := by decide) (hjo : j ∉ γ.io := by decide)
    (hs : swapsWithSole [.Tuple [.Name x px, .Name y py] kt pt] (.Tuple [a, b] k2 pt2) pos.line X.env = pure false := by rfl) :
    DS X γ (.Assign [.Tuple [.Name x px, .Name y py] kt pt] (.Tuple [a, b] k2 pt2) pos) τ (sPar i j f) ((τ.set i t1).set j t2) := ps_imp (ps_par hc hN hi hj hij hx hy ha hw hs) fun D σ H ⟨R, ρ, fs, o, s, e, q⟩ => by
  obtain ⟨w, e1, e2⟩ := bindO e
  obtain ⟨w1, w2⟩ := w
  match w1, e2 with
  | [d1, d2], e2 =>
    cases e2
    refine ⟨R, ρ, fs, _, _, s, e1, fun vs H1 fs1 fv tt s1 r => ?_⟩
    match vs, r with
    | [v1, v2], r =>
      refine ⟨v1, v2, rfl, ?_⟩
      obtain ⟨fs2, fw, s2, r2, sub2⟩ := s1.put2 hit r
      obtain ⟨fs3, fz, s3, r3, sub3⟩ := s2.put2 (by simpa using hjt) r2
      have ez : fz = [] := by cases r3; rfl
      subst ez
      refine q _ H1 fs3 (tt.less fun a ha => sub2 a (sub3 a ha)) (fun k hk => ?_) s3
      rw [List.getElem?_set_ne (by intro z; subst z; exact hjo hk), List.getElem?_set_ne (by intro z; subst z; exact hio hk)]
    | [], r => cases r
    | [_], r => cases r with | cons _ r => cases r
    | _ :: _ :: _ :: _, r => cases r with | cons _ r => cases r with | cons _ r => cases r
  | [], e2 => cases e2
  | [_], e2 => cases e2
  | _ :: _ :: _ :: _, e2 => cases e2
def sPar3 (i j l : Nat) (f : Lf) : Sf := fun ρ => (f ρ).bind fun p => match p.1 with
  | [a, b, c] => some (.nx (((p.2.set i a).set j b).set l c))
  | _ => none
theorem ds_par3 {f : Lf} {x y z : Str} {px py pz pt : Pos} {kt k2 pt2} {t1 t2 t3 : Ty} (i j l : Nat) (hc : X.calm = true) (hN : X.N.Nodup) (hi : X.N[i]? = some x) (hj : X.N[j]? = some y) (hl : X.N[l]? = some z) (hx : X.env.scope.names.lookup x = some .local) (hy : X.env.scope.names.lookup y = some .local) (hz : X.env.scope.names.lookup z = some .local) (ha : DL X [a, b, c] τ f [t1, t2, t3])
    (hw : swappedStores [.Tuple [.Name x px, .Name y py, .Name z pz] kt pt] (.Tuple [a, b, c] k2 pt2) X.env = pure (some [x, y, z])) (hij : i ≠ j := by decide) (hil : i ≠ l := by decide) (hjl : j ≠ l := by decide) (hit : i < τ.length := by decide) (hjt : j < τ.length := by decide) (hlt : l < τ.length := by decide) (hio : i ∉ γ.io := by decide) (hjo : j ∉ γ.io := by decide) (hlo : l ∉ γ.io := by decide)
    (hs : swapsWithSole [.Tuple [.Name x px, .Name y py, .Name z pz] kt pt] (.Tuple [a, b, c] k2 pt2) pos.line X.env = pure false := by rfl) :
    DS X γ (.Assign [.Tuple [.Name x px, .Name y py, .Name z pz] kt pt] (.Tuple [a, b, c] k2 pt2) pos) τ (sPar3 i j l f) (((τ.set i t1).set j t2).set l t3) := ps_imp (ps_par3 hc hN hi hj hl hij hil hjl hx hy hz ha hw hs) fun D σ H ⟨R, ρ, fs, o, s, e, q⟩ => by
  obtain ⟨w, e1, e2⟩ := bindO e
  obtain ⟨w1, w2⟩ := w
  match w1, e2 with
  | [d1, d2, d3], e2 =>
    cases e2
    refine ⟨R, ρ, fs, _, _, s, e1, fun vs H1 fs1 fv tt s1 r => ?_⟩
    have el := r.len
    match vs, r, el with
    | [v1, v2, v3], r, _ =>
      refine ⟨v1, v2, v3, rfl, ?_⟩
      obtain ⟨fs2, fw, s2, r2, sub2⟩ := s1.put2 hit r
      obtain ⟨fs3, fz, s3, r3, sub3⟩ := s2.put2 (by simpa using hjt) r2
      obtain ⟨fs4, fy, s4, r4, sub4⟩ := s3.put2 (by simpa using hlt) r3
      have ez : fy = [] := by cases r4; rfl
      subst ez
      refine q _ H1 fs4 (tt.less fun a ha => sub2 a (sub3 a (sub4 a ha))) (fun k hk => ?_) s4
      rw [List.getElem?_set_ne (by intro z; subst z; exact hlo hk), List.getElem?_set_ne (by intro z; subst z; exact hjo hk), List.getElem?_set_ne (by intro z; subst z; exact hio hk)]
    | [], _, el => simp at el
    | [_], _, el => simp at el
    | [_, _], _, el => simp at el
    | _ :: _ :: _ :: _ :: _, _, el => simp at el
  | [], e2 => cases e2
  | [_], e2 => cases e2
  | [_, _], e2 => cases e2
  | _ :: _ :: _ :: _ :: _, e2 => cases e2
end

/-! ### a def by its body -/
def runF (b : Sf) (n m : Nat) : Fm := fun ds => if ds.length = n then (b (ds ++ List.replicate m .non)).bind fun o => match o with
    | .rt d ρ' => some (d, ρ'.take n)
    | .nx ρ' => some (.non, ρ'.take n)
    | _ => none
  else none
theorem Sl.cut {K : PySem.W.Frag} {mg : Str → Option Value} {H G : Hp} : ∀ {τ1 : List Ty} {m : Nat} {ρ : Rho} {σ : L2.St} {f : List Addr}, Sl K mg H G (τ1 ++ List.replicate m .no) ρ σ f → Sl K mg H G τ1 (ρ.take τ1.length) (σ.take τ1.length) f
  | [], 0, _, _, _, s => by cases s; exact .nil
  | [], m + 1, _, _, _, s => by
    rw [List.nil_append, List.replicate_succ] at s
    cases s with
    | no s =>
      have := Sl.cut (τ1 := []) (m := m) s
      simpa using this
    | cons h s => cases h
  | t :: τ1, m, _, _, _, s => by
    cases s with
    | no s => exact .no (Sl.cut s)
    | cons h s => exact .cons h (Sl.cut s)
theorem Sl.pad {K : PySem.W.Frag} {mg : Str → Option Value} {H G : Hp} : ∀ {τ1 : List Ty} {m : Nat} {ρ : Rho} {σ : L2.St} {f : List Addr}, Sl K mg H G τ1 ρ σ f → Sl K mg H G (τ1 ++ List.replicate m .no) (ρ ++ List.replicate m .non) (σ ++ List.replicate m none) f
  | _, 0, _, _, _, s => by simpa using s
  | _, m + 1, _, _, _, .nil => by
    have := Sl.pad (m := m) (.nil (K := K) (mg := mg) (H := H) (G := G))
    simp only [List.nil_append, List.replicate_succ] at this ⊢
    exact .no this
  | _, m + 1, _, _, _, .no s => .no (Sl.pad s)
  | _, m + 1, _, _, _, .cons h s => .cons h (Sl.pad s)
section
variable {P : Program} {w : World} {K : PySem.W.Frag} {mg : Str → Option Value} {base : Heap} {x qual : Str} {st : Stmt} {f : Addr} {fd : FuncData} {N ps : List Str} {k : Nat}
theorem Kp.tk {io : List Nat} {σ σ' : L2.St} (h : Kp io σ σ') {i : Nat} (hi : i ∈ io) : σ'[i]? = σ[i]? := h i hi
/-- the slots of a def's changed parameters -/
def ioOf (l : List Ty) : List Nat := (List.range l.length).filter fun i => match l[i]? with
  | some .sh => false
  | some .no => false
  | _ => true
theorem fn_ok {b : Sf} {τ' : List Ty} (Fu : Fun K x qual st f fd) (S : FnScope N ps (defScope st)) (sg : Sg) (γ : Gm) (m : Nat) (hn : sg.ps.length = ps.length := by rfl) (hm : sg.ps.length + m = N.length := by rfl)
    (hio : γ.io = ioOf (sg.ps.map Ty.io) := by rfl) (hret : γ.ret = sg.ret := by rfl) (hrty : γ.rty = sg.ps.map Ty.io ++ List.replicate m .no := by rfl) (hnx : leTb γ.rty τ' = true := by rfl) (hfall : sg.ret = .sh ∨ ∀ ρ ρ', b ρ ≠ some (.nx ρ'))
    (hbody : ∀ (cdv : Value) (A : Around) (outer : List PySem.Env) (s : Shared) (H : Hp) (E : XK), Room k (A.deeper (envOfC qual (defScope st) s.heap.objs.size f cdv)) →
      DSs (cxOf CX0 P w K mg base N qual (defScope st) f cdv A outer s H E).nox γ (defBody st) (sg.ps ++ List.replicate m .no) b τ') :
    FnD P w K mg base (k + 1) f fd ps sg (runF b sg.ps.length m) := by
  refine Fu.ok S (fun vs H Q E ⟨R, ds, fs, d, ds', s, _⟩ => ?_) (fun cdv A outer s H vs Q E hr ⟨R, ds, fs, d, ds', sr, eF, q⟩ => ?_)
  · have := s.sl.len
    simp at this
    omega
  · unfold runF at eF
    have hvl : vs.length = sg.ps.length := by
      have := sr.sl.len
      simp at this
      omega
    by_cases hl : ds.length = sg.ps.length
    · rw [if_pos hl] at eF
      obtain ⟨out, e1, e2⟩ := bindO eF
      refine ⟨_, hbody cdv A outer s H E hr, R, ds ++ List.replicate m .non, fs, out, ⟨?_, sr.nd, sr.al⟩, e1, ?_⟩
      · have := sr.sl.pad (m := m)
        unfold L2.start
        rw [show N.length - vs.length = m by omega]
        exact this
      · have st0 : L2.start N vs = vs.map some ++ List.replicate m none := by
          unfold L2.start
          rw [show N.length - vs.length = m by omega]
        have fin : ∀ {v : V} {σ' : L2.St} {H' : Hp} {fs' fv : List Addr} {ρ' : Rho} {dd : D}, Step H H' fs (fv ++ fs') → Kp γ.io (L2.start N vs) σ' → SR K mg (fv ++ R) γ.rty ρ' σ' H' fs' → Rp K mg H' (hide (fv ++ R ++ fs') H') sg.ret dd v fv → dd = d → ρ'.take sg.ps.length = ds' → Q v H' := fun {v σ' H' fs' fv ρ' dd} t kp s' r e3 e4 => by
          subst e3
          refine q v H' fs' fv t ⟨?_, s'.nd, s'.al⟩ r
          have sl := s'.sl
          rw [hrty] at sl
          have sc := Sl.cut sl
          rw [List.length_map, e4] at sc
          have hl' := s'.sl.len
          rw [hrty] at hl'
          simp at hl'
          refine sc.congr rfl (by simp; omega) fun i t et nt => ⟨rfl, ?_⟩
          have hi : i < sg.ps.length := by
            have := (List.getElem?_eq_some_iff.mp et).1
            simpa using this
          have hmem : i ∈ γ.io := by
            rw [hio]
            unfold ioOf
            refine List.mem_filter.mpr ⟨by simpa using hi, ?_⟩
            rw [et]
            have : t ≠ .sh := by
              rw [List.getElem?_map] at et
              cases h : sg.ps[i]? with
              | none => rw [h] at et; cases et
              | some u =>
                rw [h] at et
                simp at et
                subst et
                cases u <;> simp [Ty.io]
            cases t <;> simp_all
          rw [List.getElem?_take_of_lt hi, kp i hmem, st0, List.getElem?_append_left (by simpa [hvl] using hi)]
        cases out with
        | rt dd ρ' =>
          have e2' := Option.some.inj e2
          exact fun v σ' H' fs' fv t kp s' r => fin t kp s' (by rw [hret] at r; exact r) (congrArg Prod.fst e2') (congrArg Prod.snd e2')
        | nx ρ' =>
          have e2' := Option.some.inj e2
          rcases hfall with hf | hf
          · exact fun σ' H' fs' t kp s' => by
              obtain ⟨fs2, s2, sub⟩ := s'.leT (leTb_ok hnx)
              exact fin (fv := []) (t.less sub) kp s2 (by rw [hf]; exact .sh .non) (congrArg Prod.fst e2') (congrArg Prod.snd e2')
          · exact absurd e1 (hf _ _)
        | bk ρ' => cases e2
        | ct ρ' => cases e2
    · rw [if_neg hl] at eF; cases eF
/-- a mirror in the place of the run -/
theorem FnD.of {sg : Sg} {F G : Fm} (h : FnD P w K mg base k f fd ps sg F) (le : ∀ ds r, G ds = some r → F ds = some r) : FnD P w K mg base k f fd ps sg G := h.imp fun vs H Q E ⟨R, ds, fs, d, ds', s, e, q⟩ => ⟨R, ds, fs, d, ds', s, le _ _ e, q⟩
theorem FnD.ofN {sg : Sg} {F : Nat → Fm} {G : Fm} (h : ∀ n, FnD P w K mg base k f fd ps sg (F n)) (le : ∀ ds r, G ds = some r → ∃ n, F n ds = some r) : FnD P w K mg base k f fd ps sg G where
  len := fun vs H Q E ⟨R, ds, fs, d, ds', s, e, q⟩ => by
    obtain ⟨n, e⟩ := le _ _ e
    exact (h n).len vs H Q E ⟨R, ds, fs, d, ds', s, e, q⟩
  run := fun A outer s H args us vs Q E hr e0 hb r ⟨R, ds, fs, d, ds', sr, e, q⟩ => by
    obtain ⟨n, e⟩ := le _ _ e
    exact (h n).run A outer s H args us vs Q E hr e0 hb r ⟨R, ds, fs, d, ds', sr, e, q⟩
end
end TL

namespace TL
open PySem PySem.Spec PyProof.Rows L2

/-! ### == on trees -/
mutual
def py : D → PyData
  | .non => .none
  | .bl b => .bool b
  | .int i => .int i
  | .str s => .str s
  | .tup l => .tuple (pys l)
  | .lst l => .list (pys l)
  | _ => .none
def pys : List D → List PyData
  | [] => []
  | d :: r => py d :: pys r
end
mutual
/-- Python's == -/
def dq : D → D → Bool
  | .non, .non => true
  | .bl a, .bl b => a == b
  | .bl a, .int j => (if a then 1 else 0) == j
  | .int i, .bl b => i == (if b then 1 else 0)
  | .int i, .int j => i == j
  | .str x, .str y => x == y
  | .lst xs, .lst ys => dqs xs ys
  | .tup xs, .tup ys => dqs xs ys
  | _, _ => false
def dqs : List D → List D → Bool
  | [], [] => true
  | x :: xs, y :: ys => dq x y && dqs xs ys
  | _, _ => false
end
def sOk (s : Str) : Bool := PyData.strOk s
def pyOk : Nat → D → Bool
  | _, .non => true
  | _, .bl _ => true
  | _, .int _ => true
  | _, .str s => sOk s
  | n + 1, .tup l => l.all (pyOk n)
  | n + 1, .lst l => l.all (pyOk n)
  | _, _ => false
theorem pyOk_ok : ∀ (n : Nat) (d : D), pyOk n d = true → (py d).canLay0 = true ∧ (py d).depth ≤ n
  | n, .non, _ => by simp [py, PyData.canLay0, PyData.depth]
  | n, .bl b, _ => by simp [py, PyData.canLay0, PyData.depth]
  | n, .int i, _ => by simp [py, PyData.canLay0, PyData.depth]
  | n, .str s, h => by
    refine ⟨?_, by simp [py, PyData.depth]⟩
    have : sOk s = true := by cases n <;> simpa [pyOk] using h
    simpa [py, PyData.canLay0, sOk] using this
  | n + 1, .tup l, h => by
    have hs : ∀ (l : List D), l.all (pyOk n) = true → PyData.canLayAll0 (pys l) = true ∧ PyData.depthAll (pys l) ≤ n := by
      intro l
      induction l with
      | nil => intro _; simp [pys, PyData.canLayAll0, PyData.depthAll]
      | cons d r ih =>
        intro h
        simp only [List.all_cons, Bool.and_eq_true] at h
        have h1 := pyOk_ok n d h.1
        have h2 := ih h.2
        simp only [pys, PyData.canLayAll0, PyData.depthAll, h1.1, h2.1, Bool.and_self, true_and]
        omega
    have := hs l (by simpa [pyOk] using h)
    simp only [py, PyData.canLay0, PyData.depth, this.1, true_and]
    omega
  | n + 1, .lst l, h => by
    have hs : ∀ (l : List D), l.all (pyOk n) = true → PyData.canLayAll0 (pys l) = true ∧ PyData.depthAll (pys l) ≤ n := by
      intro l
      induction l with
      | nil => intro _; simp [pys, PyData.canLayAll0, PyData.depthAll]
      | cons d r ih =>
        intro h
        simp only [List.all_cons, Bool.and_eq_true] at h
        have h1 := pyOk_ok n d h.1
        have h2 := ih h.2
        simp only [pys, PyData.canLayAll0, PyData.depthAll, h1.1, h2.1, Bool.and_self, true_and]
        omega
    have := hs l (by simpa [pyOk] using h)
    simp only [py, PyData.canLay0, PyData.depth, this.1, true_and]
    omega
  | 0, .tup l, h => by simp [pyOk] at h
  | 0, .lst l, h => by simp [pyOk] at h
  | 0, .dct l, h => by simp [pyOk] at h
  | n + 1, .dct l, h => by simp [pyOk] at h
  | 0, .set l, h => by simp [pyOk] at h
  | n + 1, .set l, h => by simp [pyOk] at h
  | 0, .obj c l, h => by simp [pyOk] at h
  | n + 1, .obj c l, h => by simp [pyOk] at h
  | 0, .scr l, h => by simp [pyOk] at h
  | n + 1, .scr l, h => by simp [pyOk] at h
/-- no dicts, sets, objects within -/
def plainD : Nat → D → Bool := pyOk
theorem eqv_dq : ∀ (n : Nat) (a b : D), pyOk n a = true → pyOk n b = true → PyData.eqv (py a) (py b) = dq a b := by
  have hl : ∀ (n : Nat), (∀ a b : D, pyOk n a = true → pyOk n b = true → PyData.eqv (py a) (py b) = dq a b) → ∀ l m : List D, l.all (pyOk n) = true → m.all (pyOk n) = true → PyData.eqvAll (pys l) (pys m) = dqs l m := by
    intro n ih l
    induction l with
    | nil => intro m _ _; cases m <;> simp [pys, PyData.eqvAll, dqs]
    | cons a l ihl =>
      intro m h1 h2
      cases m with
      | nil => simp [pys, PyData.eqvAll, dqs]
      | cons b m =>
        simp only [List.all_cons, Bool.and_eq_true] at h1 h2
        simp only [pys, PyData.eqvAll, dqs, ih a b h1.1 h2.1, ihl m h1.2 h2.2]
  intro n
  induction n with
  | zero =>
    intro a b ha hb
    cases a <;> cases b <;> first | (simp [pyOk] at ha; done) | (simp [pyOk] at hb; done) | simp [py, PyData.eqv, dq]
  | succ n ih =>
    intro a b ha hb
    cases a <;> cases b <;> first | (simp [pyOk] at ha; done) | (simp [pyOk] at hb; done) | (simp only [py, PyData.eqv, dq]; try rfl) | skip
    all_goals first | rfl | (exact hl n ih _ _ (by simpa [pyOk] using ha) (by simpa [pyOk] using hb)) | skip
def dEq (a b : D) : Option D := if pyOk 40 a && pyOk 40 b then some (.bl (dq a b)) else none
def dNe (a b : D) : Option D := if pyOk 40 a && pyOk 40 b then some (.bl (!dq a b)) else none
section
variable {K : PySem.W.Frag} {mg : Str → Option Value} {S : List Addr} {H G : Hp}
theorem dp_of (le : Le G H) : ∀ (n : Nat) {d : D} {v : V}, pyOk n d = true → Rf K mg G d v → Dp K H v (py d) := by
  have hl : ∀ n, (∀ {d : D} {v : V}, pyOk n d = true → Rf K mg G d v → Dp K H v (py d)) → ∀ {l : List D} {vs : List V}, l.all (pyOk n) = true → Rfs K mg G l vs → DpAll K H vs (pys l) := by
    intro n ih l
    induction l with
    | nil => intro vs _ r; cases r; exact .nil
    | cons a l ihl =>
      intro vs h r
      simp only [List.all_cons, Bool.and_eq_true] at h
      cases r with
      | cons r rs => exact .cons (ih h.1 r) (ihl h.2 rs)
  intro n
  induction n with
  | zero =>
    intro d v h r
    cases r with
    | non => exact .non
    | bl b => exact .bl b
    | int i => exact .int i
    | str s => exact .str s
    | _ => simp [pyOk] at h
  | succ n ih =>
    intro d v h r
    cases r with
    | non => exact .non
    | bl b => exact .bl b
    | int i => exact .int i
    | str s => exact .str s
    | tup hT r => exact .tup (le.seqT hT) (hl n ih (by simpa [pyOk] using h) r)
    | lst hL r => exact .lst (.of (le _ _ hL)) (hl n ih (by simpa [pyOk] using h) r)
    | _ => simp [pyOk] at h
theorem Rv.dp {n : Nat} {d : D} {v : V} (r : Rv K mg S H d v) (h : pyOk n d = true) : Dp K H v (py d) := by
  have w := r.whole
  have eq : hide [] H = H := by funext a; simp [hide]
  rw [eq] at w
  exact dp_of (Le.refl H) n h w
theorem shaped_of {d : D} (h : pyOk 40 d = true) : SeqAt.shaped (py d) = true := by
  have := pyOk_ok 40 d h
  unfold SeqAt.shaped
  rw [this.1, Bool.true_and]
  exact decide_eq_true (by omega)
end
theorem Room.u64 {k : Nat} {A : Around} (r : Room k A) : A.units + 65 < cLine := by
  have := r.un
  omega
section
variable {X : Cx}
theorem od_eq : OpD X (rEqD X.K) dEq := fun S H d1 d2 d v1 v2 Q al r1 r2 e q => by
  obtain ⟨h, e⟩ := ifSome' e
  subst e
  rw [Bool.and_eq_true] at h
  exact ⟨_, _, r1.dp h.1, r2.dp h.2, shaped_of h.1, shaped_of h.2, by rw [eqv_dq 40 _ _ h.1 h.2]; exact q _ H (Grow.refl H) (.bl _)⟩
theorem od_ne : OpD X (rNeD X.K) dNe := fun S H d1 d2 d v1 v2 Q al r1 r2 e q => by
  obtain ⟨h, e⟩ := ifSome' e
  subst e
  rw [Bool.and_eq_true] at h
  exact ⟨_, _, r1.dp h.1, r2.dp h.2, shaped_of h.1, shaped_of h.2, by rw [eqv_dq 40 _ _ h.1 h.2]; exact q _ H (Grow.refl H) (.bl _)⟩

/-! ### arithmetic -/
def ii (C : Int → Int → Bool) (g : Int → Int → D) : D → D → Option D
  | .int i, .int j => if C i j then some (g i j) else none
  | _, _ => none
theorem od_ii {C : Int → Int → Bool} {P : Int → Int → Prop} {g : Int → Int → D} {gv : Int → Int → V} (hC : ∀ i j, C i j = true → P i j) (hg : ∀ i j K mg G, Rf K mg G (g i j) (gv i j)) : OpD X (rI P gv) (ii C g) := fun S H d1 d2 d v1 v2 Q al r1 r2 e q => by
  cases d1 <;> cases d2 <;> first | (cases e; done) | skip
  obtain ⟨h, e⟩ := ifSome' e
  subst e
  exact ⟨_, _, r1.int_inv, r2.int_inv, hC _ _ h, q _ H (Grow.refl H) (hg _ _ _ _ _)⟩
def ii0 (g : Int → Int → D) : D → D → Option D
  | .int i, .int j => some (g i j)
  | _, _ => none
theorem od_ii0 {g : Int → Int → D} {gv : Int → Int → V} (hg : ∀ i j K mg G, Rf K mg G (g i j) (gv i j)) : OpD X (rI0 gv) (ii0 g) := fun S H d1 d2 d v1 v2 Q al r1 r2 e q => by
  cases d1 <;> cases d2 <;> first | (cases e; done) | skip
  cases e
  exact ⟨_, _, r1.int_inv, r2.int_inv, q _ H (Grow.refl H) (hg _ _ _ _ _)⟩
def sm (i : Int) : Bool := Nat.ble i.natAbs 999999999999999999999999999999
theorem sm_lt {i : Int} (h : sm i = true) : i.natAbs < 2 ^ 100 := by
  have h1 : i.natAbs ≤ 999999999999999999999999999999 := Nat.le_of_ble_eq_true h
  have : (2 : Nat) ^ 100 = 1267650600228229401496703205376 := by decide
  rw [this]
  omega
def dSub := ii0 fun i j => .int (i - j)
def dMulI := ii (fun i j => sm i && sm j) fun i j => .int (i * j)
def dDiv := ii (fun _ j => decide (0 < j) && sm j) fun i j => .int (i / j)
def dMod := ii (fun _ j => decide (0 < j)) fun i j => .int (i % j)
def dPow := ii (fun i j => sm i && decide (0 ≤ j) && decide (j ≤ 1000) && decide (i.natAbs < 18446744073709551616)) fun i j => .int (i ^ j.toNat)
def dLt := ii0 fun i j => .bl (decide (i < j))
def dLe := ii0 fun i j => .bl (decide (i ≤ j))
def dGt := ii0 fun i j => .bl (decide (j < i))
def dGe := ii0 fun i j => .bl (decide (j ≤ i))
theorem od_sub : OpD X (rI0 fun i j => .int (i - j)) dSub := od_ii0 fun i j _ _ _ => .int _
theorem od_lt : OpD X (rI0 fun i j => .bl (decide (i < j))) dLt := od_ii0 fun i j _ _ _ => .bl _
theorem od_le : OpD X (rI0 fun i j => .bl (decide (i ≤ j))) dLe := od_ii0 fun i j _ _ _ => .bl _
theorem od_gt : OpD X (rI0 fun i j => .bl (decide (j < i))) dGt := od_ii0 fun i j _ _ _ => .bl _
theorem od_ge : OpD X (rI0 fun i j => .bl (decide (j ≤ i))) dGe := od_ii0 fun i j _ _ _ => .bl _
theorem od_mulI : OpD X (rI CMulW fun i j => .int (i * j)) dMulI := od_ii (fun i j h => by
  rw [Bool.and_eq_true] at h
  exact wide_mul (sm_lt h.1) (sm_lt h.2) (by decide) (by decide) (by decide)) fun i j _ _ _ => .int _
theorem od_div : OpD X (rI CDivW fun i j => .int (i / j)) dDiv := od_ii (fun i j h => by
  rw [Bool.and_eq_true] at h
  exact wide_div (of_decide_eq_true h.1) (sm_lt h.2) (by decide) (by decide)) fun i j _ _ _ => .int _
theorem od_mod : OpD X (rI (fun _ j => 0 < j) fun i j => .int (i % j)) dMod := od_ii (fun i j h => of_decide_eq_true h) fun i j _ _ _ => .int _
theorem od_pow : OpD X (rI CPow fun i j => .int (i ^ j.toNat)) dPow := od_ii (fun i j h => by
  simp only [Bool.and_eq_true, decide_eq_true_eq] at h
  exact ⟨h.1.1.2, by omega, h.2⟩) fun i j _ _ _ => .int _
/-! + -/
def dAdd : D → D → Option D
  | .int i, .int j => some (.int (i + j))
  | .str s, .str t => if okLen (s.length + t.length) then some (.str (s ++ t)) else none
  | .tup l, .tup m => if okLen (l.length + m.length) then some (.tup (l ++ m)) else none
  | .lst l, .lst m => if okLen (l.length + m.length) then some (.lst (l ++ m)) else none
  | _, _ => none
theorem al_not {S : List Addr} {H : Hp} {p : Addr} (al : ∀ a ∈ S, ∃ o, H a = some o ∧ Own o) (hp : H p = none) : p ∉ S := fun z => by
  obtain ⟨o, e, _⟩ := al p z
  rw [hp] at e; cases e
theorem new_tup {K : PySem.W.Frag} {mg : Str → Option Value} {S : List Addr} {H : Hp} {p : Addr} {vs : List V} {ds : List D} (al : ∀ a ∈ S, ∃ o, H a = some o ∧ Own o) (hp : H p = none) (r : Rfs K mg (hide S H) ds vs) : Rf K mg (hide S (upd H p (.tup vs))) (.tup ds) (.ref p) :=
  .tup (.of (hide_some.mpr ⟨al_not al hp, upd_same⟩)) (r.mono (hide_grow _ (Grow.upd hp)))
theorem new_lst {K : PySem.W.Frag} {mg : Str → Option Value} {S : List Addr} {H : Hp} {p : Addr} {vs : List V} {ds : List D} (al : ∀ a ∈ S, ∃ o, H a = some o ∧ Own o) (hp : H p = none) (r : Rfs K mg (hide S H) ds vs) : Rf K mg (hide S (upd H p (.lst vs))) (.lst ds) (.ref p) :=
  .lst (hide_some.mpr ⟨al_not al hp, upd_same⟩) (r.mono (hide_grow _ (Grow.upd hp)))
abbrev rAddD (K : PySem.W.Frag) : R2 := fun x y H Q => (∃ i j, x = .int i ∧ y = .int j ∧ Q (.int (i + j)) H) ∨ (∃ i j, x = .str i ∧ y = .str j ∧ i.length + j.length ≤ sizeLine ∧ Q (.str (i ++ j)) H) ∨ rCatA K x y H Q ∨ rCat x y H Q
theorem op_addD : OpR X (binaryOp .Add) (rAddD X.K) := OpR.or op_add (OpR.or op_add_str (OpR.or op_catA op_cat))
theorem od_add : OpD X (rAddD X.K) dAdd := fun S H d1 d2 d v1 v2 Q al r1 r2 e q => by
  cases d1 <;> cases d2 <;> first | (cases e; done) | skip
  · cases e
    exact .inl ⟨_, _, r1.int_inv, r2.int_inv, q _ H (Grow.refl H) (.int _)⟩
  · obtain ⟨h, e⟩ := ifSome' e
    subst e
    exact .inr (.inl ⟨_, _, r1.str_inv, r2.str_inv, okLen_le h, q _ H (Grow.refl H) (.str _)⟩)
  · obtain ⟨h, e⟩ := ifSome' e
    subst e
    obtain ⟨a, vs, rfl, h1, h1', q1⟩ := r1.tup_inv
    obtain ⟨b, ws, rfl, h2, h2', q2⟩ := r2.tup_inv
    refine .inr (.inr (.inl ⟨a, b, vs, ws, rfl, rfl, h1, h2, by rw [← q1.length, ← q2.length]; exact okLen_le h, fun z => ?_, fun z1 z2 => ?_, fun z1 z2 p hp => ?_⟩))
    · subst z
      cases q1
      exact q _ H (Grow.refl H) (.tup h2' q2)
    · subst z2
      cases q2
      rw [List.append_nil] at q
      exact q _ H (Grow.refl H) (.tup h1' q1)
    · exact q _ _ (Grow.upd hp) (new_tup al hp (q1.append q2))
  · obtain ⟨h, e⟩ := ifSome' e
    subst e
    obtain ⟨a, vs, rfl, h1, q1⟩ := r1.lst_inv
    obtain ⟨b, ws, rfl, h2, q2⟩ := r2.lst_inv
    exact .inr (.inr (.inr ⟨a, b, vs, ws, rfl, rfl, h1, h2, by rw [← q1.length, ← q2.length]; exact okLen_le h, fun p hp => q _ _ (Grow.upd hp) (new_lst al hp (q1.append q2))⟩))
def dAddL : D → D → Option (List D)
  | .lst l, .lst m => if okLen (l.length + m.length) then some (l ++ m) else none
  | _, _ => none
theorem oo_add : OpO X rCat dAddL := fun S H d1 d2 d v1 v2 Q al r1 r2 e q => by
  cases d1 <;> cases d2 <;> first | (cases e; done) | skip
  obtain ⟨h, e⟩ := ifSome' e
  subst e
  obtain ⟨a, vs, rfl, h1, q1⟩ := r1.lst_inv
  obtain ⟨b, ws, rfl, h2, q2⟩ := r2.lst_inv
  exact ⟨a, b, vs, ws, rfl, rfl, h1, h2, by rw [← q1.length, ← q2.length]; exact okLen_le h, fun p hp => q p _ hp (q1.append q2)⟩
/-! * -/
def repL (l : List D) (k : Nat) : List D := (List.replicate k l).flatten
def dMul : D → D → Option D
  | .int i, .int j => if sm i && sm j then some (.int (i * j)) else none
  | .lst l, .int k => if small62 k && okLen (l.length * k.toNat) then some (.lst (repL l k.toNat)) else none
  | .tup l, .int k => if !l.isEmpty && decide (2 ≤ k) && decide (k ≤ 1000) && decide (l.length ≤ 1000) then some (.tup (repL l k.toNat)) else none
  | _, _ => none
abbrev rMulD (K : PySem.W.Frag) : R2 := fun x y H Q => (rI CMulW fun i j => .int (i * j)) x y H Q ∨ rRep x y H Q ∨ rRepT K x y H Q
theorem op_mulD : OpR X (binaryOp .Mult) (rMulD X.K) := OpR.or op_mulW (OpR.or op_rep op_repT)
theorem od_mul : OpD X (rMulD X.K) dMul := fun S H d1 d2 d v1 v2 Q al r1 r2 e q => by
  cases d1 <;> cases d2 <;> first | (cases e; done) | skip
  · exact .inl (od_mulI S H _ _ _ _ _ Q al r1 r2 e q)
  · obtain ⟨h, e⟩ := ifSome' e
    subst e
    simp only [Bool.and_eq_true, decide_eq_true_eq, Bool.not_eq_true'] at h
    obtain ⟨a, vs, rfl, h1, h1', q1⟩ := r1.tup_inv
    refine .inr (.inr ⟨a, _, vs, rfl, r2.int_inv, h1, fun z => ?_, h.1.1.2, h.1.2, by rw [← q1.length]; exact h.2, fun p hp => q _ _ (Grow.upd hp) (new_tup al hp (q1.rep _))⟩)
    subst z
    cases q1
    simp at h
  · obtain ⟨h, e⟩ := ifSome' e
    subst e
    rw [Bool.and_eq_true] at h
    obtain ⟨a, vs, rfl, h1, q1⟩ := r1.lst_inv
    have h3 := small62_of h.1
    exact .inr (.inl ⟨a, _, vs, rfl, r2.int_inv, h1, by omega, by omega, by rw [← q1.length]; exact okLen_le h.2, fun p hp => q _ _ (Grow.upd hp) (new_lst al hp (q1.rep _))⟩)
def dMulL : D → D → Option (List D)
  | .lst l, .int k => if small62 k && okLen (l.length * k.toNat) then some (repL l k.toNat) else none
  | _, _ => none
theorem oo_mul : OpO X rRep dMulL := fun S H d1 d2 d v1 v2 Q al r1 r2 e q => by
  cases d1 <;> cases d2 <;> first | (cases e; done) | skip
  obtain ⟨h, e⟩ := ifSome' e
  subst e
  rw [Bool.and_eq_true] at h
  obtain ⟨a, vs, rfl, h1, q1⟩ := r1.lst_inv
  have h3 := small62_of h.1
  exact ⟨a, _, vs, rfl, r2.int_inv, h1, by omega, by omega, by rw [← q1.length]; exact okLen_le h.2, fun p hp => q p _ hp (q1.rep _)⟩
/-! unary minus -/
def dNeg : D → Option D
  | .int i => some (.int (-i))
  | _ => none
theorem ud_neg : UnD X (rU fun i => .int (-i)) dNeg := fun S H d1 d v1 Q al r1 e q => by
  cases d1 <;> first | (cases e; done) | skip
  cases e
  exact ⟨_, r1.int_inv, q _ H (Grow.refl H) (.int _)⟩
/-! is None, is True -/
def isNonD : D → Bool
  | .non => true
  | _ => false
def dIs : D → D → Option D
  | a, .non => some (.bl (isNonD a))
  | .bl a, .bl b => some (.bl (decide (a = b)))
  | _, _ => none
def dIsNot : D → D → Option D
  | a, .non => some (.bl (!isNonD a))
  | .bl a, .bl b => some (.bl (!decide (a = b)))
  | _, _ => none
abbrev rIsD : R2 := fun x y H Q => (y = .non ∧ Q (.bl (decide (x = .non))) H) ∨ rIsB x y H Q
abbrev rIsNotD : R2 := fun x y H Q => (y = .non ∧ Q (.bl (!decide (x = .non))) H) ∨ rNotB x y H Q
theorem op_isD : OpR X (compareOp .Is) rIsD := OpR.or op_isN op_isBl
theorem op_isNotD : OpR X (compareOp .IsNot) rIsNotD := OpR.or op_notN op_notBl
theorem Rv.isNon {K : PySem.W.Frag} {mg : Str → Option Value} {S : List Addr} {H : Hp} {d : D} {v : V} (r : Rv K mg S H d v) : decide (v = .non) = isNonD d := by
  cases r with
  | rf r => cases r <;> rfl
  | lst _ _ => rfl
  | dK _ _ _ => rfl
  | dT _ _ _ => rfl
theorem od_is : OpD X rIsD dIs := fun S H d1 d2 d v1 v2 Q al r1 r2 e q => by
  cases d2 with
  | non => 
    have e' : some (D.bl (isNonD d1)) = some d := by
      cases d1 <;> exact e
    cases e'
    exact .inl ⟨r2.non_inv, by rw [r1.isNon]; exact q _ H (Grow.refl H) (.bl _)⟩
  | bl b =>
    cases d1 <;> first | (cases e; done) | skip
    cases e
    exact .inr ⟨_, _, r1.bl_inv, r2.bl_inv, q _ H (Grow.refl H) (.bl _)⟩
  | _ => cases d1 <;> cases e
theorem od_isNot : OpD X rIsNotD dIsNot := fun S H d1 d2 d v1 v2 Q al r1 r2 e q => by
  cases d2 with
  | non => 
    have e' : some (D.bl (!isNonD d1)) = some d := by
      cases d1 <;> exact e
    cases e'
    exact .inl ⟨r2.non_inv, by rw [r1.isNon]; exact q _ H (Grow.refl H) (.bl _)⟩
  | bl b =>
    cases d1 <;> first | (cases e; done) | skip
    cases e
    exact .inr ⟨_, _, r1.bl_inv, r2.bl_inv, q _ H (Grow.refl H) (.bl _)⟩
  | _ => cases d1 <;> cases e
/-! subscripts -/
theorem ifSomeO {α : Type} {c : Bool} {x : Option α} {r : α} (e : (if c then x else none) = some r) : c = true ∧ x = some r := by
  cases c with
  | true => exact ⟨rfl, by simpa using e⟩
  | false => cases e
def atD (l : List D) (i : Int) : Option D := atI l i
theorem Rfs.atI {K : PySem.W.Frag} {mg : Str → Option Value} {G : Hp} {ds : List D} {vs : List V} {i : Int} {d : D} (r : Rfs K mg G ds vs) (e : L2.atI ds i = some d) : ∃ v, L2.atI vs i = some v ∧ Rf K mg G d v := by
  unfold L2.atI at e ⊢
  rw [← r.length]
  obtain ⟨j, e1, e2⟩ := bindO e
  rw [e1]
  exact r.get e2
def dIx : D → D → Option D
  | .lst l, .int i => atI l i
  | .tup l, .int i => atI l i
  | .str z, .int i => if okLen z.length then (atI z.cps.toList i).map fun c => .str ⟨#[c]⟩ else none
  | _, _ => none
theorem od_ix : OpD X (rIx X.K) dIx := fun S H d1 d2 d v1 v2 Q al r1 r2 e q => by
  cases d1 <;> cases d2 <;> first | (cases e; done) | skip
  · rename_i z i
    obtain ⟨h, e⟩ := ifSomeO (show (if okLen z.length then (atI z.cps.toList i).map fun c => D.str ⟨#[c]⟩ else none) = some d from e)
    cases hc : atI z.cps.toList i with
    | none => rw [hc] at e; cases e
    | some c =>
      rw [hc] at e
      cases e
      exact .inr (.inr ⟨z, i, c, r1.str_inv, r2.int_inv, okLen_le h, hc, q _ H (Grow.refl H) (.str _)⟩)
  · obtain ⟨a, vs, rfl, h1, h1', q1⟩ := r1.tup_inv
    obtain ⟨v, ev, rv⟩ := q1.atI (show L2.atI _ _ = some d from e)
    exact .inr (.inl ⟨a, vs, _, v, rfl, r2.int_inv, h1, ev, q v H (Grow.refl H) rv⟩)
  · obtain ⟨a, vs, rfl, h1, q1⟩ := r1.lst_inv
    obtain ⟨v, ev, rv⟩ := q1.atI (show L2.atI _ _ = some d from e)
    exact .inl ⟨a, vs, _, v, rfl, r2.int_inv, .of h1, ev, q v H (Grow.refl H) rv⟩
/-! slices -/
def cutD (l : List D) (lo hi : Option Int) : List D := (l.drop (HT.sIx l.length 0 lo)).take (HT.sIx l.length l.length hi - HT.sIx l.length 0 lo)
theorem Rfs.cut {K : PySem.W.Frag} {mg : Str → Option Value} {G : Hp} {ds : List D} {vs : List V} (r : Rfs K mg G ds vs) (lo hi : Option Int) : Rfs K mg G (cutD ds lo hi) (cutV vs lo hi) := by
  unfold cutD cutV
  rw [← r.length]
  exact (r.drop _).take _
def dSl : D → Option Int → Option Int → Option D
  | .tup l, lo, hi => some (.tup (cutD l lo hi))
  | .lst l, lo, hi => some (.lst (cutD l lo hi))
  | _, _, _ => none
abbrev rSlD (K : PySem.W.Frag) : V → Option Int → Option Int → Hp → VK → Prop := fun x lo hi H Q => rSlA K x lo hi H Q ∨ rSlL K x lo hi H Q
theorem sl_D : SlR X (rSlD X.K) := SlR.or sl_tupA sl_list
theorem sd_sl : SlD X (rSlD X.K) dSl := fun S H d1 d lo hi v1 Q al r1 e q => by
  cases d1 <;> first | (cases e; done) | skip
  · cases e
    obtain ⟨a, vs, rfl, h1, h1', q1⟩ := r1.tup_inv
    refine .inl ⟨a, vs, rfl, h1, fun z => ?_, fun z p hp => q _ _ (Grow.upd hp) (new_tup al hp (q1.cut lo hi))⟩
    have ec : ∀ {ds : List D}, ds.length = vs.length → cutD ds lo hi = ds := fun {ds} hl => by
      unfold cutD
      rw [hl, z.1, z.2]
      simp [← hl]
    rw [ec q1.length] at q
    exact q _ H (Grow.refl H) (.tup h1' q1)
  · cases e
    obtain ⟨a, vs, rfl, h1, q1⟩ := r1.lst_inv
    exact .inr ⟨a, vs, rfl, .of h1, fun p hp => q _ _ (Grow.upd hp) (new_lst al hp (q1.cut lo hi))⟩
def dSlL : D → Option Int → Option Int → Option (List D)
  | .lst l, lo, hi => some (cutD l lo hi)
  | _, _, _ => none
theorem so_sl : SlO X (rSlL X.K) dSlL := fun S H d1 d lo hi v1 Q al r1 e q => by
  cases d1 <;> first | (cases e; done) | skip
  cases e
  obtain ⟨a, vs, rfl, h1, q1⟩ := r1.lst_inv
  exact ⟨a, vs, rfl, .of h1, fun p hp => q p _ hp (q1.cut lo hi)⟩
/-! ### built-ins -/
theorem Rvs.one {K : PySem.W.Frag} {mg : Str → Option Value} {S : List Addr} {H : Hp} {d : D} {vs : List V} (r : Rvs K mg S H [d] vs) : ∃ v, vs = [v] ∧ Rv K mg S H d v := by
  cases r with
  | cons r rs => cases rs; exact ⟨_, rfl, r⟩
theorem Rvs.two {K : PySem.W.Frag} {mg : Str → Option Value} {S : List Addr} {H : Hp} {d e : D} {vs : List V} (r : Rvs K mg S H [d, e] vs) : ∃ v w, vs = [v, w] ∧ Rv K mg S H d v ∧ Rv K mg S H e w := by
  cases r with
  | cons r rs =>
    cases rs with
    | cons r2 rs => cases rs; exact ⟨_, _, rfl, r, r2⟩
/-- a function of one argument, on argument lists -/
def f1 (g : D → Option D) : List D → Option D
  | [d] => g d
  | _ => none
def f1L (g : D → Option (List D)) : List D → Option (List D)
  | [d] => g d
  | _ => none
theorem ca1 {r : List V → Hp → VK → Prop} {g : D → Option D} (h : ∀ (S : List Addr) (H : Hp) (d1 d : D) (v1 : V) (Q : VK), (∀ a ∈ S, ∃ o, H a = some o ∧ Own o) → Rv X.K X.mg S H d1 v1 → g d1 = some d → (∀ v H', Grow H H' → Rf X.K X.mg (hide S H') d v → Q v H') → r [v1] H Q) : CaD X r (f1 g) := fun S H ds d vs Q al r1 e q => by
  match ds, r1, e with
  | [d1], r1, e =>
    obtain ⟨v, rfl, r2⟩ := r1.one
    exact h S H d1 d v Q al r2 e q
  | [], _, e => cases e
  | _ :: _ :: _, _, e => cases e
theorem co1 {r : List V → Hp → VK → Prop} {g : D → Option (List D)} (h : ∀ (S : List Addr) (H : Hp) (d1 : D) (d : List D) (v1 : V) (Q : VK), (∀ a ∈ S, ∃ o, H a = some o ∧ Own o) → Rv X.K X.mg S H d1 v1 → g d1 = some d → (∀ p H1 vs, Grow H H1 → H1 p = none → Rfs X.K X.mg (hide S H1) d vs → Q (.ref p) (upd H1 p (.lst vs))) → r [v1] H Q) : CaO X r (f1L g) := fun S H ds d vs Q al r1 e q => by
  match ds, r1, e with
  | [d1], r1, e =>
    obtain ⟨v, rfl, r2⟩ := r1.one
    exact h S H d1 d v Q al r2 e q
  | [], _, e => cases e
  | _ :: _ :: _, _, e => cases e
def lenD : D → Option D
  | .str s => if okLen s.length then some (.int s.length) else none
  | .tup l => some (.int l.length)
  | .lst l => some (.int l.length)
  | _ => none
abbrev rLen (K : PySem.W.Frag) : List V → Hp → VK → Prop := fun xs H Q => ∃ x n, xs = [x] ∧ LenV K x H n ∧ Q (.int n) H
theorem ca_len : CaD X (rLen X.K) (f1 lenD) := ca1 fun S H d1 d v1 Q al r1 e q => by
  cases d1 <;> first | (cases e; done) | skip
  · obtain ⟨h, e⟩ := ifSome' e
    subst e
    rw [r1.str_inv]
    exact ⟨_, _, rfl, ⟨okLen_le h, rfl⟩, q _ H (Grow.refl H) (.int _)⟩
  · cases e
    obtain ⟨a, vs, rfl, h1, h1', q1⟩ := r1.tup_inv
    refine ⟨_, _, rfl, .inr ⟨vs, h1, rfl⟩, ?_⟩
    rw [← q1.length]
    exact q _ H (Grow.refl H) (.int _)
  · cases e
    obtain ⟨a, vs, rfl, h1, q1⟩ := r1.lst_inv
    refine ⟨_, _, rfl, .inl ⟨vs, .of h1, rfl⟩, ?_⟩
    rw [← q1.length]
    exact q _ H (Grow.refl H) (.int _)
def absD : D → Option D
  | .int i => some (.int (if i < 0 then -i else i))
  | _ => none
theorem ca_abs : CaD X (fun xs H Q => ∃ i, xs = [.int i] ∧ Q (.int (if i < 0 then -i else i)) H) (f1 absD) := ca1 fun S H d1 d v1 Q al r1 e q => by
  cases d1 <;> first | (cases e; done) | skip
  cases e
  exact ⟨_, by rw [r1.int_inv], q _ H (Grow.refl H) (.int _)⟩
def intD : D → Option D
  | .int i => some (.int i)
  | .bl k => some (.int (if k then 1 else 0))
  | _ => none
theorem ca_int : CaD X (fun xs H Q => (∃ i, xs = [.int i] ∧ Q (.int i) H) ∨ ∃ k, xs = [.bl k] ∧ Q (.int (if k then 1 else 0)) H) (f1 intD) := ca1 fun S H d1 d v1 Q al r1 e q => by
  cases d1 <;> first | (cases e; done) | skip
  · cases e
    exact .inr ⟨_, by rw [r1.bl_inv], q _ H (Grow.refl H) (.int _)⟩
  · cases e
    exact .inl ⟨_, by rw [r1.int_inv], q _ H (Grow.refl H) (.int _)⟩
def f2 (g : D → D → Option D) : List D → Option D
  | [a, b] => g a b
  | _ => none
def max2D : D → D → Option D
  | .int i, .int j => some (.int (if j > i then j else i))
  | _, _ => none
def min2D : D → D → Option D
  | .int i, .int j => some (.int (if j < i then j else i))
  | _, _ => none
theorem ca2 {r : List V → Hp → VK → Prop} {g : D → D → Option D} (h : ∀ (S : List Addr) (H : Hp) (d1 d2 d : D) (v1 v2 : V) (Q : VK), (∀ a ∈ S, ∃ o, H a = some o ∧ Own o) → Rv X.K X.mg S H d1 v1 → Rv X.K X.mg S H d2 v2 → g d1 d2 = some d → (∀ v H', Grow H H' → Rf X.K X.mg (hide S H') d v → Q v H') → r [v1, v2] H Q) : CaD X r (f2 g) := fun S H ds d vs Q al r1 e q => by
  match ds, r1, e with
  | [d1, d2], r1, e =>
    obtain ⟨v, w, rfl, r2, r3⟩ := r1.two
    exact h S H d1 d2 d v w Q al r2 r3 e q
  | [], _, e => cases e
  | [_], _, e => cases e
  | _ :: _ :: _ :: _, _, e => cases e
theorem ca_max2 : CaD X (fun xs H Q => ∃ i j, xs = [.int i, .int j] ∧ Q (.int (if j > i then j else i)) H) (f2 max2D) := ca2 fun S H d1 d2 d v1 v2 Q al r1 r2 e q => by
  cases d1 <;> cases d2 <;> first | (cases e; done) | skip
  cases e
  rw [r1.int_inv, r2.int_inv]
  exact ⟨_, _, rfl, q _ H (Grow.refl H) (.int _)⟩
theorem ca_min2 : CaD X (fun xs H Q => ∃ i j, xs = [.int i, .int j] ∧ Q (.int (if j < i then j else i)) H) (f2 min2D) := ca2 fun S H d1 d2 d v1 v2 Q al r1 r2 e q => by
  cases d1 <;> cases d2 <;> first | (cases e; done) | skip
  cases e
  rw [r1.int_inv, r2.int_inv]
  exact ⟨_, _, rfl, q _ H (Grow.refl H) (.int _)⟩
/-- a list of ints, of bools -/
def getInts : List D → Option (List Int)
  | [] => some []
  | .int i :: r => (getInts r).map (i :: ·)
  | _ :: _ => none
theorem getInts_map : ∀ {l : List D} {ns : List Int}, getInts l = some ns → l = ns.map D.int
  | [], _, e => by cases e; rfl
  | .int i :: r, _, e => by
    unfold getInts at e
    cases h : getInts r with
    | none => rw [h] at e; cases e
    | some ns => rw [h] at e; cases e; rw [getInts_map h]; rfl
  | .non :: _, _, e => by cases e
  | .bl _ :: _, _, e => by cases e
  | .str _ :: _, _, e => by cases e
  | .tup _ :: _, _, e => by cases e
  | .lst _ :: _, _, e => by cases e
  | .dct _ :: _, _, e => by cases e
  | .set _ :: _, _, e => by cases e
  | .obj _ _ :: _, _, e => by cases e
  | .scr _ :: _, _, e => by cases e
@[simp] theorem getInts_of (ns : List Int) : getInts (ns.map D.int) = some ns := by
  induction ns with
  | nil => rfl
  | cons n r ih => simp [getInts, ih]
def getBls : List D → Option (List Bool)
  | [] => some []
  | .bl i :: r => (getBls r).map (i :: ·)
  | _ :: _ => none
theorem getBls_map : ∀ {l : List D} {ns : List Bool}, getBls l = some ns → l = ns.map D.bl
  | [], _, e => by cases e; rfl
  | .bl i :: r, _, e => by
    unfold getBls at e
    cases h : getBls r with
    | none => rw [h] at e; cases e
    | some ns => rw [h] at e; cases e; rw [getBls_map h]; rfl
  | .non :: _, _, e => by cases e
  | .int _ :: _, _, e => by cases e
  | .str _ :: _, _, e => by cases e
  | .tup _ :: _, _, e => by cases e
  | .lst _ :: _, _, e => by cases e
  | .dct _ :: _, _, e => by cases e
  | .set _ :: _, _, e => by cases e
  | .obj _ _ :: _, _, e => by cases e
  | .scr _ :: _, _, e => by cases e
@[simp] theorem getBls_of (ns : List Bool) : getBls (ns.map D.bl) = some ns := by
  induction ns with
  | nil => rfl
  | cons n r ih => simp [getBls, ih]
def sumD : D → Option D
  | .lst l => (getInts l).map fun ns => .int ns.sum
  | _ => none
theorem mapO {α β : Type} {x : Option α} {f : α → β} {r : β} (e : x.map f = some r) : ∃ a, x = some a ∧ f a = r := by
  cases x with
  | none => cases e
  | some a => exact ⟨a, rfl, Option.some.inj e⟩
theorem ca_sum : CaD X (rSum X.K) (f1 sumD) := ca1 fun S H d1 d v1 Q al r1 e q => by
  cases d1 <;> first | (cases e; done) | skip
  obtain ⟨ns, e1, rfl⟩ := mapO (show (getInts _).map _ = some d from e)
  have := getInts_map e1
  subst this
  obtain ⟨a, vs, rfl, h1, q1⟩ := r1.lst_inv
  have := q1.ints
  subst this
  exact ⟨a, ns, rfl, .of h1, q _ H (Grow.refl H) (.int _)⟩
def lmax : List Int → Option Int
  | [] => none
  | a :: r => some (r.foldl (fun m x => if x > m then x else m) a)
def lmin : List Int → Option Int
  | [] => none
  | a :: r => some (r.foldl (fun m x => if x < m then x else m) a)
theorem lmax_spec : ∀ (r : List Int) (a : Int), r.foldl (fun m x => if x > m then x else m) a ∈ a :: r ∧ ∀ y ∈ a :: r, y ≤ r.foldl (fun m x => if x > m then x else m) a
  | [], a => ⟨by simp, by simp⟩
  | b :: r, a => by
    have := lmax_spec r (if b > a then b else a)
    simp only [List.foldl_cons]
    refine ⟨?_, fun y hy => ?_⟩
    · have h := this.1
      simp only [List.mem_cons] at h ⊢
      by_cases c : b > a
      · simp only [c, if_true] at h ⊢
        rcases h with h | h <;> simp [h]
      · simp only [c, if_false] at h ⊢
        rcases h with h | h <;> simp [h]
    · have h := this.2
      have h0 := h (if b > a then b else a) (by simp)
      simp only [List.mem_cons] at hy
      rcases hy with rfl | rfl | hy
      · refine Int.le_trans ?_ h0
        split <;> omega
      · refine Int.le_trans ?_ h0
        split <;> omega
      · exact h y (by simp [hy])
theorem lmin_spec : ∀ (r : List Int) (a : Int), r.foldl (fun m x => if x < m then x else m) a ∈ a :: r ∧ ∀ y ∈ a :: r, r.foldl (fun m x => if x < m then x else m) a ≤ y
  | [], a => ⟨by simp, by simp⟩
  | b :: r, a => by
    have := lmin_spec r (if b < a then b else a)
    simp only [List.foldl_cons]
    refine ⟨?_, fun y hy => ?_⟩
    · have h := this.1
      simp only [List.mem_cons] at h ⊢
      by_cases c : b < a
      · simp only [c, if_true] at h ⊢
        rcases h with h | h <;> simp [h]
      · simp only [c, if_false] at h ⊢
        rcases h with h | h <;> simp [h]
    · have h := this.2
      have h0 := h (if b < a then b else a) (by simp)
      simp only [List.mem_cons] at hy
      rcases hy with rfl | rfl | hy
      · refine Int.le_trans h0 ?_
        split <;> omega
      · refine Int.le_trans h0 ?_
        split <;> omega
      · exact h y (by simp [hy])
def maxD : D → Option D
  | .lst l => (getInts l).bind fun ns => (lmax ns).map D.int
  | _ => none
def minD : D → Option D
  | .lst l => (getInts l).bind fun ns => (lmin ns).map D.int
  | _ => none
theorem ca_max : CaD X (rMax X.K) (f1 maxD) := ca1 fun S H d1 d v1 Q al r1 e q => by
  cases d1 <;> first | (cases e; done) | skip
  obtain ⟨ns, e1, e2⟩ := bindO (show (getInts _).bind _ = some d from e)
  obtain ⟨m, e3, rfl⟩ := mapO e2
  have := getInts_map e1
  subst this
  obtain ⟨a, vs, rfl, h1, q1⟩ := r1.lst_inv
  have := q1.ints
  subst this
  cases ns with
  | nil => cases e3
  | cons x r =>
    cases e3
    have sp := lmax_spec r x
    refine ⟨a, x :: r, rfl, .of h1, by simp, fun m hm hy => ?_⟩
    have : m = r.foldl (fun m x => if x > m then x else m) x := Int.le_antisymm (sp.2 m hm) (hy _ sp.1)
    subst this
    exact q _ H (Grow.refl H) (.int _)
theorem ca_min : CaD X (rMin X.K) (f1 minD) := ca1 fun S H d1 d v1 Q al r1 e q => by
  cases d1 <;> first | (cases e; done) | skip
  obtain ⟨ns, e1, e2⟩ := bindO (show (getInts _).bind _ = some d from e)
  obtain ⟨m, e3, rfl⟩ := mapO e2
  have := getInts_map e1
  subst this
  obtain ⟨a, vs, rfl, h1, q1⟩ := r1.lst_inv
  have := q1.ints
  subst this
  cases ns with
  | nil => cases e3
  | cons x r =>
    cases e3
    have sp := lmin_spec r x
    refine ⟨a, x :: r, rfl, .of h1, by simp, fun m hm hy => ?_⟩
    have : m = r.foldl (fun m x => if x < m then x else m) x := Int.le_antisymm (hy _ sp.1) (sp.2 m hm)
    subst this
    exact q _ H (Grow.refl H) (.int _)
def anyD : D → Option D
  | .lst l => (getBls l).map fun ns => .bl (ns.any id)
  | _ => none
def allD : D → Option D
  | .lst l => (getBls l).map fun ns => .bl (ns.all id)
  | _ => none
theorem ca_any : CaD X (rAny X.K) (f1 anyD) := ca1 fun S H d1 d v1 Q al r1 e q => by
  cases d1 <;> first | (cases e; done) | skip
  obtain ⟨ns, e1, rfl⟩ := mapO (show (getBls _).map _ = some d from e)
  have := getBls_map e1
  subst this
  obtain ⟨a, vs, rfl, h1, q1⟩ := r1.lst_inv
  have := q1.bls
  subst this
  exact ⟨a, ns, rfl, .of h1, q _ H (Grow.refl H) (.bl _)⟩
theorem ca_all : CaD X (rAll X.K) (f1 allD) := ca1 fun S H d1 d v1 Q al r1 e q => by
  cases d1 <;> first | (cases e; done) | skip
  obtain ⟨ns, e1, rfl⟩ := mapO (show (getBls _).map _ = some d from e)
  have := getBls_map e1
  subst this
  obtain ⟨a, vs, rfl, h1, q1⟩ := r1.lst_inv
  have := q1.bls
  subst this
  exact ⟨a, ns, rfl, .of h1, q _ H (Grow.refl H) (.bl _)⟩
def tupleD : D → Option D
  | .lst l => some (.tup l)
  | .tup l => some (.tup l)
  | _ => none
abbrev rTupleD (K : PySem.W.Frag) : List V → Hp → VK → Prop := fun xs H Q => ∃ p ys, xs = [.ref p] ∧ ((SqL K H p ys ∧ ∀ l, H l = none → Q (.ref l) (upd H l (.tup ys))) ∨ (SqT K H p ys ∧ Q (.ref p) H))
theorem ca_tuple : CaD X (rTupleD X.K) (f1 tupleD) := ca1 fun S H d1 d v1 Q al r1 e q => by
  cases d1 <;> first | (cases e; done) | skip
  · cases e
    obtain ⟨a, vs, rfl, h1, h1', q1⟩ := r1.tup_inv
    exact ⟨a, vs, rfl, .inr ⟨h1, q _ H (Grow.refl H) (.tup h1' q1)⟩⟩
  · cases e
    obtain ⟨a, vs, rfl, h1, q1⟩ := r1.lst_inv
    exact ⟨a, vs, rfl, .inl ⟨.of h1, fun p hp => q _ _ (Grow.upd hp) (new_tup al hp q1)⟩⟩
def listD : D → Option (List D)
  | .lst l => some l
  | .tup l => some l
  | .scr ns => some (ns.map D.int)
  | _ => none
abbrev rListD (K : PySem.W.Frag) : List V → Hp → VK → Prop := fun xs H Q => ∃ p ys, xs = [.ref p] ∧ (SqL K H p ys ∨ SqT K H p ys) ∧ ∀ l, H l = none → Q (.ref l) (upd H l (.lst ys))
theorem co_list : CaO X (rListD X.K) (f1L listD) := co1 fun S H d1 d v1 Q al r1 e q => by
  cases d1 <;> first | (cases e; done) | skip
  · cases e
    obtain ⟨a, vs, rfl, h1, h1', q1⟩ := r1.tup_inv
    exact ⟨a, vs, rfl, .inr h1, fun p hp => q p H vs (Grow.refl H) hp q1⟩
  · cases e
    obtain ⟨a, vs, rfl, h1, q1⟩ := r1.lst_inv
    exact ⟨a, vs, rfl, .inl (.of h1), fun p hp => q p H vs (Grow.refl H) hp q1⟩
  · cases e
    cases r1 with
    | rf r1 =>
      cases r1 with
      | scr h => exact ⟨_, _, rfl, .inl ((hide_le _ _).seqL h), fun p hp => q p H _ (Grow.refl H) hp (Rfs.of_ints _)⟩
/-! ### in -/
def dIn : D → D → Option D
  | d, .lst l => if pyOk 39 d && l.all (pyOk 39) then some (.bl (l.any fun z => dq z d)) else none
  | _, _ => none
def dNotIn : D → D → Option D
  | d, .lst l => if pyOk 39 d && l.all (pyOk 39) then some (.bl (!l.any fun z => dq z d)) else none
  | _, _ => none
theorem any_pys {d : D} (hd : pyOk 39 d = true) : ∀ (l : List D), l.all (pyOk 39) = true → (pys l).any (fun z => PyData.eqv z (py d)) = l.any fun z => dq z d
  | [], _ => rfl
  | a :: r, h => by
    simp only [List.all_cons, Bool.and_eq_true] at h
    simp only [pys, List.any_cons, eqv_dq 39 a d h.1 hd, any_pys hd r h.2]
theorem shaped_of39 {d : D} (h : pyOk 39 d = true) : SeqAt.shaped (py d) = true := by
  have := pyOk_ok 39 d h
  unfold SeqAt.shaped
  rw [this.1, Bool.true_and]
  exact decide_eq_true (by omega)
theorem Rv.dpL {K : PySem.W.Frag} {mg : Str → Option Value} {S : List Addr} {H : Hp} {l : List D} {v : V} (r : Rv K mg S H (.lst l) v) (h : l.all (pyOk 39) = true) : Dp K H v (.list (pys l)) := r.dp (n := 40) h
theorem od_in : OpD X (rInD X.K) dIn := fun S H d1 d2 d v1 v2 Q al r1 r2 e q => by
  cases d2 <;> first | (cases e; done) | (cases d1 <;> cases e; done) | skip
  rename_i l
  obtain ⟨h, e⟩ := ifSome' (show (if pyOk 39 d1 && l.all (pyOk 39) then some (D.bl (l.any fun z => dq z d1)) else none) = some d by cases d1 <;> exact e)
  subst e
  rw [Bool.and_eq_true] at h
  exact ⟨_, _, r1.dp h.1, r2.dpL h.2, shaped_of39 h.1, shaped_of (d := .lst l) h.2, by rw [any_pys h.1 l h.2]; exact q _ H (Grow.refl H) (.bl _)⟩
theorem od_notIn : OpD X (rNotInD X.K) dNotIn := fun S H d1 d2 d v1 v2 Q al r1 r2 e q => by
  cases d2 <;> first | (cases e; done) | (cases d1 <;> cases e; done) | skip
  rename_i l
  obtain ⟨h, e⟩ := ifSome' (show (if pyOk 39 d1 && l.all (pyOk 39) then some (D.bl (!l.any fun z => dq z d1)) else none) = some d by cases d1 <;> exact e)
  subst e
  rw [Bool.and_eq_true] at h
  exact ⟨_, _, r1.dp h.1, r2.dpL h.2, shaped_of39 h.1, shaped_of (d := .lst l) h.2, by rw [any_pys h.1 l h.2]; exact q _ H (Grow.refl H) (.bl _)⟩
/-! ### isinstance -/
inductive Bt where
  | int | bool | str | list | tuple
  deriving DecidableEq
def Bt.nm : Bt → String
  | .int => "int"
  | .bool => "bool"
  | .str => "str"
  | .list => "list"
  | .tuple => "tuple"
def isB : Bt → D → Option Bool
  | b, .non => some false
  | b, .bl _ => some (decide (b = .bool) || decide (b = .int))
  | b, .int _ => some (decide (b = .int))
  | b, .str _ => some (decide (b = .str))
  | b, .tup _ => some (decide (b = .tuple))
  | b, .lst _ => some (decide (b = .list))
  | _, _ => none
def tyNm : D → String
  | .non => "NoneType"
  | .bl _ => "bool"
  | .int _ => "int"
  | .str _ => "str"
  | .tup _ => "tuple"
  | _ => "list"
theorem kit_isB {K : PySem.W.Frag} {b : Bt} {d : D} {r : Bool} (e : isB b d = some r) : PySem.W.kitOne K (.type (tyNm d)) (.type b.nm) = some r := by
  cases d <;> first | (cases e; done) | skip
  all_goals (cases b <;> cases e <;> refine kit_ty ?_ <;> simp only [tyNm, Bt.nm] <;> decide +kernel)
theorem Rv.tyx {K : PySem.W.Frag} {mg : Str → Option Value} {S : List Addr} {H : Hp} {d : D} {v : V} {b : Bt} {r : Bool} (h : Rv K mg S H d v) (e : isB b d = some r) : TyX K H v (.type (tyNm d)) := by
  cases d with
  | non => rw [h.non_inv]; exact .base .non
  | bl b => rw [h.bl_inv]; exact .base (.bl b)
  | int i => rw [h.int_inv]; exact .base (.int i)
  | str s => rw [h.str_inv]; exact .base (.str s)
  | tup l =>
    obtain ⟨a, vs, rfl, h1, _, _⟩ := h.tup_inv
    rcases h1 with (h1 | ⟨o, h1⟩) | ⟨o, its, n, h1, h2, _⟩
    · exact .base (.tup h1)
    · exact .fTuple h1
    · exact .kTuple h1 h2
  | lst l =>
    obtain ⟨a, vs, rfl, h1, _⟩ := h.lst_inv
    exact .base (.lst h1)
  | dct l => cases e
  | set l => cases e
  | obj c l => cases e
  | scr l => cases e
/-- isinstance(e, T): the class is written -/
def eIsI (b : Bt) (f : Ef) : Ef := fun ρ => (f ρ).bind fun p => (isB b (p.1.res p.2)).bind fun k => some (.v (.bl k), p.2)
theorem de_isI {τ : List Ty} {e : Expr} {f : Ef} {p pos pos2 : Pos} {x T : Str} (b : Bt) (hg : Gl X x) (hm : X.mg x = none) (hv : bootBuiltins x = some (.builtin "isinstance")) (hg2 : Gl X T) (hm2 : X.mg T = none) (hv2 : bootBuiltins T = some (.type b.nm)) (he : DE X e τ f) (hn : x ≠ "__name__" := by decide) (hdb : (x == ("__debug__" : Str)) = false := by decide) (hn2 : T ≠ "__name__" := by decide) (hdb2 : (T == ("__debug__" : Str)) = false := by decide)
    (hs : starEach [e, .Name T pos2] X.env = (false, eval e X.env) :: starEach [.Name T pos2] X.env := by rfl) (hs2 : starEach [Expr.Name T pos2] X.env = (false, eval (.Name T pos2) X.env) :: starEach [] X.env := by rfl) (hpl : (backTo pos (starEach [Expr.Name T pos2] X.env)).any (·.1) = false := by rfl) :
    DE X (.Call (.Name x p) [e, .Name T pos2] [] pos) τ (eIsI b f) := pe_imp (pe_callB call_isi hg hm hv (pa_cons he (pa_cons (pe_bltn (v := .ty b.nm) (u := .type b.nm) hg2 hm2 hv2 rfl hn2 hdb2) pa_nil hs2) hs) hn hdb hs hpl) fun σ H Q ⟨R, ρ, fs, h, ρ', s, e, q⟩ => by
  obtain ⟨w, e1, e2⟩ := bindO e
  obtain ⟨k, e3, e4⟩ := bindO e2
  cases e4
  refine ⟨R, ρ, fs, w.1, w.2, s, e1, fun v H1 fs1 t1 s1 r => ?_⟩
  exact ⟨v, .ty b.nm, _, _, k, rfl, .ty _, (s1.res r).tyx e3, kit_isB e3, q _ H1 fs1 t1 s1 (.bl _)⟩
end
end TL

namespace TL
open PySem PySem.Spec PyProof.Rows L2

/-- a def of the text as it stands behind the top -/
structure Dfn (K : PySem.W.Frag) (mg : Str → Option Value) (x : Str) (st : Stmt) (ps : List Str) (f : Addr) (fd : FuncData) : Prop where
  fn : Fun K x x st f fd
  mg : mg x = some (.ref f)
  bd : Binds K fd ps []
/-- a def that may be called -/
structure Cal (P : Program) (w : World) (K : PySem.W.Frag) (mg : Str → Option Value) (base : Heap) (f : Addr) (fd : FuncData) (x : Str) (k : Nat) (ps : List Str) (sg : Sg) (G : Fm) : Prop where
  ok : FnD P w K mg base k f fd ps sg G
  mg : mg x = some (.ref f)
  kp : PySem.W.keepIn K (.ref f) = true
  bd : Binds K fd ps []
  len : ∀ ds r, G ds = some r → ds.length = sg.ps.length
section
variable {P : Program} {w : World} {K : PySem.W.Frag} {mg : Str → Option Value} {base : Heap} {f : Addr} {fd : FuncData} {x : Str} {k j : Nat} {ps : List Str} {sg : Sg} {G G' : Fm}
theorem Cal.mono (c : Cal P w K mg base f fd x j ps sg G) (h : j ≤ k) : Cal P w K mg base f fd x k ps sg G := ⟨FnOk.mono c.ok h, c.mg, c.kp, c.bd, c.len⟩
theorem Cal.of (c : Cal P w K mg base f fd x k ps sg G) (le : ∀ ds r, G' ds = some r → G ds = some r) : Cal P w K mg base f fd x k ps sg G' := ⟨c.ok.of le, c.mg, c.kp, c.bd, fun ds r h => c.len ds r (le ds r h)⟩
theorem runF_len {b : Sf} {n m : Nat} : ∀ ds r, runF b n m ds = some r → ds.length = n := fun ds r e => by
  unfold runF at e
  by_cases h : ds.length = n
  · exact h
  · rw [if_neg h] at e; cases e
/-- the rule for a def -/
theorem cal_ok {b : Sf} {τ' : List Ty} {st : Stmt} {N : List Str} (D : Dfn K mg x st ps f fd) (S : FnScope N ps (defScope st)) (γ : Gm) (m : Nat) (hn : sg.ps.length = ps.length := by rfl) (hm : sg.ps.length + m = N.length := by rfl)
    (hio : γ.io = ioOf (sg.ps.map Ty.io) := by rfl) (hret : γ.ret = sg.ret := by rfl) (hrty : γ.rty = sg.ps.map Ty.io ++ List.replicate m .no := by rfl) (hnx : leTb γ.rty τ' = true := by rfl) (hfall : sg.ret = .sh ∨ ∀ ρ ρ', b ρ ≠ some (.nx ρ'))
    (hbody : ∀ (cdv : Value) (A : Around) (outer : List PySem.Env) (s : Shared) (H : Hp) (E : XK), Room k (A.deeper (envOfC x (defScope st) s.heap.objs.size f cdv)) →
      DSs (cxOf CX0 P w K mg base N x (defScope st) f cdv A outer s H E).nox γ (defBody st) (sg.ps ++ List.replicate m .no) b τ') :
    Cal P w K mg base f fd x (k + 1) ps sg (runF b sg.ps.length m) :=
  ⟨fn_ok D.fn S sg γ m hn hm hio hret hrty hnx hfall hbody, D.mg, D.fn.kp, D.bd, runF_len⟩
/-- .. with a number of turns for its whiles -/
theorem Cal.ofN {F : Nat → Fm} (h : ∀ n, Cal P w K mg base f fd x k ps sg (F n)) (le : ∀ ds r, G ds = some r → ∃ n, F n ds = some r) : Cal P w K mg base f fd x k ps sg G :=
  ⟨FnD.ofN (fun n => (h n).ok) le, (h 0).mg, (h 0).kp, (h 0).bd, fun ds r h1 => by
    obtain ⟨n, h2⟩ := le ds r h1
    exact (h n).len ds r h2⟩
end
section
variable {X : Cx} {τ : List Ty} {e : Expr} {es : List Expr} {pos p : Pos} {f : Addr} {fd : FuncData} {x : Str} {k : Nat} {ps : List Str} {sg : Sg} {F : Fm}
theorem do_fn {g : Af} (c : Cal X.prog X.w X.K X.mg X.base f fd x k ps sg F) (hr : Room k X.A) (n : Nat) (hg : Gl X x) (ha : DA X (e :: es) τ g) (hps : sg.ps = List.replicate n .sh := by rfl) (hdb : (x == ("__debug__" : Str)) = false := by decide) (he : starEach (e :: es) X.env = (false, eval e X.env) :: starEach es X.env := by rfl) (hpl : (backTo pos (starEach es X.env)).any (·.1) = false := by rfl) :
    DO X (.Call (.Name x p) (e :: es) [] pos) τ (oCall F g) sg.ret := do_call c.ok hr hg c.mg c.kp c.bd ha n hps (fun ds r h => by rw [c.len ds r h, hps]; simp) hdb he hpl
theorem do_fnB {g : Af} (c : Cal X.prog X.w X.K X.mg X.base f fd x k ps sg F) (hr : Room k X.A) (n : Nat) (hg : Gl X x) (ha : DA X (e :: es) τ g) (hps : sg.ps = List.replicate n .sh := by rfl) (hdb : (x == ("__debug__" : Str)) = false := by decide) (he : starEach (e :: es) X.env = (false, eval e X.env) :: starEach es X.env := by rfl) (hpl : (backTo pos (starEach es X.env)).any (·.1) = false := by rfl) :
    DO X (.Call (.Name x p) (e :: es) [] pos) τ (oCallB sg.ret F g) sg.ret := do_callB' c.ok hr hg c.mg c.kp c.bd ha n hps (fun ds r h => by rw [c.len ds r h, hps]; simp) hdb he hpl
theorem do_fnI {g : Af} {t : Ty} (c : Cal X.prog X.w X.K X.mg X.base f fd x k ps sg F) (hr : Room k X.A) (i j n : Nat) (hg : Gl X x) (ha : DAi X (e :: es) τ g) (hps : sg.ps = ioPs n j t := by rfl) (ht : τ[i]? = some t := by rfl) (hno : t ≠ .no := by intro z; cases z) (hsh : t.io = t := by rfl) (hdb : (x == ("__debug__" : Str)) = false := by decide) (he : starEach (e :: es) X.env = (false, eval e X.env) :: starEach es X.env := by rfl) (hpl : (backTo pos (starEach es X.env)).any (·.1) = false := by rfl) :
    DO X (.Call (.Name x p) (e :: es) [] pos) τ (oCallI F i j g) sg.ret := do_callI i j n c.ok hr hg c.mg c.kp c.bd ha hps (fun ds r h => by rw [c.len ds r h, hps]; simp [ioPs]) ht hno hsh hdb he hpl
end
/-! ### names of built-ins -/
theorem bt_len : bootBuiltins "len" = some (.builtin "len") := by decide +kernel
theorem bt_abs : bootBuiltins "abs" = some (.builtin "abs") := by decide +kernel
theorem bt_sum : bootBuiltins "sum" = some (.builtin "sum") := by decide +kernel
theorem bt_max : bootBuiltins "max" = some (.builtin "max") := by decide +kernel
theorem bt_min : bootBuiltins "min" = some (.builtin "min") := by decide +kernel
theorem bt_any : bootBuiltins "any" = some (.builtin "any") := by decide +kernel
theorem bt_all : bootBuiltins "all" = some (.builtin "all") := by decide +kernel
theorem bt_sorted : bootBuiltins "sorted" = some (.builtin "sorted") := by decide +kernel
theorem bt_isinstance : bootBuiltins "isinstance" = some (.builtin "isinstance") := by decide +kernel
theorem bt_int : bootBuiltins "int" = some (.type "int") := by decide +kernel
theorem bt_bool : bootBuiltins "bool" = some (.type "bool") := by decide +kernel
theorem bt_str : bootBuiltins "str" = some (.type "str") := by decide +kernel
theorem bt_tuple : bootBuiltins "tuple" = some (.type "tuple") := by decide +kernel
theorem bt_list : bootBuiltins "list" = some (.type "list") := by decide +kernel
theorem bt_dict : bootBuiltins "dict" = some (.type "dict") := by decide +kernel
theorem bt_set : bootBuiltins "set" = some (.type "set") := by decide +kernel
theorem hu64 {k : Nat} {A : Around} (r : Room k A) : A.units + 64 < cLine := r.units
theorem hu65 {k : Nat} {A : Around} (r : Room k A) : A.units + 65 < cLine := by
  have := r.un
  omega
/-! ### blocks that do not fall through -/
def NN (f : Sf) : Prop := ∀ ρ ρ', f ρ ≠ some (.nx ρ')
theorem nn_ret {f : Ef} : NN (sRet f) := fun ρ ρ' e => by
  obtain ⟨p, _, e2⟩ := bindO e
  obtain ⟨p1, p2⟩ := p
  cases p1 <;> cases e2
theorem nn_retO {f : Of} : NN (sRetO f) := fun ρ ρ' e => by
  obtain ⟨p, _, e2⟩ := bindO e
  cases e2
theorem nn_retX {i : Nat} : NN (sRetX i) := fun ρ ρ' e => by cases e
theorem nn_retN : NN sRetN := fun ρ ρ' e => by cases e
theorem nn_seq {f g : Sf} (h : NN g) : NN (sSeq f g) := fun ρ ρ' e => by
  obtain ⟨o, _, e2⟩ := bindO e
  cases o with
  | nx r => exact h _ _ e2
  | _ => cases e2
theorem nn_if {t : Tf} {f g : Sf} (h : NN f) (k : NN g) : NN (sIf t f g) := fun ρ ρ' e => by
  obtain ⟨p, _, e2⟩ := bindO e
  cases hp : p.1 with
  | true => rw [hp] at e2; exact h _ _ e2
  | false => rw [hp] at e2; exact k _ _ e2
/-! ### slots forgotten ahead of a block -/
def sKb (ks : List Nat) (f : Sf) : Sf := fun ρ => f (kill ks ρ)
theorem dss_killB {X : Cx} {γ : Gm} {τ τ' : List Ty} {sts : List Stmt} {f : Sf} (ks : List Nat) (h : DSs X γ sts (killT ks τ) f τ') : DSs X γ sts τ (sKb ks f) τ' := pss_imp h fun D σ H ⟨R, ρ, fs, o, s, e, q⟩ => by
  obtain ⟨fs1, s1, sub⟩ := s.killS ks
  exact ⟨R, kill ks ρ, fs1, o, s1, e, q.mono ((Step.refl H fs).less sub) (Kp.refl _ _) (fun ρ' σ' H' fs' eo t' k' s' => by subst eo; exact q σ' H' fs' t' k' s') rfl rfl rfl⟩
/-! ### the law -/
/-- the law's promise: True at every script -/
def sgL : Sg := ⟨[.sh], .sh⟩
def lawF (F : Fm) : Prop := ∀ ns : List Int, ns.length ≤ 63 → ∃ r, F [.scr ns] = some (.bl true, r)
theorem law_sp {K : PySem.W.Frag} {mg : Str → Option Value} {F : Fm} (h : lawF F) {H : Hp} {a : Addr} {ns : List Int} (hl : ns.length ≤ 63) (hS : SqL K H a (ns.map V.int)) {E : XK} : spD K mg sgL F [.ref a] H (fun v _ => v = .bl true) E := by
  obtain ⟨r, e⟩ := h ns hl
  refine ⟨[], [.scr ns], [], .bl true, r, ⟨.cons (f := []) (g := []) (.sh (.scr ?_)) .nil, List.nodup_nil, fun a ha => nomatch ha⟩, e, fun v H' fs' fv _ _ rp => ?_⟩
  · have eq : hide [] H = H := by funext a; simp [hide]
    rw [show ([] : List Addr) ++ [] = [] from rfl, eq]
    exact hS
  · cases rp with
    | sh rf => cases rf; rfl
end TL

/-! ### sorted of tuples of ints -/
namespace TL
open PySem PySem.Spec PyProof.Rows L2
theorem lexLt_asym : ∀ (x y : List Int), HT.lexLt x y = true → HT.lexLt y x = false
  | [], [], h => by simp [HT.lexLt] at h
  | [], _ :: _, _ => rfl
  | _ :: _, [], h => by simp [HT.lexLt] at h
  | a :: x, b :: y, h => by
    rw [HT.lexLt_cons] at h ⊢
    by_cases e : a = b
    · subst e
      simp only [if_true] at h ⊢
      exact lexLt_asym x y h
    · rw [if_neg e] at h
      rw [if_neg (fun z => e z.symm)]
      have := of_decide_eq_true h
      exact decide_eq_false (by omega)
theorem lexLt_tr : ∀ (x y z : List Int), HT.lexLt y x = false → HT.lexLt z y = false → HT.lexLt z x = false
  | [], y, z, h1, h2 => by
    cases y with
    | nil => exact h2
    | cons b y =>
      cases z with
      | nil => rfl
      | cons c z => rfl
  | a :: x, [], z, h1, h2 => by simp [HT.lexLt] at h1
  | a :: x, b :: y, [], h1, h2 => by simp [HT.lexLt] at h2
  | a :: x, b :: y, c :: z, h1, h2 => by
    rw [HT.lexLt_cons] at h1 h2 ⊢
    by_cases e1 : b = a
    · subst e1
      by_cases e2 : c = b
      · subst e2
        simp only [if_true] at h1 h2 ⊢
        exact lexLt_tr x y z h1 h2
      · rw [if_neg e2] at h2 ⊢
        exact h2
    · rw [if_neg e1] at h1
      by_cases e2 : c = b
      · subst e2
        rw [if_neg e1]
        exact h1
      · rw [if_neg e2] at h2
        have a1 := of_decide_eq_false h1
        have a2 := of_decide_eq_false h2
        rw [if_neg (by omega)]
        exact decide_eq_false (by omega)
theorem lexLt_eq : ∀ (x y : List Int), HT.lexLt x y = false → HT.lexLt y x = false → x = y
  | [], [], _, _ => rfl
  | [], _ :: _, h, _ => by simp [HT.lexLt] at h
  | _ :: _, [], _, h => by simp [HT.lexLt] at h
  | a :: x, b :: y, h1, h2 => by
    rw [HT.lexLt_cons] at h1 h2
    by_cases e : a = b
    · subst e
      simp only [if_true] at h1 h2
      rw [lexLt_eq x y h1 h2]
    · rw [if_neg e] at h1
      rw [if_neg (fun z => e z.symm)] at h2
      have a1 := of_decide_eq_false h1
      have a2 := of_decide_eq_false h2
      omega
/-- sorted, as a function -/
def sortRows (l : List (List Int)) : List (List Int) := l.mergeSort fun a b => !HT.lexLt b a
theorem sortRows_perm (l : List (List Int)) : (sortRows l).Perm l := List.mergeSort_perm _ _
theorem sortRows_srt (l : List (List Int)) : (sortRows l).Pairwise fun a b => HT.lexLt b a = false := by
  have := List.pairwise_mergeSort (le := fun a b => !HT.lexLt b a) (fun a b c h1 h2 => by
    simp only [Bool.not_eq_true'] at h1 h2 ⊢
    exact lexLt_tr a b c h1 h2) (fun a b => by
    cases h : HT.lexLt b a with
    | false => simp
    | true => simp [lexLt_asym b a h]) l
  exact this.imp fun h => by simpa using h
theorem srt_uniq {α : Type} {lt : α → α → Bool} (ae : ∀ x y, lt x y = false → lt y x = false → x = y) : ∀ {l m : List α}, l.Perm m → (l.Pairwise fun a b => lt b a = false) → (m.Pairwise fun a b => lt b a = false) → l = m
  | [], m, p, _, _ => by simpa using p.symm.eq_nil
  | x :: l, [], p, _, _ => by simpa using p.eq_nil
  | x :: l, y :: m, p, h1, h2 => by
    have hxy : x = y := by
      have hx : x ∈ y :: m := p.mem_iff.mp (by simp)
      have hy : y ∈ x :: l := p.mem_iff.mpr (by simp)
      rcases List.mem_cons.mp hx with e | hx
      · exact e
      rcases List.mem_cons.mp hy with e | hy
      · exact e.symm
      exact ae x y ((List.pairwise_cons.mp h2).1 x hx) ((List.pairwise_cons.mp h1).1 y hy)
    subst hxy
    rw [srt_uniq ae p.cons_inv (List.pairwise_cons.mp h1).2 (List.pairwise_cons.mp h2).2]
end TL
namespace SrtO
open PySem PySem.Calls PyProof.Rows
/-- a tuple of ints -/
def IsRow (h : Heap) (v : Value) (ns : List Int) : Prop := ∃ (a : Addr) (us : List Value), v = .ref a ∧ IsTup h a us.toArray ∧ IntsAre us ns
theorem ints_inj : ∀ {us : List Value} {ns ms : List Int}, IntsAre us ns → IntsAre us ms → ns = ms := fun {us ns ms} h k => by
  have h1 := L2.vals_of_ints h
  have h2 := L2.vals_of_ints k
  have := L2.Vals.inj h1 h2
  exact (List.map_inj_right (fun a b e => by injection e)).mp this
theorem IsRow.inj {h : Heap} {v : Value} {ns ms : List Int} (x : IsRow h v ns) (y : IsRow h v ms) : ns = ms := by
  obtain ⟨a, us, rfl, ⟨o, e, _, n, d⟩, i⟩ := x
  obtain ⟨b, ws, e2, ⟨o', e', _, n', d'⟩, j⟩ := y
  cases e2
  rw [e] at e'; cases e'
  rw [d] at d'
  injection d' with d1 _
  have : us = ws := by simpa using congrArg Array.toList d1
  subst this
  exact ints_inj i j
open Classical in
noncomputable def rowOf (h : Heap) (v : Value) : List Int := if x : ∃ ns, IsRow h v ns then x.choose else []
theorem rowOf_eq {h : Heap} {v : Value} {ns : List Int} (x : IsRow h v ns) : rowOf h v = ns := by
  unfold rowOf
  have e : ∃ ns, IsRow h v ns := ⟨ns, x⟩
  rw [dif_pos e]
  exact e.choose_spec.inj x
theorem swo_row (k : Value → List Int) : Swo fun v u => HT.lexLt (k v) (k u) := ⟨fun x y h => TL.lexLt_asym _ _ h, fun x y z h1 h2 => TL.lexLt_tr _ _ _ h1 h2⟩
section
variable {prog : Program} {w : World} {A : Around} {E : Value → Shared → Prop} {s : Shared}
theorem kat_ints {b fin : Bool} {Q : Bool → Shared → Prop} : ∀ {xs ys : List Value} {ns ms : List Int} (i : Nat), IntsAre xs ns → IntsAre ys ms → fin = decide (ns.length < ms.length) → Q (HT.lexLt ns ms) s → PySem.W.KatLex prog w A b fin Q (xs.zip ys) i s
  | [], ys, ns, ms, i, hx, hy, hf, q => by
    have := L2.vals_of_ints hx
    cases ns with
    | nil =>
      refine PySem.W.kat_nil ?_
      rw [hf]
      cases ms <;> exact q
    | cons _ _ => cases this
  | x :: xs, [], ns, ms, i, hx, hy, hf, q => by
    have h1 := L2.vals_of_ints hx
    have h2 := L2.vals_of_ints hy
    cases ns with
    | nil => cases h1
    | cons n ns =>
      cases ms with
      | cons _ _ => cases h2
      | nil =>
        refine PySem.W.kat_nil ?_
        rw [hf]
        exact q
  | x :: xs, y :: ys, ns, ms, i, hx, hy, hf, q => by
    have h1 := L2.vals_of_ints hx
    have h2 := L2.vals_of_ints hy
    cases ns with
    | nil => cases h1
    | cons n ns =>
      cases ms with
      | nil => cases h2
      | cons m ms =>
        cases h1 with
        | cons r1 t1 =>
          cases h2 with
          | cons r2 t2 =>
            obtain ⟨t, rfl⟩ := r1
            obtain ⟨u, rfl⟩ := r2
            refine PySem.W.kat_cons (SeqAt.EqAt.int_int n t m u prog w _ _ ?_)
            refine PySem.W.kat_go (fun e1 => ?_) (fun e1 => ?_)
            · have ex : n = m := by simpa using e1
              subst ex
              refine PySem.W.kat_yes (kat_ints (i + 1) (L2.Vals.ints t1) (L2.Vals.ints t2) (by rw [hf]; simp) ?_)
              rw [HT.lexLt_cons, if_pos rfl] at q
              exact q
            · have ex : ¬ n = m := by simpa using e1
              rw [HT.lexLt_cons, if_neg ex] at q
              exact PySem.W.kat_no (TS.oneLt_ints _ q)
theorem row_cmp {vs : List Value} {k : Value → List Int} (hp : ∀ v ∈ vs, IsRow s.heap v (k v)) : Cmp prog w A s (tuples' true) (fun p => p.1 ∈ vs) (lt2 fun v u => HT.lexLt (k v) (k u)) := by
  intro p q hm hm'
  have h1 := hp _ hm
  have h2 := hp _ hm'
  show wpAny (model prog w) A (keyLt' (tuples' true) p.1 q.1) (fun r s' => s' = s ∧ r = HT.lexLt (k p.1) (k q.1)) (fun _ _ => False) s
  generalize k p.1 = x at h1 ⊢
  generalize k q.1 = y at h2 ⊢
  obtain ⟨a, us, e, ⟨o, ho, hc, n, hd⟩, hi⟩ := h1
  obtain ⟨a', us', e', ⟨o', ho', hc', n', hd'⟩, hi'⟩ := h2
  rw [e, e']
  refine PySem.W.kat_lt ho hd ho' hd' ?_
  refine kat_ints 0 hi hi' ?_ ⟨rfl, rfl⟩
  have l1 := hi.length
  have l2 := hi'.length
  simp [l1, l2]
theorem row_firsts {h : Heap} : ∀ {vs : List Value}, (∀ v ∈ vs, ∃ n ns, IsRow h v (n :: ns)) → ∃ fs : List Value, PySem.W.KatTups h vs fs ∧ fs.length = vs.length ∧ ∀ f ∈ fs, ∃ x t, f = Value.int x t
  | [], _ => ⟨[], PySem.W.KatTups.nil, rfl, fun _ hm => by simp at hm⟩
  | v :: vs, hp => by
    obtain ⟨fs, h1, h2, h3⟩ := row_firsts (vs := vs) fun v' hm => hp v' (List.mem_cons_of_mem _ hm)
    obtain ⟨x, ns, a, us, e, ⟨o, ho, hc, n, hd⟩, hi⟩ := hp v (List.mem_cons_self ..)
    subst e
    have hv := L2.vals_of_ints hi
    cases us with
    | nil => cases hv
    | cons u us =>
      cases hv with
      | cons r _ =>
        obtain ⟨t, rfl⟩ := r
        refine ⟨.int x t :: fs, PySem.W.KatTups.cons ho hc hd rfl h1, by rw [List.length_cons, List.length_cons, h2], fun f hm => ?_⟩
        rcases List.mem_cons.mp hm with z | z
        · exact ⟨x, t, z⟩
        · exact h3 f z
theorem rows_sortableO {a : Addr} {vs : List Value} {k : Value → List Int} (h0 : 0 < vs.length) (hp : ∀ v ∈ vs, IsRow s.heap v (k v)) (hne : ∀ v ∈ vs, k v ≠ []) (ha : ∀ o, s.heap.get? a = some o → o.cls ≠ .type "tuple") : SortableO prog w A s a vs fun v u => HT.lexLt (k v) (k u) := by
  intro h' keep
  have hp' : ∀ v ∈ vs, IsRow h' v (k v) := fun v hm => by
    obtain ⟨b, us, e, ⟨o, ho, hc, n, hd⟩, hi⟩ := hp v hm
    exact ⟨b, us, e, ⟨o, keep b o (fun z => by subst z; exact ha o ho hc) ho, hc, n, hd⟩, hi⟩
  obtain ⟨fs, h1, h2, h3⟩ := row_firsts (h := h') (vs := vs) fun v hm => by
    have := hp' v hm
    have hn := hne v hm
    generalize k v = x at this hn
    cases x with
    | nil => exact absurd rfl hn
    | cons n ns => exact ⟨n, ns, this⟩
  refine ⟨tuples' true, fun Q E hq => ?_, row_cmp hp'⟩
  refine PySem.W.kat_kind (T := .type "int") h1 (by omega) (fun f hm => ?_) (by rfl) ?_
  · obtain ⟨x, t, rfl⟩ := h3 f hm
    exact PySem.W.Looks.now
  · have e : (Value.type "int" != Value.type "tuple") = true := by first | decide +kernel | rfl | decide
    rw [e]
    exact hq
end
end SrtO
namespace TL
open PySem PySem.Spec PyProof.Rows L2
def RowsAt (K : PySem.W.Frag) (H : Hp) (rows : List (List Int)) (xs : List V) : Prop := Paired (fun ns x => ∃ t, x = V.ref t ∧ SqT K H t (ns.map V.int)) rows xs
def rSortedR (K : PySem.W.Frag) : List V → Hp → VK → Prop := fun vs H Q => ∃ (a : Addr) (xs : List V) (rows : List (List Int)), vs = [V.ref a] ∧ SqL K H a xs ∧ RowsAt K H rows xs ∧ (∀ r ∈ rows, r ≠ []) ∧
  ∀ ys p, RowsAt K H (sortRows rows) ys → H p = none → Q (.ref p) (upd H p (.lst ys))
theorem paired_mem {α β : Type} {F : α → β → Prop} : ∀ {l : List α} {m : List β}, Paired F l m → ∀ b ∈ m, ∃ a ∈ l, F a b
  | _, _, .nil, b, h => by simp at h
  | _, _, .cons r t, b, h => by
    rcases List.mem_cons.mp h with e | h
    · subst e; exact ⟨_, by simp, r⟩
    · obtain ⟨a, ha, f⟩ := paired_mem t b h
      exact ⟨a, by simp [ha], f⟩
theorem paired_map {α β γ : Type} {F : α → β → Prop} (g : γ → α) (k : γ → β) : ∀ {l : List γ}, (∀ c ∈ l, F (g c) (k c)) → Paired F (l.map g) (l.map k)
  | [], _ => .nil
  | c :: r, h => .cons (h c (by simp)) (paired_map g k fun d hd => h d (by simp [hd]))
section
variable {X : Cx}
theorem cr_sortedR : CallR X (.builtin "sorted") (rSortedR X.K) := by
  intro pins s σ H vs us Q I r h
  obtain ⟨a, xs, rows, rfl, hs, hr, hne, q⟩ := h
  obtain ⟨its, rv, hl, hz⟩ := I.list hs
  obtain ⟨u, rfl, ru⟩ := vals1 r
  obtain rfl : u = Value.ref a := ru
  obtain ⟨e1, e2⟩ := refs_back rv fun x m => by
    obtain ⟨ns, _, t, e, _⟩ := paired_mem hr x m
    exact ⟨t, e⟩
  have hrow : ∀ x ∈ xs, ∀ ns, (∃ t, x = V.ref t ∧ SqT X.K H t (ns.map V.int)) → ∀ u, RelV x u → SrtO.IsRow s.heap u ns := fun x _ ns ⟨t, e, hT⟩ u ru => by
    subst e
    cases (show u = Value.ref t from ru)
    obtain ⟨ts, rt, it, _⟩ := I.tuple hT
    exact ⟨t, ts, rfl, it, rt.ints⟩
  have hp : ∀ v ∈ its, SrtO.IsRow s.heap v (SrtO.rowOf s.heap v) ∧ SrtO.rowOf s.heap v ∈ rows := fun v hv => by
    obtain ⟨t, rfl⟩ := e2 v hv
    have hm : V.ref t ∈ xs := by rw [e1]; exact List.mem_map.mpr ⟨_, hv, rfl⟩
    obtain ⟨ns, hn, hx⟩ := paired_mem hr _ hm
    have w := hrow _ hm ns hx (.ref t) rfl
    rw [SrtO.rowOf_eq w]
    exact ⟨w, hn⟩
  have erows : its.map (SrtO.rowOf s.heap) = rows := by
    clear e1 hp
    have key : ∀ {rows : List (List Int)} {xs : List V} {its : List Value}, RowsAt X.K H rows xs → Vals xs its → its.map (SrtO.rowOf s.heap) = rows := by
      intro rows xs its hr
      induction hr generalizing its with
      | nil => intro rv; cases rv; rfl
      | cons h _ ih =>
        intro rv
        cases rv with
        | cons r rt =>
          rw [List.map_cons, ih rt]
          congr 1
          obtain ⟨t, e, hT⟩ := h
          subst e
          cases (show _ = Value.ref t from r)
          obtain ⟨ts, rt', it, _⟩ := I.tuple hT
          exact SrtO.rowOf_eq ⟨t, ts, rfl, it, rt'.ints⟩
    exact key hr rv
  refine SrtO.sorted_ord (SrtO.swo_row (SrtO.rowOf s.heap)) hl.isList (by rw [← rv.length]; exact hz) (fun h2 h₁ a' ha kk => ?_) fun out h1 h2 => ?_
  · refine SrtO.rows_sortableO (s := { s with heap := h₁ }) (by omega) (fun v hm => ?_) (fun v hm => hne _ (hp v hm).2) fun o e => ?_
    · obtain ⟨b, ws, e, it, hi⟩ := (hp v hm).1
      exact ⟨b, ws, e, it.keeps fun c o eo => (kk c o eo).2, hi⟩
    · have e' : some o = some _ := e.symm.trans ha
      cases e'
      intro c
      exact absurd (Value.type.inj c) (by decide)
  · have h3 : ∀ u ∈ out, ∃ a, u = Value.ref a := fun u hu => e2 u (h2.perm.mem_iff.mp hu)
    have esort : out.map (SrtO.rowOf s.heap) = sortRows rows := by
      refine srt_uniq (lt := HT.lexLt) (fun x y h k => lexLt_eq x y h k) ?_ ?_ (sortRows_srt rows)
      · rw [← erows]
        exact (h2.perm.map _).trans (sortRows_perm _).symm
      · exact List.pairwise_map.mpr h1
    have hys : RowsAt X.K H (sortRows rows) (out.map backV) := by
      rw [← esort]
      refine paired_map _ _ fun u hu => ?_
      have hm := h2.perm.mem_iff.mp hu
      obtain ⟨t, rfl⟩ := e2 u hm
      have hx : V.ref t ∈ xs := by rw [e1]; exact List.mem_map.mpr ⟨_, hm, rfl⟩
      obtain ⟨ns, hn, hxs⟩ := paired_mem hr _ hx
      have w := hrow _ hx ns hxs (.ref t) rfl
      rw [SrtO.rowOf_eq w]
      exact hxs
    obtain ⟨ep, he'⟩ := PyProof.Rows.sortedAll_at s.heap its out.toArray
    have hlen : (out.map backV).length ≤ sizeLine := by
      rw [List.length_map, h2.perm.length_eq, ← rv.length]
      exact hz
    exact ⟨.ref _, upd H (s.heap.objs.size + 1) (.lst (out.map backV)), I.laid (t' := s.toks) (fun _ _ => PyProof.Rows.sortedAll_old) (Nat.le_succ _) ⟨hlen, out, ep, vals_back h3, he'⟩, rfl, q _ _ hys (I.hok.fresh (Nat.le_succ _))⟩
def rowD (ns : List Int) : D := .tup (ns.map D.int)
def getRows : List D → Option (List (List Int))
  | [] => some []
  | .tup l :: r => (getInts l).bind fun ns => if ns.isEmpty then none else (getRows r).map (ns :: ·)
  | _ :: _ => none
theorem getRows_of : ∀ {rows : List (List Int)}, (∀ r ∈ rows, r ≠ []) → getRows (rows.map rowD) = some rows
  | [], _ => rfl
  | r :: rows, h => by
    have hr : r.isEmpty = false := by
      cases r with
      | nil => exact absurd rfl (h [] (by simp))
      | cons _ _ => rfl
    simp [getRows, rowD, hr]
    exact ⟨h r (by simp), getRows_of (rows := rows) fun x hx => h x (List.mem_cons_of_mem _ hx)⟩
theorem getRows_inv : ∀ {l : List D} {rows : List (List Int)}, getRows l = some rows → l = rows.map rowD ∧ ∀ r ∈ rows, r ≠ []
  | [], _, e => by cases e; exact ⟨rfl, by simp⟩
  | d :: r, rows, e => by
    cases d <;> first | (cases e; done) | skip
    rename_i l
    obtain ⟨ns, e1, e2⟩ := bindO (show (getInts l).bind _ = some rows from e)
    cases hn : ns with
    | nil => rw [hn] at e2; cases e2
    | cons n ns' =>
      rw [hn] at e2
      obtain ⟨rs, e3, e4⟩ := mapO (show (getRows r).map _ = some rows from e2)
      obtain ⟨h1, h2⟩ := getRows_inv e3
      subst e4
      refine ⟨?_, fun x hx => ?_⟩
      · rw [List.map_cons, ← h1, rowD, ← hn, getInts_map e1]
      · rcases List.mem_cons.mp hx with z | z
        · subst z; simp
        · exact h2 x z
def sortR : D → Option (List D)
  | .lst l => (getRows l).map fun rows => (sortRows rows).map rowD
  | _ => none
theorem rows_rf {K : PySem.W.Frag} {mg : Str → Option Value} {G : Hp} : ∀ {rows : List (List Int)} {vs : List V}, RowsAt K G rows vs → Rfs K mg G (rows.map rowD) vs
  | _, _, .nil => .nil
  | _, _, .cons ⟨t, e, h⟩ r => by
    subst e
    exact .cons (.tup h (Rfs.of_ints _)) (rows_rf r)
theorem rf_rows {K : PySem.W.Frag} {mg : Str → Option Value} {G : Hp} : ∀ {rows : List (List Int)} {vs : List V}, Rfs K mg G (rows.map rowD) vs → RowsAt K G rows vs
  | [], _, r => by cases r; exact .nil
  | ns :: rows, _, r => by
    cases r with
    | cons h r =>
      cases h with
      | tup hT q =>
        have := q.ints
        subst this
        exact .cons ⟨_, rfl, hT⟩ (rf_rows r)
theorem RowsAt.mono {K : PySem.W.Frag} {G G' : Hp} (e : Le G G') {rows : List (List Int)} {vs : List V} (h : RowsAt K G rows vs) : RowsAt K G' rows vs := Paired.mapP h fun _ _ ⟨t, a, b⟩ => ⟨t, a, e.seqT b⟩
/-- what a hidden heap shows of tuples that a whole heap shows -/
theorem RowsAt.hide {K : PySem.W.Frag} {S : List Addr} {H : Hp} (al : ∀ a ∈ S, ∃ o, H a = some o ∧ Own o) {rows : List (List Int)} {vs : List V} (h : RowsAt K H rows vs) : RowsAt K (hide S H) rows vs := Paired.mapP h fun _ _ ⟨t, a, b⟩ => by
  refine ⟨t, a, ?_⟩
  have hid : ∀ o, H t = some o → ¬ Own o → TL.hide S H t = some o := fun o e n => hide_some.mpr ⟨fun z => by
    obtain ⟨o', e', w⟩ := al t z
    rw [e] at e'; cases e'; exact n w, e⟩
  rcases b with (b | ⟨o, b⟩) | b
  · exact .inl (.inl (hid _ b fun z => z))
  · exact .inl (.inr ⟨o, hid _ b fun z => z⟩)
  · exact .inr b
theorem co_sortR : CaO X (rSortedR X.K) (f1L sortR) := co1 fun S H d1 d v1 Q al r1 e q => by
  cases d1 <;> first | (cases e; done) | skip
  rename_i l
  obtain ⟨rows, e1, rfl⟩ := mapO (show (getRows l).map _ = some d from e)
  obtain ⟨rfl, hne⟩ := getRows_inv e1
  obtain ⟨a, vs, rfl, h1, q1⟩ := r1.lst_inv
  exact ⟨a, vs, rows, rfl, .of h1, (rf_rows q1).mono (hide_le _ _), hne, fun ys p hy hp => q p H ys (Grow.refl H) hp (rows_rf (hy.hide al))⟩
def sortInts (ns : List Int) : List Int := ns.mergeSort fun a b => decide (a ≤ b)
theorem sortInts_perm (l : List Int) : (sortInts l).Perm l := List.mergeSort_perm _ _
theorem sortInts_srt (l : List Int) : (sortInts l).Pairwise (· ≤ ·) := by
  have := List.pairwise_mergeSort (le := fun a b : Int => decide (a ≤ b)) (fun a b c h1 h2 => by
    simp only [decide_eq_true_eq] at h1 h2 ⊢
    omega) (fun a b => by
    simp only [Bool.or_eq_true, decide_eq_true_eq]
    omega) l
  exact this.imp fun h => by simpa using h
theorem ints_uniq {l m : List Int} (p : l.Perm m) (h1 : l.Pairwise (· ≤ ·)) (h2 : m.Pairwise (· ≤ ·)) : l = m :=
  srt_uniq (lt := fun a b : Int => decide (a < b)) (fun x y a b => by
    have := of_decide_eq_false a
    have := of_decide_eq_false b
    omega) p (h1.imp fun h => decide_eq_false (by omega)) (h2.imp fun h => decide_eq_false (by omega))
def sortI : D → Option (List D)
  | .lst l => (getInts l).map fun ns => (sortInts ns).map D.int
  | _ => none
theorem co_sortI : CaO X (rSortedI X.K) (f1L sortI) := co1 fun S H d1 d v1 Q al r1 e q => by
  cases d1 <;> first | (cases e; done) | skip
  rename_i l
  obtain ⟨ns, e1, rfl⟩ := mapO (show (getInts l).map _ = some d from e)
  have := getInts_map e1
  subst this
  obtain ⟨a, vs, rfl, h1, q1⟩ := r1.lst_inv
  have := q1.ints
  subst this
  refine ⟨a, ns, rfl, .of h1, fun ns' p hp hs hn => ?_⟩
  rw [ints_uniq (hp.trans (sortInts_perm ns).symm) hs (sortInts_srt ns)]
  exact q p H _ (Grow.refl H) hn (Rfs.of_ints _)
end
/-! ### zip -/
def zipD (l m : List D) : List D := (l.zip m).map fun p => .tup [p.1, p.2]
def iZp (f : Af) : Itf := fun ρ => (f ρ).bind fun p => match p.1 with
  | [.v (.lst l), .v (.lst m)] => some (zipD l m, p.2)
  | [.v (.tup l), .v (.tup m)] => some (zipD l m, p.2)
  | _ => none
section
variable {K : PySem.W.Frag} {mg : Str → Option Value} {G : Hp}
theorem zip_get {l m : List D} {i : Nat} {d : D} (e : (zipD l m)[i]? = some d) : ∃ a b, l[i]? = some a ∧ m[i]? = some b ∧ d = .tup [a, b] := by
  unfold zipD at e
  rw [List.getElem?_map] at e
  cases h : (l.zip m)[i]? with
  | none => rw [h] at e; cases e
  | some p =>
    rw [h] at e
    cases e
    obtain ⟨a, b⟩ := p
    obtain ⟨h1, h2⟩ := List.getElem?_zip_eq_some.mp h
    exact ⟨a, b, h1, h2, rfl⟩
theorem walks_zipT {a b : Addr} {vs ws : List V} {l m : List D} (h : SqT K G a vs) (k : SqT K G b ws) (r : Rfs K mg G l vs) (q : Rfs K mg G m ws) : Walks K mg (RZ.ItzT K a b) (zipD l m) G := fun i S H al le => by
  have h1 : SqT K H a vs := (hide_le S H).seqT (le.seqT h)
  have k1 : SqT K H b ws := (hide_le S H).seqT (le.seqT k)
  refine ⟨fun d e => ?_, fun e => ?_⟩
  · obtain ⟨x, y, e1, e2, rfl⟩ := zip_get e
    obtain ⟨v, ev, rv⟩ := r.get e1
    obtain ⟨w, ew, rw'⟩ := q.get e2
    refine ⟨⟨vs, ws, v, w, h1, k1, ev, ew⟩, fun z H' ⟨T, v', w', ez, nT, eH, f1, f2⟩ => ?_⟩
    subst ez; subst eH
    have a1 := f1 vs h1
    have a2 := f2 ws k1
    rw [ev] at a1; cases a1
    rw [ew] at a2; cases a2
    exact ⟨Grow.upd nT, new_tup al nT (.cons (rv.mono le) (.one (rw'.mono le)))⟩
  · refine ⟨vs, ws, h1, k1, ?_⟩
    have := r.length
    have := q.length
    unfold zipD at e
    simp at e
    omega
theorem walks_zipL {a b : Addr} {vs ws : List V} {l m : List D} (h : G a = some (.lst vs)) (k : G b = some (.lst ws)) (r : Rfs K mg G l vs) (q : Rfs K mg G m ws) : Walks K mg (Itz K a b) (zipD l m) G := fun i S H al le => by
  have h1 : SqL K H a vs := .of (hide_le _ _ _ _ (le _ _ h))
  have k1 : SqL K H b ws := .of (hide_le _ _ _ _ (le _ _ k))
  refine ⟨fun d e => ?_, fun e => ?_⟩
  · obtain ⟨x, y, e1, e2, rfl⟩ := zip_get e
    obtain ⟨v, ev, rv⟩ := r.get e1
    obtain ⟨w, ew, rw'⟩ := q.get e2
    refine ⟨⟨vs, ws, v, w, h1, k1, ev, ew⟩, fun z H' ⟨T, v', w', ez, nT, eH, f1, f2⟩ => ?_⟩
    subst ez; subst eH
    have a1 := f1 vs h1
    have a2 := f2 ws k1
    rw [ev] at a1; cases a1
    rw [ew] at a2; cases a2
    exact ⟨Grow.upd nT, new_tup al nT (.cons (rv.mono le) (.one (rw'.mono le)))⟩
  · refine ⟨vs, ws, h1, k1, ?_⟩
    have := r.length
    have := q.length
    unfold zipD at e
    simp at e
    omega
end
section
variable {X : Cx} {γ : Gm} {τ : List Ty} {e e2 o : Expr} {es : List Expr} {p pos tpos : Pos} {elts : List Expr} {kk : Nat}
theorem di_zip {f : Af} (hg : Gl X "zip") (hm : X.mg "zip" = none) (ha : DA X [e, e2] τ f) (hs : starEach [e, e2] X.env = (false, eval e X.env) :: starEach [e2] X.env := by rfl) (hpl : (backTo pos (starEach [e2] X.env)).any (·.1) = false := by rfl) :
    DI X (.Tuple elts kk tpos) (.Call (.Name "zip" p) [e, e2] [] pos) τ (iZp f) := pi_imp (RZ.pi_zipA hg hm ha hs hpl) fun σ H Q ⟨R, ρ, fs, ds, ρ', s, eq, q⟩ => by
  obtain ⟨w, e1, e2⟩ := bindO eq
  obtain ⟨w1, w2⟩ := w
  simp only at e2
  refine ⟨R, ρ, fs, _, _, s, e1, fun vs H' fs' t s' r => ?_⟩
  split at e2
  · cases e2
    cases r with
    | cons r1 rs =>
      cases rs with
      | cons r2 rs =>
        cases rs
        cases r1 with
        | lst h1 q1 =>
          cases r2 with
          | lst h2 q2 => exact ⟨_, _, _, _, rfl, .inl ⟨.of (hide_le _ _ _ _ h1), .of (hide_le _ _ _ _ h2), q _ H' fs' t s' (walks_zipL h1 h2 q1 q2)⟩⟩
  · cases e2
    cases r with
    | cons r1 rs =>
      cases rs with
      | cons r2 rs =>
        cases rs
        cases r1 with
        | tup h1 q1 =>
          cases r2 with
          | tup h2 q2 => exact ⟨_, _, _, _, rfl, .inr ⟨(hide_le _ _).seqT h1, (hide_le _ _).seqT h2, q _ H' fs' t s' (walks_zipT h1 h2 q1 q2)⟩⟩
  · cases e2
/-! ### methods -/
def isLst : D → Bool
  | .lst _ => true
  | _ => false
def eMtL (g : D → List D → Option D) (f : Ef) (a : Af) : Ef := fun ρ => (f ρ).bind fun p => if isLst (p.1.res p.2) then (a p.2).bind fun q => (g (p.1.res q.2) (q.1.map fun h => h.res q.2)).bind fun d => some (.v d, q.2) else none
/-- a built-in type's method: list T is seen as one -/
theorem de_mtL {r : V → List V → Hp → VK → Prop} {g : D → List D → Option D} {f : Ef} {a : Af} {name : Str} {id : String} {apos cpos : Pos} (slot : Slot "list" name id) (hty : typeOf (.builtin id) = pure (.type "method_descriptor")) (hm : MtR X id r) (o' : MtD X "list" r g)
    (ho : DE X o τ f) (ha : DA X (e :: es) τ a)
    (hbase : attributeBase o name X.env (eval o X.env) = eval o X.env := by rfl)
    (hfew : ((backTo cpos (starEach (e :: es) X.env)).all (fun x => !x.1) && (backToKw cpos (keywordEach [] X.env)).all (fun x => x.1.isSome)
      && decide ((e :: es).length + ([] : List Keyword).length + (if ([] : List Keyword).isEmpty then 0 else 1) < 30)) = true := by rfl)
    (hline : (apos.endLine == cpos.line) = true := by rfl) (hs : starEach (e :: es) X.env = (false, eval e X.env) :: starEach es X.env := by rfl) (hplain : (backTo cpos (starEach es X.env)).any (·.1) = false := by rfl) :
    DE X (.Call (.Attribute o name apos) (e :: es) [] cpos) τ (eMtL g f a) := pe_imp (pe_bm PySem.F.plainAttrs_list slot hty hm ho ha hbase hfew hline hs hplain) fun σ H Q ⟨R, ρ, fs, h, ρ', s, eq, q⟩ => by
  obtain ⟨w, e1, e2⟩ := bindO eq
  obtain ⟨hl, e2⟩ := ifSomeO e2
  obtain ⟨z, e3, e4⟩ := bindO e2
  obtain ⟨d, e5, e6⟩ := bindO e4
  cases e6
  refine ⟨R, ρ, fs, w.1, w.2, s, e1, fun v H1 fs1 t1 s1 r1 => ⟨?_, R, w.2, fs1, z.1, z.2, s1, e3, fun vs H2 fs2 t2 s2 r2 => ?_⟩⟩
  · have rv := s1.res r1
    revert rv hl
    generalize w.1.res w.2 = dd
    intro hl rv
    cases dd <;> first | (cases hl; done) | skip
    obtain ⟨a, vs, rfl, h1, _⟩ := rv.lst_inv
    exact .inl ⟨rfl, _, .of h1⟩
  · exact o' (R ++ fs2) H2 _ _ _ v vs Q s2.own (s2.res (s1.holdH t2 r1)) (s2.ress r2) e5 fun v4 H4 g4 rf => q v4 H4 fs2 ((t1.trans t2).trans (Step.grow g4 _)) (s2.grow g4) rf
def indexD : D → List D → Option D
  | .lst l, [d] => if pyOk 39 d && l.all (pyOk 39) then (l.findIdx? fun z => dq z d).map fun j => .int (j : Nat) else none
  | _, _ => none
theorem pys_get : ∀ {l : List D} {i : Nat}, (pys l)[i]? = (l[i]?).map py
  | [], i => by simp [pys]
  | a :: r, 0 => by simp [pys]
  | a :: r, i + 1 => by simpa [pys] using pys_get (l := r) (i := i)
theorem mtd_index : MtD X "list" (rIndexD X.K) indexD := fun S H d1 ds d v1 vs Q al r1 rs e q => by
  match d1, ds, rs, e with
  | .lst l, [x], rs, e =>
    obtain ⟨v, rfl, r2⟩ := rs.one
    obtain ⟨h, e⟩ := ifSomeO (show (if pyOk 39 x && l.all (pyOk 39) then (l.findIdx? fun z => dq z x).map fun j => D.int (j : Nat) else none) = some d from e)
    rw [Bool.and_eq_true] at h
    obtain ⟨j, e1, rfl⟩ := mapO e
    obtain ⟨hj, e2, e3⟩ := List.findIdx?_eq_some_iff_getElem.mp e1
    have r1' := r1.dpL h.2
    obtain ⟨a, ws, rfl, h1, q1⟩ := r1.lst_inv
    have hall : ∀ i (hi : i < l.length), pyOk 39 l[i] = true := fun i hi => List.all_eq_true.mp h.2 _ (List.getElem_mem hi)
    refine ⟨a, v, py x, pys l, j, py l[j], rfl, rfl, r1', r2.dp h.1, shaped_of (d := .lst l) h.2, shaped_of39 h.1, ?_, ?_, fun m z' hm hz => ?_, q _ H (Grow.refl H) (.int _)⟩
    · rw [pys_get, List.getElem?_eq_getElem hj]; rfl
    · rw [eqv_dq 39 _ _ (hall j hj) h.1]; exact e2
    · rw [pys_get, List.getElem?_eq_getElem (by omega)] at hz
      cases hz
      rw [eqv_dq 39 _ _ (hall m (by omega)) h.1]
      have := e3 m hm
      simpa using this
/-! ### isinstance(x, (list, tuple)) -/
def eIsLT (f : Ef) : Ef := fun ρ => (f ρ).bind fun p => (isB .list (p.1.res p.2)).bind fun k => (isB .tuple (p.1.res p.2)).bind fun k' => some (.v (.bl (k || k')), p.2)
theorem de_isLT {f : Ef} {x : Str} {p2 p3 pt : Pos} {kt : Nat} (hg : Gl X x) (hm : X.mg x = none) (hv : bootBuiltins x = some (.builtin "isinstance")) (hgl : Gl X "list") (hml : X.mg "list" = none) (hvl : bootBuiltins "list" = some (.type "list")) (hgt : Gl X "tuple") (hmt : X.mg "tuple" = none) (hvt : bootBuiltins "tuple" = some (.type "tuple")) (he : DE X e τ f) (hn : x ≠ "__name__" := by decide) (hdb : (x == ("__debug__" : Str)) = false := by decide)
    (hs : starEach [e, .Tuple [.Name "list" p2, .Name "tuple" p3] kt pt] X.env = (false, eval e X.env) :: starEach [.Tuple [.Name "list" p2, .Name "tuple" p3] kt pt] X.env := by rfl) (hpl : (backTo pos (starEach [Expr.Tuple [.Name "list" p2, .Name "tuple" p3] kt pt] X.env)).any (·.1) = false := by rfl) :
    DE X (.Call (.Name x p) [e, .Tuple [.Name "list" p2, .Name "tuple" p3] kt pt] [] pos) τ (eIsLT f) :=
  pe_imp (pe_callB call_isiT hg hm hv (pa_cons he (pa_cons (pe_tup (pa_cons (pe_bltn (v := .ty "list") hgl hml hvl rfl) (pa_cons (pe_bltn (v := .ty "tuple") hgt hmt hvt rfl) pa_nil rfl) rfl)) pa_nil rfl) hs) hn hdb hs hpl) fun σ H Q ⟨R, ρ, fs, h, ρ', s, e, q⟩ => by
  obtain ⟨w, e1, e2⟩ := bindO e
  obtain ⟨k, e3, e4⟩ := bindO e2
  obtain ⟨k', e5, e6⟩ := bindO e4
  cases e6
  refine ⟨R, ρ, fs, w.1, w.2, s, e1, fun v H1 fs1 t1 s1 r => ⟨by decide, fun tp htp => ?_⟩⟩
  have g := Grow.upd (o := .tup [V.ty "list", V.ty "tuple"]) htp
  refine ⟨v, tp, [.ty "list", .ty "tuple"], .type (tyNm (w.1.res w.2)), [.type "list", .type "tuple"], k || k', rfl, upd_same, .cons (.ty "list") (.cons (.ty "tuple") .nil), ?_, ?_, ?_⟩
  · exact ((s1.grow g).res ((s1.holdH (Step.grow g fs1) r))).tyx e3
  · refine kitAny_cons (b := k) (kit_isB e3) (fun hk => ?_) (fun hk => by rw [hk]; rfl)
    refine kitAny_cons (b := k') (kit_isB e5) (fun hk' => ?_) (fun hk' => by rw [hk']; simp)
    rw [hk, hk']
    exact kitAny_nil
  · exact q _ _ fs1 (t1.trans (Step.grow g _)) (s1.grow g) (.bl _)
end
/-! ### constants of the module -/
structure KC (K : PySem.W.Frag) (m : Str → Option Value) (x : Str) (d : D) where
  v : V
  u : Value
  mg : m x = some u
  rl : RelV v u
  rf : ∀ G, Rf K m G d v
/-! ### a list of lists: o[i][j] = e, the indices quiet -/
abbrev Qf := Rho → Option D
def tQ (X : Cx) (τ : List Ty) (f : Qf) : TE := fun σ H Q => ∃ R ρ fs d, SR X.K X.mg R τ ρ σ H fs ∧ f ρ = some d ∧ ∀ v H', Grow H H' → Rf X.K X.mg (hide (R ++ fs) H') d v → Q v H'
abbrev DQ (X : Cx) (e : Expr) (τ : List Ty) (f : Qf) : Prop := PE X e (tQ X τ f)
def qVar (i : Nat) : Qf := fun ρ => some (ρ.getD i .non)
def qInt (n : Int) : Qf := fun _ => some (.int n)
section
variable {X : Cx} {γ : Gm} {τ : List Ty} {e ok ei ej : Expr} {p pp pos : Pos}
theorem dq_var {e : Expr} (i : Nat) (h : PE X e (tVar i)) (ht : τ[i]? = some .sh := by rfl) : DQ X e τ (qVar i) := pe_imp h fun σ H Q ⟨R, ρ, fs, d, s, e, q⟩ => by
  cases e
  obtain ⟨v, f, ev, r, _⟩ := s.get ht (by intro z; cases z)
  cases r with
  | sh r => exact ⟨v, ev, q v H (Grow.refl H) r⟩
theorem dq_int {i j} {pos : Pos} : DQ X (.Constant (.int i) j pos) τ (qInt i) := pe_imp pe_int fun σ H Q ⟨R, ρ, fs, d, s, e, q⟩ => by
  cases e
  exact q _ H (Grow.refl H) (.int _)
theorem Rps.split {K : PySem.W.Frag} {mg : Str → Option Value} {H G : Hp} : ∀ {ts : List Ty} {ds : List D} {vs : List V} {f : List Addr} {i : Nat} {t : Ty}, Rps K mg H G ts ds vs f → ts[i]? = some t →
    ∃ d v f1 fo f2, ds[i]? = some d ∧ vs[i]? = some v ∧ f = f1 ++ fo ++ f2 ∧ Rp K mg H G t d v fo ∧
      ∀ {H' G' : Hp} {d' : D} {fo' : List Addr}, (∀ a ∈ f1 ++ f2, H' a = H a) → Le G G' → Rp K mg H' G' t d' v fo' → Rps K mg H' G' ts (ds.set i d') vs (f1 ++ fo' ++ f2)
  | _, _, _, _, _, _, .nil, e => by simp at e
  | _, _, _, _, 0, t, .cons (d := d) (v := v) (f := f0) (g := g) h r, e => by
    simp at e
    subst e
    refine ⟨d, v, [], f0, g, rfl, rfl, by simp, h, fun {H' G' d' fo'} k le h' => ?_⟩
    exact .cons h' (r.mono le fun a ha => k a (by simpa using ha))
  | _, _, _, _, i + 1, t, .cons (d := d0) (v := v0) (f := f0) (g := g) h r, e => by
    obtain ⟨d, v, f1, fo, f2, e1, e2, ef, hp, k⟩ := Rps.split (i := i) r (by simpa using e)
    refine ⟨d, v, f0 ++ f1, fo, f2, by simpa using e1, by simpa using e2, by rw [ef]; simp, hp, fun {H' G' d' fo'} kk le h' => ?_⟩
    have := Rps.cons (h.mono le fun a ha => kk a (by simp [ha])) (k (fun a ha => kk a (by simp at ha ⊢; rcases ha with h | h <;> simp [h])) le h')
    simpa using this
def sSetIx2 (i : Nat) (f : Ef) (fi fj : Qf) : Sf := fun ρ => (f ρ).bind fun p => (fi p.2).bind fun di => (fj p.2).bind fun dj => match p.1, di, dj, p.2.getD i .non with
  | .v d, .int k, .int m, .lst l => (ixN l.length k).bind fun j => (l[j]?).bind fun c => match c with
      | .lst r => (setL r m d).bind fun r' => some (.nx (p.2.set i (.lst (l.set j (.lst r')))))
      | _ => none
  | _, _, _, _ => none
theorem sSetIx2_inv {i : Nat} {f : Ef} {fi fj : Qf} {ρ : Rho} {o : Out} (e : sSetIx2 i f fi fj ρ = some o) : ∃ d ρ1 k m l j r j2, f ρ = some (.v d, ρ1) ∧ fi ρ1 = some (.int k) ∧ fj ρ1 = some (.int m) ∧ ρ1.getD i .non = .lst l ∧ ixN l.length k = some j ∧ l[j]? = some (.lst r) ∧ ixN r.length m = some j2 ∧ o = .nx (ρ1.set i (.lst (l.set j (.lst (r.set j2 d))))) := by
  obtain ⟨p, e1, e2⟩ := bindO e
  obtain ⟨di, e3, e4⟩ := bindO e2
  obtain ⟨dj, e5, e6⟩ := bindO e4
  obtain ⟨p1, p2⟩ := p
  cases p1 with
  | x i => cases e6
  | v d =>
    cases di <;> first | (cases e6; done) | skip
    cases dj <;> first | (cases e6; done) | skip
    rename_i k m
    simp only at e6 e3 e5
    cases hl : p2.getD i .non <;> rw [hl] at e6 <;> first | (cases e6; done) | skip
    rename_i l
    obtain ⟨j, e7, e8⟩ := bindO e6
    obtain ⟨c, e9, e10⟩ := bindO e8
    cases c <;> first | (cases e10; done) | skip
    rename_i r
    obtain ⟨r', e11, e12⟩ := bindO e10
    obtain ⟨j2, e13, e14⟩ := bindO e11
    cases e14
    cases e12
    exact ⟨d, p2, k, m, l, j, r, j2, e1, e3, e5, hl, e7, e9, e13, rfl⟩
theorem ds_setix2 {f : Ef} {fi fj : Qf} (i : Nat) (he : DE X e τ f) (ho : PE X ok (tVar i)) (hi : DQ X ei τ fi) (hj : DQ X ej τ fj) (ht : τ[i]? = some (.oL (.oL .sh)) := by rfl) (hpl : PlainIx ei := by exact fun _ _ => rfl)
    (ha : ∀ v, assign (.Subscript (.Subscript ok ei pp) ej p) X.env v = (do
      let ov ← holding [v] (eval (.Subscript ok ei pp) X.env)
      let iv ← holding [v, ov] (eval ej X.env)
      standAt p
      holding [v, ov, iv] (setItem ov iv v)
      release [v, ov, iv] []) := by intro _; rfl)
    (hs : swapsWithSole [.Subscript (.Subscript ok ei pp) ej p] e pos.line X.env = pure false := by rfl) (hw : swappedStores [.Subscript (.Subscript ok ei pp) ej p] e X.env = pure none := by rfl)
    (h1 : (assignEach [.Subscript (.Subscript ok ei pp) ej p] X.env).map (·.2) = [assign (.Subscript (.Subscript ok ei pp) ej p) X.env] := by rfl) :
    DS X γ (.Assign [.Subscript (.Subscript ok ei pp) ej p] e pos) τ (sSetIx2 i f fi fj) τ := ps_imp (ps_asg he (pg_sub (pe_ix ix_list ho hi hpl) hj set_list ha) hs hw h1) fun D σ H ⟨R, ρ, fs, out, s, e, q⟩ => by
  obtain ⟨d, ρ1, k, m, l, j, r, j2, e1, e3, e5, hl, e7, e9, e13, rfl⟩ := sSetIx2_inv e
  obtain ⟨v0, f0, ev0, r0, _⟩ := s.get ht (by intro z; cases z)
  refine ⟨R, ρ, fs, _, _, s, e1, fun v H1 fs1 t1 s1 rv => ⟨v0, ev0, R, ρ1, fs1, _, s1, e3, fun vi H2 g2 ri => ?_⟩⟩
  cases ri
  have s2 := s1.grow g2
  have rv2 : Rf X.K X.mg (hide (R ++ fs1) H2) d v := Rf.mono (hide_grow _ g2) rv
  obtain ⟨f1, fo, f2, ef, hos, _, _, h2', _⟩ := s2.sl.split ht
  rcases hos with ⟨z, _⟩ | ⟨v1, ev1, r1⟩
  · cases z
  rw [ev0] at ev1; cases ev1
  rw [hl] at r1
  cases r1 with
  | @oL t a vs ds g h rs =>
    have hjl : j < l.length := (List.getElem?_eq_some_iff.mp e9).1
    obtain ⟨dd, vb, g1, go, g2', ed, evb, eg, rb, mkb⟩ := rs.split (i := j) (t := .oL .sh) (by rw [List.getElem?_replicate, if_pos hjl])
    rw [e9] at ed; cases ed
    cases rb with
    | @oL t b ws ds' gg hb rbs =>
      obtain ⟨rfb, egg⟩ := rbs.to_sh
      subst egg
      refine ⟨a, vs, k, .ref b, rfl, rfl, .of h, ?_, R, ρ1, fs1, _, s2, e5, fun vj H3 g3 rj => ?_⟩
      · unfold atI
        rw [← rs.len, e7]
        exact evb
      cases rj
      have hb3 := g3 _ _ hb
      refine ⟨b, ws, m, j2, rfl, rfl, hb3, by rw [← rfb.length]; exact e13, ?_⟩
      have s3 := s2.grow g3
      have nd := s3.nd
      have hbfs : b ∈ fs1 := by rw [ef, eg]; simp
      have hab : a ≠ b := fun z => by
        rw [ef, eg] at nd
        simp only [List.nodup_append, List.nodup_cons, List.mem_append, List.mem_cons] at nd
        exact nd.2.1.1.2.1.1 (.inl (.inr (.inl z)))
      have le : Le (hide (R ++ fs1) H2) (hide (R ++ fs1) (upd H3 b (.lst (ws.set j2 v)))) := (hide_grow _ g3).trans (hide_mono fun c u n e => ⟨n, by rw [upd_ne fun z => n (by rw [z]; exact List.mem_append_right _ hbfs)]; exact e⟩)
      have keepF : ∀ c ∈ fs1, c ≠ b → upd H3 b (.lst (ws.set j2 v)) c = H2 c := fun c hc z => by
        obtain ⟨u, eu, _⟩ := s2.sl.there c hc
        rw [upd_ne z, eu]
        exact g3 _ _ eu
      have nin : ∀ c ∈ g1 ++ g2', c ≠ b := fun c hc z => by
        subst z
        rw [ef, eg] at nd
        simp only [List.nodup_append, List.nodup_cons, List.mem_append, List.mem_cons] at nd
        rcases List.mem_append.mp hc with hc | hc
        · exact nd.2.1.1.2.1.2.1.2.2 c hc c (.inl rfl) rfl
        · exact nd.2.1.1.2.1.2.2.2 c (.inr (.inl rfl)) c hc rfl
      have nin2 : ∀ c ∈ f1 ++ f2, c ≠ b := fun c hc z => by
        subst z
        rw [ef, eg] at nd
        simp only [List.nodup_append, List.nodup_cons, List.mem_append, List.mem_cons] at nd
        rcases List.mem_append.mp hc with hc | hc
        · exact nd.2.1.1.2.2 c hc c (.inr (.inl (.inr (.inl rfl)))) rfl
        · exact nd.2.1.2.2 c (.inr (.inr (.inl (.inr (.inl rfl))))) c hc rfl
      have rbn : Rp X.K X.mg (upd H3 b (.lst (ws.set j2 v))) (hide (R ++ fs1) (upd H3 b (.lst (ws.set j2 v)))) (.oL .sh) (.lst (r.set j2 d)) (.ref b) [b] := .oL upd_same (Rps.of_sh ((rfb.set j2 rv2).mono le))
      have rsn := mkb (fun c hc => keepF c (by rw [ef, eg]; simp only [List.mem_append, List.mem_cons] at hc ⊢; rcases hc with h | h <;> simp [h]) (nin c hc)) le rbn
      have ra : Rp X.K X.mg (upd H3 b (.lst (ws.set j2 v))) (hide (R ++ fs1) (upd H3 b (.lst (ws.set j2 v)))) (.oL (.oL .sh)) (.lst (l.set j (.lst (r.set j2 d)))) (.ref a) (a :: g) := by
        refine .oL (vs := vs) ?_ ?_
        · rw [upd_ne hab]; exact g3 _ _ h
        · rw [List.length_set, eg]; exact rsn
      have sl' := h2' (H' := upd H3 b (.lst (ws.set j2 v))) (fun c hc => keepF c (by rw [ef]; simp only [List.mem_append, List.mem_cons] at hc ⊢; rcases hc with h | h <;> simp [h]) (nin2 c hc)) le ev0 ra
      rw [set_at ht, ← ef] at sl'
      refine q σ _ fs1 (t1.trans ((Step.grow (g2.trans g3) fs1).trans ⟨fun c u n e => ?_, fun c hc => .inl hc, fun c u e => ?_⟩)) (Kp.refl _ _) ⟨sl', nd, fun c hc => ?_⟩
      · rw [upd_ne fun z => n (by rw [z]; exact hbfs)]; exact e
      · by_cases z : c = b
        · exact ⟨_, by rw [z, upd_same]⟩
        · exact ⟨u, by rw [upd_ne z]; exact e⟩
      · obtain ⟨u, eu, w⟩ := s3.al c hc
        exact ⟨u, by rw [upd_ne fun z => (List.nodup_append.mp nd).2.2 c hc b hbfs z]; exact eu, w⟩
end
end TL

namespace TL
open PySem PySem.Spec PyProof.Rows L2

def spL (K : PySem.W.Frag) : Sp := fun vs H Q _ => ∃ (a : Addr) (ns : List Int), vs = [.ref a] ∧ SqL K H a (ns.map V.int) ∧ ns.length ≤ 63 ∧ ∀ H', Q (.bl true) H'
theorem law_imp {K : PySem.W.Frag} {mg : Str → Option Value} {F : Fm} (h : lawF F) : ∀ vs H Q E, spL K vs H Q E → spD K mg sgL F vs H Q E := fun vs H Q E ⟨a, ns, ev, hS, hl, q⟩ => by
  subst ev
  obtain ⟨r, e⟩ := h ns hl
  refine ⟨[], [.scr ns], [], .bl true, r, ⟨.cons (f := []) (g := []) (.sh (.scr ?_)) .nil, List.nodup_nil, fun a ha => nomatch ha⟩, e, fun v H' fs' fv _ _ rp => ?_⟩
  · have eq : hide [] H = H := by funext a; simp [hide]
    rw [show ([] : List Addr) ++ [] = [] from rfl, eq]
    exact hS
  · cases rp with
    | sh rf => cases rf; exact q H'
theorem toL {P : Program} {w : World} {K : PySem.W.Frag} {mg : Str → Option Value} {fa : Addr} {k : Nat} {F : Fm} {B : FuncData → Prop} (h : lawF F)
    (x : ∃ fd : FuncData, B fd ∧ ∀ base : Heap, K.In base → base.Ns mainGlobals mg → FnOk P w K mg base CX0 k fa fd ["script"] (spD K mg sgL F)) :
    ∃ fd : FuncData, B fd ∧ ∀ base : Heap, K.In base → base.Ns mainGlobals mg → FnOk P w K mg base CX0 k fa fd ["script"] (spL K) := by
  obtain ⟨fd, b, f⟩ := x
  exact ⟨fd, b, fun base h1 h2 => (f base h1 h2).imp (law_imp h)⟩
theorem Cal.none {P : Program} {w : World} {K : PySem.W.Frag} {mg : Str → Option Value} {base : Heap} {f : Addr} {fd : FuncData} {x : Str} {st : Stmt} {k : Nat} {ps : List Str} {sg : Sg} (D : Dfn K mg x st ps f fd) : Cal P w K mg base f fd x k ps sg (fun _ => none) :=
  ⟨{ len := fun vs H Q E h => (by obtain ⟨_, _, _, _, _, _, e, _⟩ := h; cases e), run := fun A outer s H args us vs Q E _ _ _ _ h => (by obtain ⟨_, _, _, _, _, _, e, _⟩ := h; cases e) }, D.mg, D.fn.kp, D.bd, fun ds r e => by cases e⟩
end TL

namespace TL
open PySem PySem.Spec PyProof.Rows L2

section ev
variable (ρ : Rho) (f f' f'' : Ef) (t t' : Tf) (g : Af) (b b' : Sf) (o : Of)
@[simp] theorem v_eC (d : D) : eC d ρ = some (.v d, ρ) := rfl
@[simp] theorem v_eVar (i : Nat) : eVar i ρ = some (.v (ρ.getD i .non), ρ) := rfl
@[simp] theorem v_eOwn (i : Nat) : eOwn i ρ = some (.x i, ρ) := rfl
@[simp] theorem v_res (d : D) : Hd.res (.v d) ρ = d := rfl
@[simp] theorem x_res (i : Nat) : Hd.res (.x i) ρ = ρ.getD i .non := rfl
@[simp] theorem v_eBin (k : D → D → Option D) : eBin k f f' ρ = (f ρ).bind fun p => (f' p.2).bind fun q => (k (p.1.res q.2) (q.1.res q.2)).bind fun d => some (.v d, q.2) := rfl
@[simp] theorem v_eBinO (k : D → D → Option (List D)) : eBinO k f f' ρ = (f ρ).bind fun p => (f' p.2).bind fun q => (k (p.1.res q.2) (q.1.res q.2)).bind fun d => some (.lst d, q.2) := rfl
@[simp] theorem v_eF : eF o ρ = (o ρ).bind fun p => some (.v p.1, p.2) := rfl
@[simp] theorem v_tB : tB f ρ = (f ρ).bind fun p => (truthD (p.1.res p.2)).bind fun k => some (k, p.2) := rfl
def blOf (p : Hd × Rho) : Option (Bool × Rho) := match p.1 with
  | .v (.bl k) => some (k, p.2)
  | _ => none
@[simp] theorem v_blOf (k : Bool) : blOf (.v (.bl k), ρ) = some (k, ρ) := rfl
@[simp] theorem v_tBl : tBl f ρ = (f ρ).bind blOf := rfl
@[simp] theorem v_tAnd : tAnd' t t' ρ = (t ρ).bind fun p => if p.1 then t' p.2 else some (false, p.2) := rfl
@[simp] theorem v_tOr : tOr' t t' ρ = (t ρ).bind fun p => if p.1 then some (true, p.2) else t' p.2 := rfl
@[simp] theorem v_tNot : tNot' t ρ = (t ρ).bind fun p => some (!p.1, p.2) := rfl
@[simp] theorem v_tYes : tYesF ρ = some (true, ρ) := rfl
@[simp] theorem v_eAnd : eAnd f f' ρ = (f ρ).bind fun p => (truthD (p.1.res p.2)).bind fun k => if k then f' p.2 else some p := rfl
@[simp] theorem v_eOr : eOr f f' ρ = (f ρ).bind fun p => (truthD (p.1.res p.2)).bind fun k => if k then some p else f' p.2 := rfl
@[simp] theorem v_eNot : eNot f ρ = (f ρ).bind fun p => (truthD (p.1.res p.2)).bind fun k => some (.v (.bl (!k)), p.2) := rfl
@[simp] theorem v_eIf : eIf t f f' ρ = (t ρ).bind fun p => if p.1 then f p.2 else f' p.2 := rfl
def chain2 (k' : D → D → Option D) (q : Hd × Rho) (r : Ef) : D → Option (Hd × Rho)
  | .bl true => (r q.2).bind fun r => (k' (q.1.res r.2) (r.1.res r.2)).bind fun d' => some (.v d', r.2)
  | .bl false => some (.v (.bl false), q.2)
  | _ => none
@[simp] theorem v_chain2 (k' : D → D → Option D) (q : Hd × Rho) (r : Ef) (c : Bool) : chain2 k' q r (.bl c) = if c then (r q.2).bind fun r => (k' (q.1.res r.2) (r.1.res r.2)).bind fun d' => some (.v d', r.2) else some (.v (.bl false), q.2) := by
  cases c <;> rfl
@[simp] theorem v_eChain (k k' : D → D → Option D) : eChain k k' f f' f'' ρ = (f ρ).bind fun p => (f' p.2).bind fun q => (k (p.1.res q.2) (q.1.res q.2)).bind (chain2 k' q f'') := by
  unfold eChain
  congr 1
@[simp] theorem v_aNil : aNil ρ = some ([], ρ) := rfl
@[simp] theorem v_aCons : aCons f g ρ = (f ρ).bind fun p => (g p.2).bind fun q => some (p.1 :: q.1, q.2) := rfl
@[simp] theorem v_hv0 : hvals [] = some [] := rfl
@[simp] theorem v_hv1 (d : D) (r : List Hd) : hvals (.v d :: r) = (hvals r).bind fun ds => some (d :: ds) := rfl
@[simp] theorem v_eTup : eTup g ρ = (g ρ).bind fun p => (hvals p.1).bind fun ds => if okLen ds.length then some (.v (.tup ds), p.2) else none := rfl
@[simp] theorem v_oLst : oLst g ρ = (g ρ).bind fun p => (hvals p.1).bind fun ds => if okLen ds.length then some (.lst ds, p.2) else none := rfl
@[simp] theorem v_eUn (k : D → Option D) : eUn k f ρ = (f ρ).bind fun p => (k (p.1.res p.2)).bind fun d => some (.v d, p.2) := rfl
@[simp] theorem v_eCa (k : List D → Option D) : eCa k g ρ = (g ρ).bind fun p => (k (p.1.map fun h => h.res p.2)).bind fun d => some (.v d, p.2) := rfl
@[simp] theorem v_oCa (k : List D → Option (List D)) : oCa k g ρ = (g ρ).bind fun p => (k (p.1.map fun h => h.res p.2)).bind fun d => some (.lst d, p.2) := rfl
@[simp] theorem v_f1 (k : D → Option D) (d : D) : f1 k [d] = k d := rfl
@[simp] theorem v_f1L (k : D → Option (List D)) (d : D) : f1L k [d] = k d := rfl
@[simp] theorem v_f2 (k : D → D → Option D) (d e : D) : f2 k [d, e] = k d e := rfl
@[simp] theorem v_pNo : pNo ρ = some (none, ρ) := rfl
def ptOf (p : Hd × Rho) : Option (Option Int × Rho) := match p.1 with
  | .v (.int i) => some (some i, p.2)
  | _ => none
@[simp] theorem v_ptOf (i : Int) : ptOf (.v (.int i), ρ) = some (some i, ρ) := rfl
@[simp] theorem v_pSome : pSome f ρ = (f ρ).bind ptOf := rfl
@[simp] theorem v_eSl (k : D → Option Int → Option Int → Option D) (lo hi : Pf) : eSl k f lo hi ρ = (f ρ).bind fun p => (lo p.2).bind fun l => (hi l.2).bind fun h => (k (p.1.res h.2) l.1 h.1).bind fun d => some (.v d, h.2) := rfl
@[simp] theorem v_oSl (k : D → Option Int → Option Int → Option (List D)) (lo hi : Pf) : oSl k f lo hi ρ = (f ρ).bind fun p => (lo p.2).bind fun l => (hi l.2).bind fun h => (k (p.1.res h.2) l.1 h.1).bind fun d => some (.lst d, h.2) := rfl
@[simp] theorem v_eIsI (bt : Bt) : eIsI bt f ρ = (f ρ).bind fun p => (isB bt (p.1.res p.2)).bind fun k => some (.v (.bl k), p.2) := rfl
@[simp] theorem v_eIsLT : eIsLT f ρ = (f ρ).bind fun p => (isB .list (p.1.res p.2)).bind fun k => (isB .tuple (p.1.res p.2)).bind fun k' => some (.v (.bl (k || k')), p.2) := rfl
@[simp] theorem v_eMtL (k : D → List D → Option D) : eMtL k f g ρ = (f ρ).bind fun p => if isLst (p.1.res p.2) then (g p.2).bind fun q => (k (p.1.res q.2) (q.1.map fun h => h.res q.2)).bind fun d => some (.v d, q.2) else none := rfl
def oeOf (p : Hd × Rho) : Option (D × Rho) := match p.1 with
  | .v d => some (d, p.2)
  | _ => none
@[simp] theorem v_oeOf (d : D) : oeOf (.v d, ρ) = some (d, ρ) := rfl
@[simp] theorem v_oE : oE f ρ = (f ρ).bind oeOf := rfl
@[simp] theorem v_oCall (F : Fm) : oCall F g ρ = (g ρ).bind fun p => (hvals p.1).bind fun ds => (F ds).bind fun r => some (r.1, p.2) := rfl
@[simp] theorem v_oCallB (ty : Ty) (F : Fm) : oCallB ty F g ρ = (g ρ).bind fun p => (F (p.1.map fun h => h.res p.2)).bind fun r => if immR ty r.1 then some (r.1, p.2) else none := rfl
@[simp] theorem v_oCallI (F : Fm) (i j : Nat) : oCallI F i j g ρ = (g ρ).bind fun p => (hvI i p.1 j p.2).bind fun ds => (F ds).bind fun r => some (r.1, p.2.set i (r.2.getD j .non)) := rfl
@[simp] theorem v_hvI (i : Nat) (r : List Hd) : hvI i (.x i :: r) 0 ρ = (hvals r).bind fun ds => some (ρ.getD i .non :: ds) := by simp [hvI]
@[simp] theorem v_hvI1 (i j : Nat) (d : D) (r : List Hd) : hvI i (.v d :: r) (j + 1) ρ = (hvI i r j ρ).bind fun ds => some (d :: ds) := rfl
/-! statements -/
@[simp] theorem v_sNil : sNil ρ = some (.nx ρ) := rfl
def andThen (b : Sf) : Out → Option Out
  | .nx ρ => b ρ
  | o => some o
@[simp] theorem v_then_nx : andThen b (.nx ρ) = b ρ := rfl
@[simp] theorem v_then_rt (d : D) : andThen b (.rt d ρ) = some (.rt d ρ) := rfl
@[simp] theorem v_then_bk : andThen b (.bk ρ) = some (.bk ρ) := rfl
@[simp] theorem v_then_ct : andThen b (.ct ρ) = some (.ct ρ) := rfl
@[simp] theorem v_sSeq : sSeq b b' ρ = (b ρ).bind (andThen b') := by
  unfold sSeq
  congr 1
def thenKl (ks : List Nat) : Out → Option Out
  | .nx ρ => some (.nx (kill ks ρ))
  | o => some o
@[simp] theorem v_thenKl_nx (ks : List Nat) : thenKl ks (.nx ρ) = some (.nx (kill ks ρ)) := rfl
@[simp] theorem v_thenKl_rt (ks : List Nat) (d : D) : thenKl ks (.rt d ρ) = some (.rt d ρ) := rfl
@[simp] theorem v_thenKl_bk (ks : List Nat) : thenKl ks (.bk ρ) = some (.bk ρ) := rfl
@[simp] theorem v_thenKl_ct (ks : List Nat) : thenKl ks (.ct ρ) = some (.ct ρ) := rfl
@[simp] theorem v_sKl (ks : List Nat) : sKl ks b ρ = (b ρ).bind (thenKl ks) := by
  unfold sKl
  congr 1
@[simp] theorem v_sKb (ks : List Nat) : sKb ks b ρ = b (kill ks ρ) := rfl
@[simp] theorem v_sPass : sPass ρ = some (.nx ρ) := rfl
@[simp] theorem v_sBrk : sBrk ρ = some (.bk ρ) := rfl
@[simp] theorem v_sCont : sCont ρ = some (.ct ρ) := rfl
def rtOf (p : Hd × Rho) : Option Out := match p.1 with
  | .v d => some (.rt d p.2)
  | _ => none
@[simp] theorem v_rtOf (d : D) : rtOf (.v d, ρ) = some (.rt d ρ) := rfl
@[simp] theorem v_sRet : sRet f ρ = (f ρ).bind rtOf := rfl
@[simp] theorem v_sRetO : sRetO o ρ = (o ρ).bind fun p => some (.rt p.1 p.2) := rfl
@[simp] theorem v_sRetX (i : Nat) : sRetX i ρ = some (.rt (ρ.getD i .non) ρ) := rfl
@[simp] theorem v_sRetN : sRetN ρ = some (.rt .non ρ) := rfl
@[simp] theorem v_sIf : sIf t b b' ρ = (t ρ).bind fun p => if p.1 then b p.2 else b' p.2 := rfl
@[simp] theorem v_gNm (i : Nat) (d : D) : gNm i d ρ = some (ρ.set i d) := rfl
@[simp] theorem v_gsNil : gsNil [] ρ = some ρ := rfl
@[simp] theorem v_gsCons (k : Gf) (h : List D → Rho → Option Rho) (d : D) (r : List D) : gsCons k h (d :: r) ρ = (k d ρ).bind fun ρ' => h r ρ' := rfl
@[simp] theorem v_gTp (k : List D → Rho → Option Rho) (ds : List D) : gTp k (.tup ds) ρ = k ds ρ := rfl
def asgOf (k : Gf) (p : Hd × Rho) : Option Out := match p.1 with
  | .v d => (k d p.2).bind fun ρ' => some (.nx ρ')
  | _ => none
@[simp] theorem v_asgOf (k : Gf) (d : D) : asgOf k (.v d, ρ) = (k d ρ).bind fun ρ' => some (.nx ρ') := rfl
@[simp] theorem v_sAsg (k : Gf) : sAsg f k ρ = (f ρ).bind (asgOf k) := rfl
@[simp] theorem v_sSetO (i : Nat) : sSetO i o ρ = (o ρ).bind fun p => some (.nx (p.2.set i p.1)) := rfl
def appOf (i : Nat) (p : Hd × Rho) : Option Out := match p.1, p.2.getD i .non with
  | .v d, .lst l => if okLen (l.length + 1) then some (.nx (p.2.set i (.lst (l ++ [d])))) else none
  | _, _ => none
theorem v_appOf (i : Nat) (d : D) (l : List D) (h : ρ.getD i .non = .lst l) : appOf i (.v d, ρ) = if okLen (l.length + 1) then some (.nx (ρ.set i (.lst (l ++ [d])))) else none := by
  unfold appOf; simp only [h]
@[simp] theorem v_sApp (i : Nat) : sApp i f ρ = (f ρ).bind (appOf i) := rfl
def setIxOf (i : Nat) (fk : Ef) : Hd × Rho → Option Out := fun p => (fk p.2).bind fun q => match p.1, q.1, q.2.getD i .non with
  | .v d, .v (.int k), .lst l => (setL l k d).bind fun l' => some (.nx (q.2.set i (.lst l')))
  | _, _, _ => none
theorem v_setIxOf (i : Nat) (fk : Ef) (d : D) (k : Int) (ρ' : Rho) (l : List D) (h : fk ρ = some (.v (.int k), ρ')) (h' : ρ'.getD i .non = .lst l) : setIxOf i fk (.v d, ρ) = (setL l k d).bind fun l' => some (.nx (ρ'.set i (.lst l'))) := by
  unfold setIxOf; simp only [h, Option.bind_some, h']
@[simp] theorem v_sSetIx (i : Nat) (fk : Ef) : sSetIx i f fk ρ = (f ρ).bind (setIxOf i fk) := rfl
@[simp] theorem v_lNil : lNil ρ = some ([], ρ) := rfl
@[simp] theorem v_lCons (h : Lf) : lCons o h ρ = (o ρ).bind fun p => (h p.2).bind fun q => some (p.1 :: q.1, q.2) := rfl
def parOf (i j : Nat) : List D × Rho → Option Out
  | ([a, b], ρ) => some (.nx ((ρ.set i a).set j b))
  | _ => none
@[simp] theorem v_parOf (i j : Nat) (a b : D) : parOf i j ([a, b], ρ) = some (.nx ((ρ.set i a).set j b)) := rfl
@[simp] theorem v_sPar (i j : Nat) (h : Lf) : sPar i j h ρ = (h ρ).bind (parOf i j) := by
  unfold sPar
  congr 1; funext p; obtain ⟨p1, p2⟩ := p; unfold parOf; split <;> simp_all
def parOf3 (i j l : Nat) : List D × Rho → Option Out
  | ([a, b, c], ρ) => some (.nx (((ρ.set i a).set j b).set l c))
  | _ => none
@[simp] theorem v_parOf3 (i j l : Nat) (a b c : D) : parOf3 i j l ([a, b, c], ρ) = some (.nx (((ρ.set i a).set j b).set l c)) := rfl
@[simp] theorem v_sPar3 (i j l : Nat) (h : Lf) : sPar3 i j l h ρ = (h ρ).bind (parOf3 i j l) := by
  unfold sPar3
  congr 1; funext p; obtain ⟨p1, p2⟩ := p; unfold parOf3; split <;> simp_all
/-! walks -/
@[simp] theorem v_seqL (l : List D) : seqD (.v (.lst l)) = some l := rfl
@[simp] theorem v_seqT (l : List D) : seqD (.v (.tup l)) = some l := rfl
@[simp] theorem v_iSeq : iSeq f ρ = (f ρ).bind fun p => (seqD p.1).bind fun l => some (l, p.2) := rfl
def rng1Of : List Hd × Rho → Option (List D × Rho)
  | ([.v (.int j)], ρ) => if small62 j then some (intsD 0 j.toNat, ρ) else none
  | _ => none
@[simp] theorem v_rng1Of (j : Int) (h : small62 j = true) : rng1Of ([.v (.int j)], ρ) = some (intsD 0 j.toNat, ρ) := by
  simp only [rng1Of, h, if_true]
@[simp] theorem v_iRng1 : TL.iRng1 g ρ = (g ρ).bind rng1Of := by
  unfold TL.iRng1
  congr 1; funext p; obtain ⟨p1, p2⟩ := p; unfold rng1Of; split <;> simp_all
def rng2Of : List Hd × Rho → Option (List D × Rho)
  | ([.v (.int i), .v (.int j)], ρ) => if small62 i && small62 j then some (intsD i (j - i).toNat, ρ) else none
  | _ => none
@[simp] theorem v_rng2Of (i j : Int) (h : small62 i = true) (h' : small62 j = true) : rng2Of ([.v (.int i), .v (.int j)], ρ) = some (intsD i (j - i).toNat, ρ) := by
  simp only [rng2Of, h, h', Bool.and_self, if_true]
@[simp] theorem v_iRng2 : TL.iRng2 g ρ = (g ρ).bind rng2Of := by
  unfold TL.iRng2
  congr 1; funext p; obtain ⟨p1, p2⟩ := p; unfold rng2Of; split <;> simp_all
def zpOf : List Hd × Rho → Option (List D × Rho)
  | ([.v (.lst l), .v (.lst m)], ρ) => some (zipD l m, ρ)
  | ([.v (.tup l), .v (.tup m)], ρ) => some (zipD l m, ρ)
  | _ => none
@[simp] theorem v_zpL (l m : List D) : zpOf ([.v (.lst l), .v (.lst m)], ρ) = some (zipD l m, ρ) := rfl
@[simp] theorem v_zpT (l m : List D) : zpOf ([.v (.tup l), .v (.tup m)], ρ) = some (zipD l m, ρ) := rfl
@[simp] theorem v_iZp : iZp g ρ = (g ρ).bind zpOf := by
  unfold iZp
  congr 1; funext p; obtain ⟨p1, p2⟩ := p; unfold zpOf; split <;> simp_all
/-- one round of a loop -/
def stepB (k : Gf) (b : Sf) (d : D) (ρ : Rho) : Option Out := (k d ρ).bind b
@[simp] theorem v_stepB (k : Gf) (d : D) : stepB k b d ρ = (k d ρ).bind b := rfl
@[simp] theorem v_sFor (ks : List Nat) (it : Itf) (k : Gf) : sFor ks it k b ρ = (it ρ).bind fun p => loopF (stepB k b) ks p.1 (kill ks p.2) := rfl
@[simp] theorem v_stepLc (own : List Nat) (k : Gf) (el : Of) (d : D) : stepLc own k t el d ρ = (k d ρ).bind fun ρ1 => (t ρ1).bind fun p => if p.1 then (el p.2).bind fun q => some (some q.1, kill own q.2) else some (none, kill own p.2) := rfl
@[simp] theorem v_oLc (own : List Nat) (it : Itf) (k : Gf) (el : Of) : oLc own it k t el ρ = (it ρ).bind fun p => if okLen p.1.length then (lcF (stepLc own k t el) p.1 p.2).bind fun r => some (.lst r.1, r.2) else none := rfl
@[simp] theorem v_kill0 : kill [] ρ = ρ := rfl
@[simp] theorem v_kill1 (k : Nat) (ks : List Nat) : kill (k :: ks) ρ = kill ks (ρ.set k .non) := rfl
end ev

/-! ### values -/
@[simp] theorem d_add (i j : Int) : dAdd (.int i) (.int j) = some (.int (i + j)) := rfl
@[simp] theorem d_sub (i j : Int) : dSub (.int i) (.int j) = some (.int (i - j)) := rfl
@[simp] theorem d_lt (i j : Int) : dLt (.int i) (.int j) = some (.bl (decide (i < j))) := rfl
@[simp] theorem d_le (i j : Int) : dLe (.int i) (.int j) = some (.bl (decide (i ≤ j))) := rfl
@[simp] theorem d_gt (i j : Int) : dGt (.int i) (.int j) = some (.bl (decide (j < i))) := rfl
@[simp] theorem d_ge (i j : Int) : dGe (.int i) (.int j) = some (.bl (decide (j ≤ i))) := rfl
@[simp] theorem d_mod (i j : Int) : dMod (.int i) (.int j) = if decide (0 < j) then some (.int (i % j)) else none := rfl
@[simp] theorem d_div (i j : Int) : dDiv (.int i) (.int j) = if decide (0 < j) && sm j then some (.int (i / j)) else none := rfl
@[simp] theorem d_mul (i j : Int) : dMul (.int i) (.int j) = if sm i && sm j then some (.int (i * j)) else none := rfl
@[simp] theorem d_neg (i : Int) : dNeg (.int i) = some (.int (-i)) := rfl
@[simp] theorem d_is0 (a : D) : dIs a .non = some (.bl (isNonD a)) := by cases a <;> rfl
@[simp] theorem d_isb (a b : Bool) : dIs (.bl a) (.bl b) = some (.bl (decide (a = b))) := rfl
@[simp] theorem d_isNot0 (a : D) : dIsNot a .non = some (.bl (!isNonD a)) := by cases a <;> rfl
@[simp] theorem d_isNotb (a b : Bool) : dIsNot (.bl a) (.bl b) = some (.bl (!decide (a = b))) := rfl
@[simp] theorem d_nn : isNonD .non = true := rfl
@[simp] theorem d_ni (i : Int) : isNonD (.int i) = false := rfl
@[simp] theorem d_nb (i : Bool) : isNonD (.bl i) = false := rfl
@[simp] theorem d_ns (i : Str) : isNonD (.str i) = false := rfl
@[simp] theorem d_nt (i : List D) : isNonD (.tup i) = false := rfl
@[simp] theorem d_nl (i : List D) : isNonD (.lst i) = false := rfl
@[simp] theorem d_eqi (i j : Int) : dEq (.int i) (.int j) = some (.bl (i == j)) := rfl
@[simp] theorem d_nei (i j : Int) : dNe (.int i) (.int j) = some (.bl (!(i == j))) := rfl
@[simp] theorem d_eqb (i j : Bool) : dEq (.bl i) (.bl j) = some (.bl (i == j)) := rfl
@[simp] theorem d_neb (i j : Bool) : dNe (.bl i) (.bl j) = some (.bl (!(i == j))) := rfl
@[simp] theorem pyOk_n (n : Nat) : pyOk n .non = true := by cases n <;> rfl
@[simp] theorem pyOk_b (n : Nat) (b : Bool) : pyOk n (.bl b) = true := by cases n <;> rfl
@[simp] theorem pyOk_i (n : Nat) (b : Int) : pyOk n (.int b) = true := by cases n <;> rfl
@[simp] theorem pyOk_s (n : Nat) (b : Str) : pyOk n (.str b) = sOk b := by cases n <;> rfl
theorem d_eqs (s : Str) (h : sOk s = true) : dEq (.str s) (.str s) = some (.bl true) := by
  unfold dEq; rw [pyOk_s, h]; simp [dq]
@[simp] theorem d_tr_n : truthD .non = some false := rfl
@[simp] theorem d_tr_b (b : Bool) : truthD (.bl b) = some b := rfl
@[simp] theorem d_tr_i (i : Int) : truthD (.int i) = some (i != 0) := rfl
@[simp] theorem d_tr_t (l : List D) : truthD (.tup l) = some (!l.isEmpty) := rfl
@[simp] theorem d_tr_l (l : List D) : truthD (.lst l) = some (!l.isEmpty) := rfl
@[simp] theorem d_len_t (l : List D) : lenD (.tup l) = some (.int l.length) := rfl
@[simp] theorem d_len_l (l : List D) : lenD (.lst l) = some (.int l.length) := rfl
@[simp] theorem d_abs (i : Int) : absD (.int i) = some (.int (if i < 0 then -i else i)) := rfl
@[simp] theorem d_int (i : Int) : intD (.int i) = some (.int i) := rfl
@[simp] theorem d_intb (i : Bool) : intD (.bl i) = some (.int (if i then 1 else 0)) := rfl
@[simp] theorem d_max2 (i j : Int) : max2D (.int i) (.int j) = some (.int (if j > i then j else i)) := rfl
@[simp] theorem d_min2 (i j : Int) : min2D (.int i) (.int j) = some (.int (if j < i then j else i)) := rfl
@[simp] theorem d_tup_l (l : List D) : tupleD (.lst l) = some (.tup l) := rfl
@[simp] theorem d_tup_t (l : List D) : tupleD (.tup l) = some (.tup l) := rfl
@[simp] theorem d_lst_l (l : List D) : listD (.lst l) = some l := rfl
@[simp] theorem d_lst_t (l : List D) : listD (.tup l) = some l := rfl
@[simp] theorem d_lst_s (l : List Int) : listD (.scr l) = some (l.map D.int) := rfl
@[simp] theorem d_ix_l (l : List D) (i : Int) : dIx (.lst l) (.int i) = atI l i := rfl
@[simp] theorem d_ix_t (l : List D) (i : Int) : dIx (.tup l) (.int i) = atI l i := rfl
@[simp] theorem d_sl_t (l : List D) (lo hi : Option Int) : dSl (.tup l) lo hi = some (.tup (cutD l lo hi)) := rfl
@[simp] theorem d_sl_l (l : List D) (lo hi : Option Int) : dSl (.lst l) lo hi = some (.lst (cutD l lo hi)) := rfl
@[simp] theorem d_slL (l : List D) (lo hi : Option Int) : dSlL (.lst l) lo hi = some (cutD l lo hi) := rfl
@[simp] theorem d_addL (l m : List D) : dAddL (.lst l) (.lst m) = if okLen (l.length + m.length) then some (l ++ m) else none := rfl
@[simp] theorem d_add_l (l m : List D) : dAdd (.lst l) (.lst m) = if okLen (l.length + m.length) then some (.lst (l ++ m)) else none := rfl
@[simp] theorem d_add_t (l m : List D) : dAdd (.tup l) (.tup m) = if okLen (l.length + m.length) then some (.tup (l ++ m)) else none := rfl
@[simp] theorem d_isB_n (b : Bt) : isB b .non = some false := by cases b <;> rfl
@[simp] theorem d_isB_b (b : Bt) (x : Bool) : isB b (.bl x) = some (decide (b = .bool) || decide (b = .int)) := by cases b <;> rfl
@[simp] theorem d_isB_i (b : Bt) (x : Int) : isB b (.int x) = some (decide (b = .int)) := by cases b <;> rfl
@[simp] theorem d_isB_s (b : Bt) (x : Str) : isB b (.str x) = some (decide (b = .str)) := by cases b <;> rfl
@[simp] theorem d_isB_t (b : Bt) (x : List D) : isB b (.tup x) = some (decide (b = .tuple)) := by cases b <;> rfl
@[simp] theorem d_isB_l (b : Bt) (x : List D) : isB b (.lst x) = some (decide (b = .list)) := by cases b <;> rfl
theorem ix_nat {α : Type} (l : List α) (n : Nat) (h : n < l.length) : atI l (n : Int) = some l[n] := by
  unfold atI ixN; simp [h]
theorem ix_get {α : Type} (l : List α) (i : Int) (h0 : 0 ≤ i) (h : i < l.length) : atI l i = l[i.toNat]? := by
  unfold atI ixN; simp [h0, h]
@[simp] theorem ix_0 {α : Type} (a : α) (l : List α) : atI (a :: l) 0 = some a := by
  unfold atI ixN; simp
@[simp] theorem ix_1 {α : Type} (a b : α) (l : List α) : atI (a :: b :: l) 1 = some b := by
  unfold atI ixN; simp
  rw [if_pos (by omega)]; rfl
@[simp] theorem ix_2 {α : Type} (a b c : α) (l : List α) : atI (a :: b :: c :: l) 2 = some c := by
  unfold atI ixN; simp
  rw [if_pos (by omega)]; rfl
@[simp] theorem ix_3 {α : Type} (a b c d : α) (l : List α) : atI (a :: b :: c :: d :: l) 3 = some d := by
  unfold atI ixN; simp
  rw [if_pos (by omega)]; rfl
theorem s62_of {i : Int} (h : -1000000000000 ≤ i) (h' : i ≤ 1000000000000) : small62 i = true := by
  exact Nat.ble_eq_true_of_le (by omega)
theorem okLen_of {n : Nat} (h : n ≤ 16777216) : okLen n = true := by
  unfold okLen; simpa using h
theorem sm_of {i : Int} (h : -1000000000000000000 ≤ i) (h' : i ≤ 1000000000000000000) : sm i = true := by
  exact Nat.ble_eq_true_of_le (by omega)
@[simp] theorem intsD_len (lo : Int) (n : Nat) : (intsD lo n).length = n := by simp [intsD]

/-! ### calls -/
def fin (n : Nat) : Out → Option (D × List D)
  | .rt d ρ => some (d, ρ.take n)
  | .nx ρ => some (.non, ρ.take n)
  | _ => none
@[simp] theorem fin_rt (n : Nat) (d : D) (ρ : Rho) : fin n (.rt d ρ) = some (d, ρ.take n) := rfl
@[simp] theorem fin_nx (n : Nat) (ρ : Rho) : fin n (.nx ρ) = some (.non, ρ.take n) := rfl
theorem v_runF (b : Sf) (n m : Nat) (ds : List D) (h : ds.length = n) : runF b n m ds = (b (ds ++ List.replicate m .non)).bind (fin n) := by
  unfold runF; rw [if_pos h]
  congr 1
theorem v_run1 (b : Sf) (m : Nat) (a0 : D) : runF b 1 m [a0] = (b ([a0] ++ List.replicate m .non)).bind (fin 1) := v_runF _ _ _ _ rfl
theorem v_run2 (b : Sf) (m : Nat) (a0 b0 : D) : runF b 2 m [a0, b0] = (b ([a0, b0] ++ List.replicate m .non)).bind (fin 2) := v_runF _ _ _ _ rfl
theorem v_run3 (b : Sf) (m : Nat) (a0 b0 c0 : D) : runF b 3 m [a0, b0, c0] = (b ([a0, b0, c0] ++ List.replicate m .non)).bind (fin 3) := v_runF _ _ _ _ rfl
theorem v_run4 (b : Sf) (m : Nat) (a0 b0 c0 d0 : D) : runF b 4 m [a0, b0, c0, d0] = (b ([a0, b0, c0, d0] ++ List.replicate m .non)).bind (fin 4) := v_runF _ _ _ _ rfl
theorem v_run5 (b : Sf) (m : Nat) (a0 b0 c0 d0 e0 : D) : runF b 5 m [a0, b0, c0, d0, e0] = (b ([a0, b0, c0, d0, e0] ++ List.replicate m .non)).bind (fin 5) := v_runF _ _ _ _ rfl
theorem v_run6 (b : Sf) (m : Nat) (a0 b0 c0 d0 e0 f0 : D) : runF b 6 m [a0, b0, c0, d0, e0, f0] = (b ([a0, b0, c0, d0, e0, f0] ++ List.replicate m .non)).bind (fin 6) := v_runF _ _ _ _ rfl
theorem v_run7 (b : Sf) (m : Nat) (a0 b0 c0 d0 e0 f0 g0 : D) : runF b 7 m [a0, b0, c0, d0, e0, f0, g0] = (b ([a0, b0, c0, d0, e0, f0, g0] ++ List.replicate m .non)).bind (fin 7) := v_runF _ _ _ _ rfl
theorem v_run8 (b : Sf) (m : Nat) (a0 b0 c0 d0 e0 f0 g0 h0 : D) : runF b 8 m [a0, b0, c0, d0, e0, f0, g0, h0] = (b ([a0, b0, c0, d0, e0, f0, g0, h0] ++ List.replicate m .non)).bind (fin 8) := v_runF _ _ _ _ rfl

/-! ### loops -/
theorem loop_nil (b : D → Rho → Option Out) (ks : List Nat) (ρ : Rho) : loopF b ks [] ρ = some (.nx ρ) := rfl
theorem loop_nx {b : D → Rho → Option Out} {ks : List Nat} {d : D} {ds : List D} {ρ ρ' : Rho} (h : b d ρ = some (.nx ρ')) : loopF b ks (d :: ds) ρ = loopF b ks ds (kill ks ρ') := by
  show (b d ρ).bind _ = _
  rw [h]; rfl
theorem loop_rt {b : D → Rho → Option Out} {ks : List Nat} {d e : D} {ds : List D} {ρ ρ' : Rho} (h : b d ρ = some (.rt e ρ')) : loopF b ks (d :: ds) ρ = some (.rt e ρ') := by
  show (b d ρ).bind _ = _
  rw [h]; rfl
/-- what goes on behind a round -/
def nxOf (ks : List Nat) : Out → Option Rho
  | .nx ρ => some (kill ks ρ)
  | .ct ρ => some (kill ks ρ)
  | _ => none
@[simp] theorem v_nxOf (ks : List Nat) (ρ : Rho) : nxOf ks (.nx ρ) = some (kill ks ρ) := rfl
@[simp] theorem v_nxOfc (ks : List Nat) (ρ : Rho) : nxOf ks (.ct ρ) = some (kill ks ρ) := rfl
theorem loop_go {b : D → Rho → Option Out} {ks : List Nat} {d : D} {ds : List D} {ρ ρ' : Rho} (h : (b d ρ).bind (nxOf ks) = some ρ') : loopF b ks (d :: ds) ρ = loopF b ks ds ρ' := by
  show (b d ρ).bind _ = _
  cases e : b d ρ with
  | none => rw [e] at h; cases h
  | some o =>
    rw [e] at h
    cases o with
    | nx r => cases h; rfl
    | ct r => cases h; rfl
    | bk r => cases h
    | rt d r => cases h
/-- a loop that goes through: the state as a fold -/
theorem loop_fold {α σ : Type} {b : D → Rho → Option Out} {ks : List Nat} (emb : α → D) (st : σ → Rho) (f : σ → α → σ) (inv : σ → Prop) : ∀ (l : List α) (s : σ), inv s →
    (∀ a ∈ l, ∀ s, inv s → inv (f s a) ∧ (b (emb a) (st s)).bind (nxOf ks) = some (st (f s a))) → loopF b ks (l.map emb) (st s) = some (.nx (st (l.foldl f s)))
  | [], s, _, _ => rfl
  | a :: l, s, hi, h => by
    obtain ⟨i1, e1⟩ := h a (by simp) s hi
    rw [List.map_cons, loop_go e1]
    exact loop_fold emb st f inv l _ i1 fun a ha => h a (by simp [ha])
/-- .. with an invariant only -/
theorem loop_inv {α σ : Type} {b : D → Rho → Option Out} {ks : List Nat} (emb : α → D) (st : σ → Rho) (I : List α → σ → Prop) : ∀ (l pre : List α) (s : σ), I pre s →
    (∀ pre' a post, pre ++ l = pre' ++ a :: post → ∀ s, I pre' s → ∃ s', (b (emb a) (st s)).bind (nxOf ks) = some (st s') ∧ I (pre' ++ [a]) s') → ∃ s', loopF b ks (l.map emb) (st s) = some (.nx (st s')) ∧ I (pre ++ l) s'
  | [], pre, s, hi, _ => ⟨s, rfl, by simpa using hi⟩
  | a :: l, pre, s, hi, h => by
    obtain ⟨s', e1, i1⟩ := h pre a l rfl s hi
    obtain ⟨s2, e2, i2⟩ := loop_inv emb st I l (pre ++ [a]) _ i1 fun pre' a' post e => h pre' a' post (by simpa using e)
    exact ⟨s2, by rw [List.map_cons, loop_go e1, e2], by simpa using i2⟩
/-- a search -/
theorem loop_find {α : Type} {b : D → Rho → Option Out} {ks : List Nat} (emb : α → D) (ρ : Rho) (p : α → Bool) (res : α → D) (rr : α → Rho) : ∀ (l : List α),
    (∀ a ∈ l, if p a then b (emb a) ρ = some (.rt (res a) (rr a)) else (b (emb a) ρ).bind (nxOf ks) = some ρ) →
    loopF b ks (l.map emb) ρ = match l.find? p with | some a => some (.rt (res a) (rr a)) | none => some (.nx ρ)
  | [], _ => rfl
  | a :: l, h => by
    have h1 := h a (by simp)
    cases hp : p a with
    | true =>
      rw [hp, if_pos rfl] at h1
      rw [List.map_cons, loop_rt h1, List.find?_cons, hp]
    | false =>
      rw [hp, if_neg (by simp)] at h1
      rw [List.map_cons, loop_go h1, List.find?_cons, hp]
      exact loop_find emb ρ p res rr l fun a ha => h a (by simp [ha])
/-- comprehensions -/
theorem lc_map {α : Type} {step : D → Rho → Option (Option D × Rho)} (emb : α → D) (g : α → Option D) (ρ : Rho) : ∀ (l : List α), (∀ a ∈ l, step (emb a) ρ = some (g a, ρ)) → lcF step (l.map emb) ρ = some (l.filterMap g, ρ)
  | [], _ => rfl
  | a :: l, h => by
    show (step (emb a) ρ).bind _ = _
    rw [h a (by simp)]
    simp only [Option.bind_some]
    rw [lc_map emb g ρ l fun a ha => h a (by simp [ha])]
    simp only [Option.bind_some, List.filterMap_cons]
    cases g a <;> rfl
theorem lc_all {α : Type} {step : D → Rho → Option (Option D × Rho)} (emb : α → D) (g : α → D) (ρ : Rho) (l : List α) (h : ∀ a ∈ l, step (emb a) ρ = some (some (g a), ρ)) : lcF step (l.map emb) ρ = some (l.map g, ρ) := by
  rw [lc_map emb (fun a => some (g a)) ρ l h]
  simp
/-- .. with a state that changes -/
theorem lc_st {α σ : Type} {step : D → Rho → Option (Option D × Rho)} (emb : α → D) (st : σ → Rho) (inv : σ → Prop) (Q : α → D → Prop) : ∀ (l : List α) (s : σ), inv s →
    (∀ a ∈ l, ∀ s, inv s → ∃ d s', inv s' ∧ Q a d ∧ step (emb a) (st s) = some (some d, st s')) → ∃ (ds : List D) (s' : σ), inv s' ∧ ds.length = l.length ∧ (∀ (i : Nat) (a : α) (d : D), l[i]? = some a → ds[i]? = some d → Q a d) ∧ lcF step (l.map emb) (st s) = some (ds, st s')
  | [], s, hi, _ => ⟨[], s, hi, rfl, by simp, rfl⟩
  | a :: l, s, hi, h => by
    obtain ⟨d, s1, i1, q1, e1⟩ := h a (by simp) s hi
    obtain ⟨ds, s2, i2, hl, q2, e2⟩ := lc_st emb st inv Q l s1 i1 fun a ha => h a (by simp [ha])
    refine ⟨d :: ds, s2, i2, by simp [hl], fun i a' d' ha hd => ?_, ?_⟩
    · cases i with
      | zero => simp at ha hd; subst ha; subst hd; exact q1
      | succ i => simp at ha hd; exact q2 i a' d' ha hd
    · show (step (emb a) (st s)).bind _ = _
      rw [e1]
      simp only [Option.bind_some]
      rw [e2]; rfl
theorem loop_ext {α β : Type} {b : D → Rho → Option Out} {ks : List Nat} (emb : α → D) (st : List β → Rho) (g : α → List β) (M B : Nat) : ∀ (l : List α) (acc : List β),
    (∀ a ∈ l, (g a).length ≤ M) → acc.length + l.length * M ≤ B →
    (∀ a ∈ l, ∀ acc : List β, acc.length + M ≤ B → (b (emb a) (st acc)).bind (nxOf ks) = some (st (acc ++ g a))) → loopF b ks (l.map emb) (st acc) = some (.nx (st (acc ++ l.flatMap g)))
  | [], acc, _, _, _ => by simp [loop_nil]
  | a :: l, acc, hM, hB, h => by
    have hl : (a :: l).length * M = l.length * M + M := by simp [Nat.succ_mul]
    have e1 := h a (by simp) acc (by omega)
    have hg := hM a (by simp)
    rw [List.map_cons, loop_go e1, loop_ext emb st g M B l (acc ++ g a) (fun a ha => hM a (by simp [ha])) (by simp; omega) fun a ha => h a (by simp [ha])]
    simp
theorem len_flat {α β : Type} (g : α → List β) (M : Nat) : ∀ l : List α, (∀ a ∈ l, (g a).length ≤ M) → (l.flatMap g).length ≤ l.length * M
  | [], _ => by simp
  | a :: l, h => by
    have h1 := len_flat g M l fun a ha => h a (by simp [ha])
    have h2 := h a (by simp)
    simp only [List.flatMap_cons, List.length_append, List.length_cons, Nat.succ_mul]
    omega
theorem intsD0 (n : Nat) : intsD 0 n = (List.range n).map fun i : Nat => D.int (i : Int) := by
  unfold intsD; simp
theorem loopF_cons (b : D → Rho → Option Out) (ks : List Nat) (d : D) (ds : List D) (ρ : Rho) : loopF b ks (d :: ds) ρ = (b d ρ).bind fun o => match o with
    | .nx ρ' => loopF b ks ds (kill ks ρ')
    | .ct ρ' => loopF b ks ds (kill ks ρ')
    | .bk ρ' => some (.nx (kill ks ρ'))
    | .rt d ρ' => some (.rt d ρ') := rfl
theorem lcF_nil (b : D → Rho → Option (Option D × Rho)) (ρ : Rho) : lcF b [] ρ = some ([], ρ) := rfl
theorem lcF_cons (b : D → Rho → Option (Option D × Rho)) (d : D) (ds : List D) (ρ : Rho) : lcF b (d :: ds) ρ = (b d ρ).bind fun q => (lcF b ds q.2).bind fun w => some (q.1.toList ++ w.1, w.2) := rfl
end TL

namespace TL
open PySem PySem.Spec PyProof.Rows L2

def b__law_draw : Sf := (sRetO (oLst (aCons (eF (oCa (f1L listD) (aCons (eVar 0) aNil))) (aCons (eC (.int 0)) (aCons (eC (.int 0)) (aCons (eC (.int 17)) aNil))))))
def b__law_next : Sf := (sSeq (sIf (tBl (eBin dGt (eBin dIx (eOwn 0) (eC (.int 2))) (eC (.int 0)))) (sSeq (sAsg (eBin dMod (eCa (f1 intD) (aCons (eBin dIx (eOwn 0) (eC (.int 2))) aNil)) (eVar 1)) (gNm 2)) (sSeq (sSetIx 0 (eBin dDiv (eBin dIx (eOwn 0) (eC (.int 2))) (eVar 1)) (eC (.int 2))) (sRet (eVar 2)))) sNil) (sSeq (sIf (tBl (eBin dLt (eBin dIx (eOwn 0) (eC (.int 1))) (eCa (f1 lenD) (aCons (eBin dIx (eOwn 0) (eC (.int 0))) aNil)))) (sKl [3] (sSeq (sAsg (eCa (f1 absD) (aCons (eBin dIx (eBin dIx (eOwn 0) (eC (.int 0))) (eBin dIx (eOwn 0) (eC (.int 1)))) aNil)) (gNm 3)) (sSeq (sSetIx 0 (eBin dAdd (eBin dIx (eOwn 0) (eC (.int 1))) (eC (.int 1))) (eC (.int 1))) (sSeq (sIf (tBl (eBin dGe (eVar 3) (eBin dPow (eC (.int 10)) (eC (.int 18))))) (sSeq (sSetIx 0 (eBin dDiv (eVar 3) (eVar 1)) (eC (.int 2))) (sRet (eBin dMod (eCa (f1 intD) (aCons (eVar 3) aNil)) (eVar 1)))) sNil) (sSetIx 0 (eBin dMod (eCa (f1 intD) (aCons (eBin dAdd (eBin dAdd (eBin dMul (eBin dIx (eOwn 0) (eC (.int 3))) (eC (.int 48271))) (eVar 3)) (eC (.int 11))) aNil)) (eC (.int 2147483647))) (eC (.int 3))))))) (sSetIx 0 (eBin dMod (eCa (f1 intD) (aCons (eBin dAdd (eBin dMul (eBin dIx (eOwn 0) (eC (.int 3))) (eC (.int 48271))) (eC (.int 12345))) aNil)) (eC (.int 2147483647))) (eC (.int 3)))) (sRet (eBin dMod (eBin dDiv (eCa (f1 intD) (aCons (eBin dMod (eBin dMul (eBin dIx (eOwn 0) (eC (.int 3))) (eC (.int 69621))) (eC (.int 2147483629))) aNil)) (eC (.int 7))) (eVar 1)))))
def b__law_same (G__law_same : Fm) : Sf := (sSeq (sIf (tB (eIsLT (eVar 1))) (sSeq (sIf (tOr' (tBl (eBin dNe (eIsI .list (eVar 1)) (eIsI .list (eVar 0)))) (tBl (eBin dNe (eIsI .tuple (eVar 1)) (eIsI .tuple (eVar 0))))) (sRet (eC (.bl false))) sNil) (sSeq (sIf (tBl (eBin dNe (eCa (f1 lenD) (aCons (eVar 0) aNil)) (eCa (f1 lenD) (aCons (eVar 1) aNil)))) (sRet (eC (.bl false))) sNil) (sRet (eCa (f1 allD) (aCons (eF (oLc [2] (TL.iRng1 (aCons (eCa (f1 lenD) (aCons (eVar 1) aNil)) aNil)) (gNm 2) tYesF (oE (eF (oCall G__law_same (aCons (eBin dIx (eVar 0) (eVar 2)) (aCons (eBin dIx (eVar 1) (eVar 2)) aNil))))))) aNil))))) sNil) (sSeq (sIf (tBl (eBin dIs (eVar 1) (eC .non))) (sRet (eBin dIs (eVar 0) (eC .non))) sNil) (sSeq (sIf (tBl (eBin dNe (eIsI .bool (eVar 1)) (eIsI .bool (eVar 0)))) (sRet (eC (.bl false))) sNil) (sSeq (sIf (tB (eIsI .str (eVar 1))) (sRet (eAnd (eIsI .str (eVar 0)) (eBin dEq (eVar 0) (eVar 1)))) sNil) (sRet (eAnd (eIsI .int (eVar 0)) (eBin dEq (eVar 0) (eVar 1))))))))
/-! ### draws -/
structure Dr where
  pos : Int
  pend : Int
  seed : Int
def drD (ns : List Int) (s : Dr) : D := .lst [.lst (ns.map D.int), .int s.pos, .int s.pend, .int s.seed]
def Dr.ok (s : Dr) : Prop := 0 ≤ s.pos ∧ 0 ≤ s.seed ∧ s.seed < 2147483647
def Dr0 : Dr := ⟨0, 0, 17⟩
theorem Dr0.ok : Dr0.ok := by simp [Dr.ok, Dr0]
theorem draw_ok (ns : List Int) : runF b__law_draw 1 0 [.scr ns] = some (drD ns Dr0, [.scr ns]) := by
  simp [v_run1, b__law_draw, okLen, drD, Dr0]
theorem setL_1 (a b : D) (l : List D) (d : D) : setL (a :: b :: l) 1 d = some (a :: d :: l) := by
  unfold setL ixN; simp; rw [if_pos (by omega)]; rfl
theorem setL_2 (a b c : D) (l : List D) (d : D) : setL (a :: b :: c :: l) 2 d = some (a :: b :: d :: l) := by
  unfold setL ixN; simp; rw [if_pos (by omega)]; rfl
theorem setL_3 (a b c e : D) (l : List D) (d : D) : setL (a :: b :: c :: e :: l) 3 d = some (a :: b :: c :: d :: l) := by
  unfold setL ixN; simp; rw [if_pos (by omega)]; rfl
theorem next_ok (ns : List Int) (s : Dr) (h : s.ok) (m : Int) (h0 : 0 < m) (hm : m ≤ 1000000000000000000) : ∃ v s', s'.ok ∧ 0 ≤ v ∧ v < m ∧ runF b__law_next 2 2 [drD ns s, .int m] = some (.int v, [drD ns s', .int m]) := by
  obtain ⟨pos, pend, seed⟩ := s
  obtain ⟨k1, k2, k3⟩ := h
  simp only at k1 k2 k3
  have hsm : sm m = true := sm_of (by omega) (by omega)
  have fin7 : ∀ (z : Int), 0 ≤ z → z < 2147483647 → sm z = true := fun z a b => sm_of (by omega) (by omega)
  simp only [v_run2]
  unfold b__law_next
  by_cases hp : 0 < pend
  · refine ⟨pend % m, ⟨pos, pend / m, seed⟩, ⟨k1, k2, k3⟩, Int.emod_nonneg _ (by omega), Int.emod_lt_of_pos _ h0, ?_⟩
    simp [drD, hp, h0, hsm, setIxOf, setL_2]
  · by_cases hq : pos < ns.length
    · have e1 : atI (ns.map D.int) pos = some (.int (ns[pos.toNat]'(by omega))) := by
        rw [ix_get _ _ k1 (by simpa using hq)]
        simp [List.getElem?_eq_getElem (show pos.toNat < ns.length by omega)]
      generalize ns[pos.toNat]'(by omega) = c at e1
      have e2 : dPow (.int 10) (.int 18) = some (.int 1000000000000000000) := by kernel_rfl
      generalize hcell : (if c < 0 then -c else c) = cell
      have hc0 : 0 ≤ cell := by subst hcell; split <;> omega
      by_cases hb : 1000000000000000000 ≤ cell
      · refine ⟨cell % m, ⟨pos + 1, cell / m, seed⟩, ⟨by simp; omega, k2, k3⟩, Int.emod_nonneg _ (by omega), Int.emod_lt_of_pos _ h0, ?_⟩
        simp [drD, hp, hq, h0, hsm, setIxOf, setL_1, setL_2, e1, e2, hcell, hb]
      · have r1 := Int.emod_nonneg (seed * 48271 + cell + 11) (show (2147483647 : Int) ≠ 0 by omega)
        have r2 := Int.emod_lt_of_pos (seed * 48271 + cell + 11) (show (0 : Int) < 2147483647 by omega)
        generalize hr : (seed * 48271 + cell + 11) % 2147483647 = r at r1 r2
        refine ⟨r * 69621 % 2147483629 / 7 % m, ⟨pos + 1, pend, r⟩, ⟨by simp; omega, r1, r2⟩, Int.emod_nonneg _ (by omega), Int.emod_lt_of_pos _ h0, ?_⟩
        simp [drD, hp, hq, h0, hsm, setIxOf, setL_1, setL_3, e1, e2, hcell, hb, fin7 seed k2 k3, fin7 r r1 r2, sm_of (i := 48271) (by omega) (by omega), sm_of (i := 69621) (by omega) (by omega), sm_of (i := 7) (by omega) (by omega), hr]
    · have r1 := Int.emod_nonneg (seed * 48271 + 12345) (show (2147483647 : Int) ≠ 0 by omega)
      have r2 := Int.emod_lt_of_pos (seed * 48271 + 12345) (show (0 : Int) < 2147483647 by omega)
      generalize hr : (seed * 48271 + 12345) % 2147483647 = r at r1 r2
      refine ⟨r * 69621 % 2147483629 / 7 % m, ⟨pos, pend, r⟩, ⟨k1, r1, r2⟩, Int.emod_nonneg _ (by omega), Int.emod_lt_of_pos _ h0, ?_⟩
      simp [drD, hp, hq, h0, hsm, setIxOf, setL_3, fin7 seed k2 k3, fin7 r r1 r2, sm_of (i := 48271) (by omega) (by omega), sm_of (i := 69621) (by omega) (by omega), sm_of (i := 7) (by omega) (by omega), hr]
/-! ### the same -/
def R_same : Nat → Fm
  | 0 => fun _ => none
  | r + 1 => runF (b__law_same (R_same r)) 2 1
def okS (n : Nat) : Bool := Nat.ble n 10000
theorem okS_le {n : Nat} (h : okS n = true) : n ≤ 10000 := Nat.le_of_ble_eq_true h
theorem okS_of {n : Nat} (h : n ≤ 10000) : okS n = true := Nat.ble_eq_true_of_le h
def plain : Nat → D → Bool
  | _, .non => true
  | _, .bl _ => true
  | _, .int _ => true
  | _, .str s => sOk s
  | n + 1, .tup l => okS l.length && l.all (plain n)
  | n + 1, .lst l => okS l.length && l.all (plain n)
  | _, _ => false
mutual
theorem dq_self : ∀ (n : Nat) (d : D), plain n d = true → dq d d = true
  | n, .non, _ => rfl
  | n, .bl _, _ => by simp [dq]
  | n, .int _, _ => by simp [dq]
  | n, .str _, _ => by simp [dq]
  | n + 1, .tup l, h => by
    simp only [plain, Bool.and_eq_true, List.all_eq_true] at h
    simp only [dq]; exact dqs_self n l h.2
  | n + 1, .lst l, h => by
    simp only [plain, Bool.and_eq_true, List.all_eq_true] at h
    simp only [dq]; exact dqs_self n l h.2
  | 0, .tup _, h => by simp [plain] at h
  | 0, .lst _, h => by simp [plain] at h
  | n, .dct _, h => by cases n <;> simp [plain] at h
  | n, .set _, h => by cases n <;> simp [plain] at h
  | n, .obj _ _, h => by cases n <;> simp [plain] at h
  | n, .scr _, h => by cases n <;> simp [plain] at h
theorem dqs_self : ∀ (n : Nat) (l : List D), (∀ d ∈ l, plain n d = true) → dqs l l = true
  | n, [], _ => rfl
  | n, d :: l, h => by
    simp only [dqs, Bool.and_eq_true]
    exact ⟨dq_self n d (h d (by simp)), dqs_self n l fun d hd => h d (by simp [hd])⟩
end
theorem getBls_true (n : Nat) : getBls (List.replicate n (D.bl true)) = some (List.replicate n true) := by
  induction n with
  | zero => rfl
  | succ n ih => simp [List.replicate_succ, getBls, ih]
theorem same_ok : ∀ (n : Nat) (d : D), plain n d = true → R_same (n + 1) [d, d] = some (.bl true, [d, d]) := by
  intro n
  induction n with
  | zero =>
    intro d h
    show runF (b__law_same (R_same 0)) 2 1 [d, d] = _
    rw [v_run2]
    unfold b__law_same
    cases d <;> first | (cases h; done) | skip
    · simp
    · simp
    · simp
    · simp [d_eqs _ (show sOk _ = true from h)]
  | succ n ih =>
    intro d h
    show runF (b__law_same (R_same (n + 1))) 2 1 [d, d] = _
    rw [v_run2]
    unfold b__law_same
    have key : ∀ (l : List D), l.length ≤ 10000 → (∀ d ∈ l, plain n d = true) → ∀ (w : List D → D), (∀ m : List D, w m = .tup m ∨ w m = .lst m) →
        lcF (stepLc [2] (gNm 2) tYesF (oE (eF (oCall (R_same (n + 1)) (aCons (eBin dIx (eVar 0) (eVar 2)) (aCons (eBin dIx (eVar 1) (eVar 2)) aNil)))))) (intsD 0 l.length) [w l, w l, .non] = some (List.replicate l.length (.bl true), [w l, w l, .non]) := by
      intro l hl hp w hw
      unfold intsD
      rw [lc_all (fun i : Nat => D.int (0 + (i : Nat))) (fun _ => D.bl true)]
      · have : (List.range l.length).map (fun _ => D.bl true) = List.replicate l.length (D.bl true) := by
          rw [List.map_const', List.length_range]
        rw [this]
      · intro a ha
        have ha := List.mem_range.mp ha
        have e := ix_nat l a ha
        have e2 := ih l[a] (hp _ (List.getElem_mem ha))
        rcases hw l with e3 | e3 <;> simp [e3, e, e2]
    match d, h with
    | .non, _ => simp
    | .bl _, _ => simp
    | .int _, _ => simp
    | .str _, h => simp [d_eqs _ (show sOk _ = true from h)]
    | .dct _, h => simp [plain] at h
    | .set _, h => simp [plain] at h
    | .obj _ _, h => simp [plain] at h
    | .scr _, h => simp [plain] at h
    | .tup l, h =>
      simp only [plain, Bool.and_eq_true, List.all_eq_true] at h
      have h1 := okS_le h.1
      simp [s62_of (i := (l.length : Int)) (by omega) (by omega), okLen_of (n := l.length) (by omega), key l h1 h.2 D.tup (fun m => .inl rfl), allD, getBls_true]
    | .lst l, h =>
      simp only [plain, Bool.and_eq_true, List.all_eq_true] at h
      have h1 := okS_le h.1
      simp [s62_of (i := (l.length : Int)) (by omega) (by omega), okLen_of (n := l.length) (by omega), key l h1 h.2 D.lst (fun m => .inr rfl), allD, getBls_true]
end TL

namespace K52
open PySem PySem.Spec PyProof.Rows L2 TL
-- printed by gen.py from the linked text
def topS (i : Nat) : Stmt := PySem.Challenge.pw_farcall_k52_pictures_coarse_first.main.body.getD i (.Pass ⟨0, 0, 0, 0⟩)
def k_STEPS : D := (.tup [(.int 8), (.int 4), (.int 2), (.int 1)])
/-! ### is_integer(thing): slots 0 thing -/
abbrev s_is_integer : Stmt := topS 1
theorem sc_is_integer : FnScope ["thing"] ["thing"] (defScope s_is_integer) := ⟨rfl, rfl, rfl, by decide +kernel, rfl, by decide +kernel, by decide +kernel⟩
def b_is_integer : Sf := (sRet (eAnd (eIsI .int (eVar 0)) (eNot (eIsI .bool (eVar 0)))))
abbrev sg_is_integer : Sg := ⟨[.sh], .sh⟩
abbrev ps_is_integer : List Str := ["thing"]
theorem c_is_integer {P : Program} {w : World} {K : PySem.W.Frag} {mg : Str → Option Value} {base : Heap} {f : Addr} {fd : FuncData} {k : Nat} (D : Dfn K mg "is_integer" s_is_integer ps_is_integer f fd) (z_isinstance : mg "isinstance" = none) (z_int : mg "int" = none) (z_bool : mg "bool" = none) :
    Cal P w K mg base f fd "is_integer" (k + 1) ps_is_integer sg_is_integer (runF (b_is_integer) 1 0) := by
  unfold b_is_integer 
  exact cal_ok (sg := sg_is_integer) (τ' := [.no]) D sc_is_integer ⟨[], .sh, [.no], [], []⟩ 0 rfl rfl rfl rfl rfl rfl (.inl rfl) fun cdv A outer s H E hr => (dss_one (ds_ret (de_and (de_isI .int (by rfl) z_isinstance bt_isinstance (by rfl) z_int bt_int (de_var 0 (pv 0))) (de_one (de_not (de_isI .bool (by rfl) z_isinstance bt_isinstance (by rfl) z_bool bt_bool (de_var 0 (pv 0))))))))
/-! ### is_number(thing, least, most): slots 0 thing 1 least 2 most -/
abbrev s_is_number : Stmt := topS 2
theorem sc_is_number : FnScope ["thing", "least", "most"] ["thing", "least", "most"] (defScope s_is_number) := ⟨rfl, rfl, rfl, by decide +kernel, rfl, by decide +kernel, by decide +kernel⟩
def b_is_number (G_is_integer : Fm) : Sf := (sRet (eAnd (eF (oCall G_is_integer (aCons (eVar 0) aNil))) (eAnd (eBin dGe (eVar 0) (eVar 1)) (eOr (eBin dIs (eVar 2) (eC .non)) (eBin dLe (eVar 0) (eVar 2))))))
abbrev sg_is_number : Sg := ⟨[.sh, .sh, .sh], .sh⟩
abbrev ps_is_number : List Str := ["thing", "least", "most"]
theorem c_is_number {P : Program} {w : World} {K : PySem.W.Frag} {mg : Str → Option Value} {base : Heap} {f : Addr} {fd : FuncData} {k : Nat} {G_is_integer : Fm} (D : Dfn K mg "is_number" s_is_number ps_is_number f fd) {f_is_integer : Addr} {fd_is_integer : FuncData} (c_is_integer : Cal P w K mg base f_is_integer fd_is_integer "is_integer" k ps_is_integer sg_is_integer G_is_integer) :
    Cal P w K mg base f fd "is_number" (k + 1) ps_is_number sg_is_number (runF (b_is_number G_is_integer) 3 0) := by
  unfold b_is_number 
  exact cal_ok (sg := sg_is_number) (τ' := [.no, .no, .no]) D sc_is_number ⟨[], .sh, [.no, .no, .no], [], []⟩ 0 rfl rfl rfl rfl rfl rfl (.inl rfl) fun cdv A outer s H E hr => (dss_one (ds_ret (de_and (de_F (do_fn c_is_integer hr 1 (by rfl) (da_cons (de_var 0 (pv 0)) da_nil))) (de_and (de_cmp op_ge od_ge (de_var 0 (pv 0)) (de_var 1 (pv 1)) (nomark _)) (de_one (de_or (de_cmp op_isD od_is (de_var 2 (pv 2)) de_non (nomark _)) (de_one (de_cmp op_le od_le (de_var 0 (pv 0)) (de_var 2 (pv 2)) (nomark _)))))))))
/-! ### is_row(thing, least, most): slots 0 thing 1 least 2 most -/
abbrev s_is_row : Stmt := topS 3
theorem sc_is_row : FnScope ["thing", "least", "most"] ["thing", "least", "most"] (defScope s_is_row) := ⟨rfl, rfl, rfl, by decide +kernel, rfl, by decide +kernel, by decide +kernel⟩
def b_is_row : Sf := (sRet (eAnd (eIsI .tuple (eVar 0)) (eChain dLe dLe (eVar 1) (eCa (f1 lenD) (aCons (eVar 0) aNil)) (eVar 2))))
abbrev sg_is_row : Sg := ⟨[.sh, .sh, .sh], .sh⟩
abbrev ps_is_row : List Str := ["thing", "least", "most"]
theorem c_is_row {P : Program} {w : World} {K : PySem.W.Frag} {mg : Str → Option Value} {base : Heap} {f : Addr} {fd : FuncData} {k : Nat} (D : Dfn K mg "is_row" s_is_row ps_is_row f fd) (z_isinstance : mg "isinstance" = none) (z_tuple : mg "tuple" = none) (z_len : mg "len" = none) :
    Cal P w K mg base f fd "is_row" (k + 1) ps_is_row sg_is_row (runF (b_is_row) 3 0) := by
  unfold b_is_row 
  exact cal_ok (sg := sg_is_row) (τ' := [.no, .no, .no]) D sc_is_row ⟨[], .sh, [.no, .no, .no], [], []⟩ 0 rfl rfl rfl rfl rfl rfl (.inl rfl) fun cdv A outer s H E hr => (dss_one (ds_ret (de_and (de_isI .tuple (by rfl) z_isinstance bt_isinstance (by rfl) z_tuple bt_tuple (de_var 0 (pv 0))) (de_one (de_chain op_le od_le op_le od_le (de_var 1 (pv 1)) (de_callB call_len ca_len (by rfl) z_len bt_len (da_cons (de_var 0 (pv 0)) da_nil)) (de_var 2 (pv 2)))))))
/-! ### is_picture(thing): slots 0 thing 1 row 2 sign -/
abbrev s_is_picture : Stmt := topS 6
theorem sc_is_picture : FnScope ["thing", "row", "sign"] ["thing"] (defScope s_is_picture) := ⟨rfl, rfl, rfl, by decide +kernel, rfl, by decide +kernel, by decide +kernel⟩
def e1_is_picture (G_is_row : Fm) (G_is_number : Fm) : Of := (oE (eF (oCall G_is_number (aCons (eVar 2) (aCons (eC (.int 0)) (aCons (eC (.int 255)) aNil))))))
def q2_is_picture (G_is_row : Fm) (G_is_number : Fm) : Sf := (sIf (tOr' (tNot' (tB (eF (oCall G_is_row (aCons (eVar 1) (aCons (eBin dIx (eVar 0) (eC (.int 0))) (aCons (eBin dIx (eVar 0) (eC (.int 0))) aNil))))))) (tNot' (tB (eCa (f1 allD) (aCons (eF (oLc [2] (iSeq (eVar 1)) (gNm 2) tYesF (e1_is_picture G_is_row G_is_number))) aNil))))) (sRet (eC (.bl false))) sNil)
def b_is_picture (G_is_row : Fm) (G_is_number : Fm) : Sf := (sSeq (sIf (tOr' (tNot' (tB (eF (oCall G_is_row (aCons (eVar 0) (aCons (eC (.int 2)) (aCons (eC (.int 2)) aNil))))))) (tOr' (tNot' (tB (eF (oCall G_is_number (aCons (eBin dIx (eVar 0) (eC (.int 0))) (aCons (eC (.int 1)) (aCons (eC (.int 20)) aNil))))))) (tNot' (tB (eF (oCall G_is_row (aCons (eBin dIx (eVar 0) (eC (.int 1))) (aCons (eC (.int 0)) (aCons (eC (.int 20)) aNil))))))))) (sRet (eC (.bl false))) sNil) (sSeq (sFor [1] (iSeq (eBin dIx (eVar 0) (eC (.int 1)))) (gNm 1) (q2_is_picture G_is_row G_is_number)) (sRet (eC (.bl true)))))
abbrev sg_is_picture : Sg := ⟨[.sh], .sh⟩
abbrev ps_is_picture : List Str := ["thing"]
theorem c_is_picture {P : Program} {w : World} {K : PySem.W.Frag} {mg : Str → Option Value} {base : Heap} {f : Addr} {fd : FuncData} {k : Nat} {G_is_row : Fm} {G_is_number : Fm} (D : Dfn K mg "is_picture" s_is_picture ps_is_picture f fd) {f_is_row : Addr} {fd_is_row : FuncData} (c_is_row : Cal P w K mg base f_is_row fd_is_row "is_row" k ps_is_row sg_is_row G_is_row) {f_is_number : Addr} {fd_is_number : FuncData} (c_is_number : Cal P w K mg base f_is_number fd_is_number "is_number" k ps_is_number sg_is_number G_is_number) (z_all : mg "all" = none) :
    Cal P w K mg base f fd "is_picture" (k + 1) ps_is_picture sg_is_picture (runF (b_is_picture G_is_row G_is_number) 1 2) := by
  unfold b_is_picture q2_is_picture e1_is_picture
  exact cal_ok (sg := sg_is_picture) (τ' := [.no, .no, .no]) D sc_is_picture ⟨[], .sh, [.no, .no, .no], [], []⟩ 2 rfl rfl rfl rfl rfl rfl (.inl rfl) fun cdv A outer s H E hr => (dss_cons (ds_if (dt_w (dw_or (dt_not (dt_truth (de_F (do_fn c_is_row hr 3 (by rfl) (da_cons (de_var 0 (pv 0)) (da_cons de_int (da_cons de_int da_nil))))))) (dw_or (dt_not (dt_truth (de_F (do_fn c_is_number hr 3 (by rfl) (da_cons (de_ix ix_seq od_ix (de_var 0 (pv 0)) de_int (fun _ _ => rfl)) (da_cons de_int (da_cons de_int da_nil))))))) (dw_or1 (dt_not (dt_truth (de_F (do_fn c_is_row hr 3 (by rfl) (da_cons (de_ix ix_seq od_ix (de_var 0 (pv 0)) de_int (fun _ _ => rfl)) (da_cons de_int (da_cons de_int da_nil))))))))))) (dss_one (ds_ret de_bl)) dss_nil) (dss_cons (ds_for (tbk := [.sh, .no, .no]) (tct := [.sh, .no, .no]) [1] PassesOwn.never rfl (di_seq (de_ix ix_seq od_ix (de_var 0 (pv 0)) de_int (fun _ _ => rfl))) (dg_name 1 sc_is_picture.nd rfl (by first | exact .inl rfl | exact .inr rfl)) (dss_one (ds_if (dt_w (dw_or (dt_not (dt_truth (de_F (do_fn c_is_row hr 3 (by rfl) (da_cons (de_var 1 (pv 1)) (da_cons (de_ix ix_seq od_ix (de_var 0 (pv 0)) de_int (fun _ _ => rfl)) (da_cons (de_ix ix_seq od_ix (de_var 0 (pv 0)) de_int (fun _ _ => rfl)) da_nil))))))) (dw_or1 (dt_not (dt_truth (de_callB (cr_all rfl) ca_all (by rfl) z_all bt_all (da_cons (de_F (do_lc (own := [("sign", 2)]) rfl sc_is_picture.nd (di_seq (de_var 1 (pv 1))) (blkOk_by (by kernel_rfl)) (fun _ _ _ _ _ => (dg_name 2 sc_is_picture.nd rfl (by first | exact .inl rfl | exact .inr rfl))) (fun _ _ _ _ _ => dts_nil) (fun _ _ _ _ _ => (do_E (de_F (do_fn c_is_number hr 3 (by rfl) (da_cons (de_var 2 (pv 2)) (da_cons de_int (da_cons de_int da_nil))))))))) da_nil))))))) (dss_one (ds_ret de_bl)) dss_nil))) (dss_one (ds_ret de_bl))))
/-! ### steps_of_place(row, column): slots 0 row 1 column 2 step -/
abbrev s_steps_of_place : Stmt := topS 7
theorem sc_steps_of_place : FnScope ["row", "column", "step"] ["row", "column"] (defScope s_steps_of_place) := ⟨rfl, rfl, rfl, by decide +kernel, rfl, by decide +kernel, by decide +kernel⟩
def q1_steps_of_place : Sf := (sIf (tAnd' (tBl (eBin dEq (eBin dMod (eVar 0) (eVar 2)) (eC (.int 0)))) (tBl (eBin dEq (eBin dMod (eVar 1) (eVar 2)) (eC (.int 0))))) (sRet (eVar 2)) sNil)
def b_steps_of_place : Sf := (sSeq (sFor [2] (iSeq (eC k_STEPS)) (gNm 2) q1_steps_of_place) (sRet (eC (.int 1))))
abbrev sg_steps_of_place : Sg := ⟨[.sh, .sh], .sh⟩
abbrev ps_steps_of_place : List Str := ["row", "column"]
theorem c_steps_of_place {P : Program} {w : World} {K : PySem.W.Frag} {mg : Str → Option Value} {base : Heap} {f : Addr} {fd : FuncData} {k : Nat} (D : Dfn K mg "steps_of_place" s_steps_of_place ps_steps_of_place f fd) (c_STEPS : KC K mg "STEPS" k_STEPS) :
    Cal P w K mg base f fd "steps_of_place" (k + 1) ps_steps_of_place sg_steps_of_place (runF (b_steps_of_place) 2 1) := by
  unfold b_steps_of_place q1_steps_of_place
  exact cal_ok (sg := sg_steps_of_place) (τ' := [.no, .no, .no]) D sc_steps_of_place ⟨[], .sh, [.no, .no, .no], [], []⟩ 1 rfl rfl rfl rfl rfl rfl (.inl rfl) fun cdv A outer s H E hr => (dss_cons (ds_for (tbk := [.sh, .sh, .no]) (tct := [.sh, .sh, .no]) [2] PassesOwn.never rfl (di_seq (de_C (pe_glob (by rfl) c_STEPS.mg c_STEPS.rl) (fun G => c_STEPS.rf G))) (dg_name 2 sc_steps_of_place.nd rfl (by first | exact .inl rfl | exact .inr rfl)) (dss_one (ds_if (dt_w (dw_and (dt_cmp (op_eqD (hu64 hr)) od_eq (de_bin op_mod od_mod (de_var 0 (pv 0)) (de_var 2 (pv 2))) de_int (nomark _)) (dw_and1 (dt_cmp (op_eqD (hu64 hr)) od_eq (de_bin op_mod od_mod (de_var 1 (pv 1)) (de_var 2 (pv 2))) de_int (nomark _))))) (dss_one (ds_ret (de_var 2 (pv 2)))) dss_nil))) (dss_one (ds_ret de_int)))
/-! ### order_of_places(wide, tall): slots 0 wide 1 tall 2 found 3 step 4 row 5 column -/
abbrev s_order_of_places : Stmt := topS 8
theorem sc_order_of_places : FnScope ["wide", "tall", "found", "step", "row", "column"] ["wide", "tall"] (defScope s_order_of_places) := ⟨rfl, rfl, rfl, by decide +kernel, rfl, by decide +kernel, by decide +kernel⟩
def q1_order_of_places (G_steps_of_place : Fm) : Sf := (sIf (tBl (eBin dEq (eF (oCall G_steps_of_place (aCons (eVar 4) (aCons (eVar 5) aNil)))) (eVar 3))) (sApp 2 (eTup (aCons (eVar 4) (aCons (eVar 5) aNil)))) sNil)
def q2_order_of_places (G_steps_of_place : Fm) : Sf := (sFor [5] (TL.iRng1 (aCons (eVar 0) aNil)) (gNm 5) (q1_order_of_places G_steps_of_place))
def q3_order_of_places (G_steps_of_place : Fm) : Sf := (sFor [4, 5] (TL.iRng1 (aCons (eVar 1) aNil)) (gNm 4) (q2_order_of_places G_steps_of_place))
def b_order_of_places (G_steps_of_place : Fm) : Sf := (sSeq (sSetO 2 (oLst aNil)) (sSeq (sFor [3, 4, 5] (iSeq (eC k_STEPS)) (gNm 3) (q3_order_of_places G_steps_of_place)) (sRet (eCa (f1 tupleD) (aCons (eOwn 2) aNil)))))
abbrev sg_order_of_places : Sg := ⟨[.sh, .sh], .sh⟩
abbrev ps_order_of_places : List Str := ["wide", "tall"]
theorem c_order_of_places {P : Program} {w : World} {K : PySem.W.Frag} {mg : Str → Option Value} {base : Heap} {f : Addr} {fd : FuncData} {k : Nat} {G_steps_of_place : Fm} (D : Dfn K mg "order_of_places" s_order_of_places ps_order_of_places f fd) {f_steps_of_place : Addr} {fd_steps_of_place : FuncData} (c_steps_of_place : Cal P w K mg base f_steps_of_place fd_steps_of_place "steps_of_place" k ps_steps_of_place sg_steps_of_place G_steps_of_place) (z_range : mg "range" = none) (z_tuple : mg "tuple" = none) (c_STEPS : KC K mg "STEPS" k_STEPS) :
    Cal P w K mg base f fd "order_of_places" (k + 1) ps_order_of_places sg_order_of_places (runF (b_order_of_places G_steps_of_place) 2 4) := by
  unfold b_order_of_places q3_order_of_places q2_order_of_places q1_order_of_places
  exact cal_ok (sg := sg_order_of_places) (τ' := [.no, .no, .no, .no, .no, .no]) D sc_order_of_places ⟨[], .sh, [.no, .no, .no, .no, .no, .no], [], []⟩ 4 rfl rfl rfl rfl rfl rfl (.inl rfl) fun cdv A outer s H E hr => (dss_cons (ds_setO 2 sc_order_of_places.nd rfl (by first | exact .inl rfl | exact .inr rfl) (do_lst da_nil)) (dss_cons (ds_for (tbk := [.sh, .sh, (.oL .sh), .no, .no, .no]) (tct := [.sh, .sh, (.oL .sh), .no, .no, .no]) [3, 4, 5] PassesOwn.never rfl (di_seq (de_C (pe_glob (by rfl) c_STEPS.mg c_STEPS.rl) (fun G => c_STEPS.rf G))) (dg_name 3 sc_order_of_places.nd rfl (by first | exact .inl rfl | exact .inr rfl)) (dss_one (ds_for (tbk := [.sh, .sh, (.oL .sh), .sh, .no, .no]) (tct := [.sh, .sh, (.oL .sh), .sh, .no, .no]) [4, 5] PassesOwn.never rfl (di_range1 (by rfl) z_range (da_cons (de_var 1 (pv 1)) da_nil)) (dg_name 4 sc_order_of_places.nd rfl (by first | exact .inl rfl | exact .inr rfl)) (dss_one (ds_for (tbk := [.sh, .sh, (.oL .sh), .sh, .sh, .no]) (tct := [.sh, .sh, (.oL .sh), .sh, .sh, .no]) [5] PassesOwn.never rfl (di_range1 (by rfl) z_range (da_cons (de_var 0 (pv 0)) da_nil)) (dg_name 5 sc_order_of_places.nd rfl (by first | exact .inl rfl | exact .inr rfl)) (dss_one (ds_if (dt_cmp (op_eqD (hu64 hr)) od_eq (de_F (do_fn c_steps_of_place hr 2 (by rfl) (da_cons (de_var 4 (pv 4)) (da_cons (de_var 5 (pv 5)) da_nil)))) (de_var 3 (pv 3)) (nomark _)) (dss_one (ds_app 2 (pv 2) (de_tup (da_cons (de_var 4 (pv 4)) (da_cons (de_var 5 (pv 5)) da_nil))))) dss_nil))))))) (dss_one (ds_ret (de_callTy call_tuple_of ca_tuple (by rfl) z_tuple bt_tuple (da_cons (de_own 2 (pv 2)) da_nil))))))
/-! ### sent_signs(picture): slots 0 picture 1 wide 2 rows 3 row 4 column -/
abbrev s_sent_signs : Stmt := topS 9
theorem sc_sent_signs : FnScope ["picture", "wide", "rows", "row", "column"] ["picture"] (defScope s_sent_signs) := ⟨rfl, rfl, rfl, by decide +kernel, rfl, by decide +kernel, by decide +kernel⟩
def e1_sent_signs (G_order_of_places : Fm) : Of := (oE (eBin dIx (eBin dIx (eVar 2) (eVar 3)) (eVar 4)))
def b_sent_signs (G_order_of_places : Fm) : Sf := (sSeq (sAsg (eVar 0) (gTp (gsCons (gNm 1) (gsCons (gNm 2) gsNil)))) (sRet (eCa (f1 tupleD) (aCons (eF (oLc [3, 4] (iSeq (eF (oCall G_order_of_places (aCons (eVar 1) (aCons (eCa (f1 lenD) (aCons (eVar 2) aNil)) aNil))))) (gTp (gsCons (gNm 3) (gsCons (gNm 4) gsNil))) tYesF (e1_sent_signs G_order_of_places))) aNil))))
abbrev sg_sent_signs : Sg := ⟨[.sh], .sh⟩
abbrev ps_sent_signs : List Str := ["picture"]
theorem c_sent_signs {P : Program} {w : World} {K : PySem.W.Frag} {mg : Str → Option Value} {base : Heap} {f : Addr} {fd : FuncData} {k : Nat} {G_order_of_places : Fm} (D : Dfn K mg "sent_signs" s_sent_signs ps_sent_signs f fd) {f_order_of_places : Addr} {fd_order_of_places : FuncData} (c_order_of_places : Cal P w K mg base f_order_of_places fd_order_of_places "order_of_places" k ps_order_of_places sg_order_of_places G_order_of_places) (z_len : mg "len" = none) (z_tuple : mg "tuple" = none) :
    Cal P w K mg base f fd "sent_signs" (k + 1) ps_sent_signs sg_sent_signs (runF (b_sent_signs G_order_of_places) 1 4) := by
  unfold b_sent_signs e1_sent_signs
  exact cal_ok (sg := sg_sent_signs) (τ' := [.no, .no, .no, .no, .no]) D sc_sent_signs ⟨[], .sh, [.no, .no, .no, .no, .no], [], []⟩ 4 rfl rfl rfl rfl rfl rfl (.inl rfl) fun cdv A outer s H E hr => (dss_cons (ds_asg (de_var 0 (pv 0)) (dg_tup rfl (dgs_cons (dg_name 1 sc_sent_signs.nd rfl (by first | exact .inl rfl | exact .inr rfl)) (dgs_cons (dg_name 2 sc_sent_signs.nd rfl (by first | exact .inl rfl | exact .inr rfl)) dgs_nil)) (gsCons_len (gsCons_len gsNil_len)))) (dss_one (ds_ret (de_callTy call_tuple_of ca_tuple (by rfl) z_tuple bt_tuple (da_cons (de_F (do_lc (own := [("row", 3), ("column", 4)]) rfl sc_sent_signs.nd (di_seq (de_F (do_fn c_order_of_places hr 2 (by rfl) (da_cons (de_var 1 (pv 1)) (da_cons (de_callB call_len ca_len (by rfl) z_len bt_len (da_cons (de_var 2 (pv 2)) da_nil)) da_nil))))) (blkOk_by (by kernel_rfl)) (fun _ _ _ _ _ => (dg_tup rfl (dgs_cons (dg_name 3 sc_sent_signs.nd rfl (by first | exact .inl rfl | exact .inr rfl)) (dgs_cons (dg_name 4 sc_sent_signs.nd rfl (by first | exact .inl rfl | exact .inr rfl)) dgs_nil)) (gsCons_len (gsCons_len gsNil_len)))) (fun _ _ _ _ _ => dts_nil) (fun _ _ _ _ _ => (do_E (de_ix ix_seq od_ix (de_ix ix_seq od_ix (de_var 2 (pv 2)) (de_var 3 (pv 3)) (fun _ _ => rfl)) (de_var 4 (pv 4)) (fun _ _ => rfl)))))) da_nil)))))
/-! ### view(wide, tall, signs): slots 0 wide 1 tall 2 signs 3 rows 4 sign 5 step 6 below 7 _ 8 row 9 column 10 beside -/
abbrev s_view : Stmt := topS 10
theorem sc_view : FnScope ["wide", "tall", "signs", "rows", "sign", "step", "below", "_", "row", "column", "beside"] ["wide", "tall", "signs"] (defScope s_view) := ⟨rfl, rfl, rfl, by decide +kernel, rfl, by decide +kernel, by decide +kernel⟩
def e1_view (G_order_of_places : Fm) (G_steps_of_place : Fm) : Of := (eBinO dMulL (eF (oLst (aCons (eC .non) aNil))) (eVar 0))
def q2_view (G_order_of_places : Fm) (G_steps_of_place : Fm) : Sf := (sSetIx2 3 (eVar 4) (qVar 6) (qVar 10))
def q3_view (G_order_of_places : Fm) (G_steps_of_place : Fm) : Sf := (sFor [10] (TL.iRng2 (aCons (eVar 9) (aCons (eCa (f2 min2D) (aCons (eBin dAdd (eVar 9) (eVar 5)) (aCons (eVar 0) aNil))) aNil))) (gNm 10) (q2_view G_order_of_places G_steps_of_place))
def q4_view (G_order_of_places : Fm) (G_steps_of_place : Fm) : Sf := (sSeq (sAsg (eF (oCall G_steps_of_place (aCons (eVar 8) (aCons (eVar 9) aNil)))) (gNm 5)) (sFor [6, 10] (TL.iRng2 (aCons (eVar 8) (aCons (eCa (f2 min2D) (aCons (eBin dAdd (eVar 8) (eVar 5)) (aCons (eVar 1) aNil))) aNil))) (gNm 6) (q3_view G_order_of_places G_steps_of_place)))
def e5_view (G_order_of_places : Fm) (G_steps_of_place : Fm) : Of := (oE (eCa (f1 tupleD) (aCons (eVar 8) aNil)))
def b_view (G_order_of_places : Fm) (G_steps_of_place : Fm) : Sf := (sSeq (sSetO 3 (oLc [7] (TL.iRng1 (aCons (eVar 1) aNil)) (gNm 7) tYesF (e1_view G_order_of_places G_steps_of_place))) (sSeq (sFor [4, 5, 6, 8, 9, 10] (iZp (aCons (eF (oCall G_order_of_places (aCons (eVar 0) (aCons (eVar 1) aNil)))) (aCons (eVar 2) aNil))) (gTp (gsCons (gTp (gsCons (gNm 8) (gsCons (gNm 9) gsNil))) (gsCons (gNm 4) gsNil))) (q4_view G_order_of_places G_steps_of_place)) (sRet (eCa (f1 tupleD) (aCons (eF (oLc [8] (iSeq (eVar 3)) (gNm 8) tYesF (e5_view G_order_of_places G_steps_of_place))) aNil)))))
abbrev sg_view : Sg := ⟨[.sh, .sh, .sh], .sh⟩
abbrev ps_view : List Str := ["wide", "tall", "signs"]
theorem c_view {P : Program} {w : World} {K : PySem.W.Frag} {mg : Str → Option Value} {base : Heap} {f : Addr} {fd : FuncData} {k : Nat} {G_order_of_places : Fm} {G_steps_of_place : Fm} (D : Dfn K mg "view" s_view ps_view f fd) {f_order_of_places : Addr} {fd_order_of_places : FuncData} (c_order_of_places : Cal P w K mg base f_order_of_places fd_order_of_places "order_of_places" k ps_order_of_places sg_order_of_places G_order_of_places) {f_steps_of_place : Addr} {fd_steps_of_place : FuncData} (c_steps_of_place : Cal P w K mg base f_steps_of_place fd_steps_of_place "steps_of_place" k ps_steps_of_place sg_steps_of_place G_steps_of_place) (z_range : mg "range" = none) (z_zip : mg "zip" = none) (z_min : mg "min" = none) (z_tuple : mg "tuple" = none) :
    Cal P w K mg base f fd "view" (k + 1) ps_view sg_view (runF (b_view G_order_of_places G_steps_of_place) 3 8) := by
  unfold b_view e5_view q4_view q3_view q2_view e1_view
  exact cal_ok (sg := sg_view) (τ' := [.no, .no, .no, .no, .no, .no, .no, .no, .no, .no, .no]) D sc_view ⟨[], .sh, [.no, .no, .no, .no, .no, .no, .no, .no, .no, .no, .no], [], []⟩ 8 rfl rfl rfl rfl rfl rfl (.inl rfl) fun cdv A outer s H E hr => (dss_cons (by first | exact (ds_setLc (own := [("_", 7)]) 3 rfl sc_view.nd rfl rfl rfl (di_range1 (by rfl) z_range (da_cons (de_var 1 (pv 1)) da_nil)) (blkOk_by (by kernel_rfl)) (fun _ _ _ _ _ => (dg_name 7 sc_view.nd rfl (by first | exact .inl rfl | exact .inr rfl))) (fun _ _ _ _ _ => dts_nil) (fun _ _ _ _ _ => (do_bin op_rep oo_mul (de_F (do_lst (da_cons de_non da_nil))) (de_var 0 (pv 0))))) | exact (ds_setO 3 sc_view.nd rfl (by first | exact .inl rfl | exact .inr rfl) (do_lc (own := [("_", 7)]) rfl sc_view.nd (di_range1 (by rfl) z_range (da_cons (de_var 1 (pv 1)) da_nil)) (blkOk_by (by kernel_rfl)) (fun _ _ _ _ _ => (dg_name 7 sc_view.nd rfl (by first | exact .inl rfl | exact .inr rfl))) (fun _ _ _ _ _ => dts_nil) (fun _ _ _ _ _ => (do_bin op_rep oo_mul (de_F (do_lst (da_cons de_non da_nil))) (de_var 0 (pv 0))))))) (dss_cons (ds_for (tbk := [.sh, .sh, .sh, (.oL (.oL .sh)), .no, .no, .no, .no, .no, .no, .no]) (tct := [.sh, .sh, .sh, (.oL (.oL .sh)), .no, .no, .no, .no, .no, .no, .no]) [4, 5, 6, 8, 9, 10] PassesOwn.never rfl (di_zip (by rfl) z_zip (da_cons (de_F (do_fn c_order_of_places hr 2 (by rfl) (da_cons (de_var 0 (pv 0)) (da_cons (de_var 1 (pv 1)) da_nil)))) (da_cons (de_var 2 (pv 2)) da_nil))) (dg_tup rfl (dgs_cons (dg_tup rfl (dgs_cons (dg_name 8 sc_view.nd rfl (by first | exact .inl rfl | exact .inr rfl)) (dgs_cons (dg_name 9 sc_view.nd rfl (by first | exact .inl rfl | exact .inr rfl)) dgs_nil)) (gsCons_len (gsCons_len gsNil_len))) (dgs_cons (dg_name 4 sc_view.nd rfl (by first | exact .inl rfl | exact .inr rfl)) dgs_nil)) (gsCons_len (gsCons_len gsNil_len))) (dss_cons (ds_set 5 sc_view.nd rfl (by first | exact .inl rfl | exact .inr rfl) (de_F (do_fn c_steps_of_place hr 2 (by rfl) (da_cons (de_var 8 (pv 8)) (da_cons (de_var 9 (pv 9)) da_nil))))) (dss_one (ds_for (tbk := [.sh, .sh, .sh, (.oL (.oL .sh)), .sh, .sh, .no, .no, .sh, .sh, .no]) (tct := [.sh, .sh, .sh, (.oL (.oL .sh)), .sh, .sh, .no, .no, .sh, .sh, .no]) [6, 10] PassesOwn.never rfl (di_range2 (by rfl) z_range (da_cons (de_var 8 (pv 8)) (da_cons (de_callB (call_min2 rfl) ca_min2 (by rfl) z_min bt_min (da_cons (de_bin op_addD od_add (de_var 8 (pv 8)) (de_var 5 (pv 5))) (da_cons (de_var 1 (pv 1)) da_nil))) da_nil))) (dg_name 6 sc_view.nd rfl (by first | exact .inl rfl | exact .inr rfl)) (dss_one (ds_for (tbk := [.sh, .sh, .sh, (.oL (.oL .sh)), .sh, .sh, .sh, .no, .sh, .sh, .no]) (tct := [.sh, .sh, .sh, (.oL (.oL .sh)), .sh, .sh, .sh, .no, .sh, .sh, .no]) [10] PassesOwn.never rfl (di_range2 (by rfl) z_range (da_cons (de_var 9 (pv 9)) (da_cons (de_callB (call_min2 rfl) ca_min2 (by rfl) z_min bt_min (da_cons (de_bin op_addD od_add (de_var 9 (pv 9)) (de_var 5 (pv 5))) (da_cons (de_var 0 (pv 0)) da_nil))) da_nil))) (dg_name 10 sc_view.nd rfl (by first | exact .inl rfl | exact .inr rfl)) (dss_one (ds_setix2 3 (de_var 4 (pv 4)) (pv 3) (dq_var 6 (pv 6)) (dq_var 10 (pv 10)))))))))) (dss_frz 3 (dss_one (ds_ret (de_callTy call_tuple_of ca_tuple (by rfl) z_tuple bt_tuple (da_cons (de_F (do_lc (own := [("row", 8)]) rfl sc_view.nd (di_seq (de_var 3 (pv 3))) (blkOk_by (by kernel_rfl)) (fun _ _ _ _ _ => (dg_name 8 sc_view.nd rfl (by first | exact .inl rfl | exact .inr rfl))) (fun _ _ _ _ _ => dts_nil) (fun _ _ _ _ _ => (do_E (de_callTy call_tuple_of ca_tuple (by rfl) z_tuple bt_tuple (da_cons (de_var 8 (pv 8)) da_nil)))))) da_nil)))))))
/-! ### whole_picture(wide, tall, signs): slots 0 wide 1 tall 2 signs -/
abbrev s_whole_picture : Stmt := topS 11
theorem sc_whole_picture : FnScope ["wide", "tall", "signs"] ["wide", "tall", "signs"] (defScope s_whole_picture) := ⟨rfl, rfl, rfl, by decide +kernel, rfl, by decide +kernel, by decide +kernel⟩
def b_whole_picture (G_view : Fm) : Sf := (sRet (eTup (aCons (eVar 0) (aCons (eF (oCall G_view (aCons (eVar 0) (aCons (eVar 1) (aCons (eVar 2) aNil))))) aNil))))
abbrev sg_whole_picture : Sg := ⟨[.sh, .sh, .sh], .sh⟩
abbrev ps_whole_picture : List Str := ["wide", "tall", "signs"]
theorem c_whole_picture {P : Program} {w : World} {K : PySem.W.Frag} {mg : Str → Option Value} {base : Heap} {f : Addr} {fd : FuncData} {k : Nat} {G_view : Fm} (D : Dfn K mg "whole_picture" s_whole_picture ps_whole_picture f fd) {f_view : Addr} {fd_view : FuncData} (c_view : Cal P w K mg base f_view fd_view "view" k ps_view sg_view G_view) :
    Cal P w K mg base f fd "whole_picture" (k + 1) ps_whole_picture sg_whole_picture (runF (b_whole_picture G_view) 3 0) := by
  unfold b_whole_picture 
  exact cal_ok (sg := sg_whole_picture) (τ' := [.no, .no, .no]) D sc_whole_picture ⟨[], .sh, [.no, .no, .no], [], []⟩ 0 rfl rfl rfl rfl rfl rfl (.inl rfl) fun cdv A outer s H E hr => (dss_one (ds_ret (de_tup (da_cons (de_var 0 (pv 0)) (da_cons (de_F (do_fn c_view hr 3 (by rfl) (da_cons (de_var 0 (pv 0)) (da_cons (de_var 1 (pv 1)) (da_cons (de_var 2 (pv 2)) da_nil))))) da_nil)))))
/-! ### alike(rows, others): slots 0 rows 1 others 2 found 3 row 4 other 5 sign 6 more -/
abbrev s_alike : Stmt := topS 12
theorem sc_alike : FnScope ["rows", "others", "found", "row", "other", "sign", "more"] ["rows", "others"] (defScope s_alike) := ⟨rfl, rfl, rfl, by decide +kernel, rfl, by decide +kernel, by decide +kernel⟩
def t1_alike : Tf := (tBl (eBin dEq (eVar 5) (eVar 6)))
def e2_alike : Of := (oE (eC (.int 1)))
def q3_alike : Sf := (sAsg (eBin dAdd (eVar 2) (eCa (f1 lenD) (aCons (eF (oLc [5, 6] (iZp (aCons (eVar 3) (aCons (eVar 4) aNil))) (gTp (gsCons (gNm 5) (gsCons (gNm 6) gsNil))) t1_alike e2_alike)) aNil))) (gNm 2))
def b_alike : Sf := (sSeq (sAsg (eC (.int 0)) (gNm 2)) (sSeq (sFor [3, 4] (iZp (aCons (eVar 0) (aCons (eVar 1) aNil))) (gTp (gsCons (gNm 3) (gsCons (gNm 4) gsNil))) q3_alike) (sRet (eVar 2))))
abbrev sg_alike : Sg := ⟨[.sh, .sh], .sh⟩
abbrev ps_alike : List Str := ["rows", "others"]
theorem c_alike {P : Program} {w : World} {K : PySem.W.Frag} {mg : Str → Option Value} {base : Heap} {f : Addr} {fd : FuncData} {k : Nat} (D : Dfn K mg "alike" s_alike ps_alike f fd) (z_zip : mg "zip" = none) (z_len : mg "len" = none) :
    Cal P w K mg base f fd "alike" (k + 1) ps_alike sg_alike (runF (b_alike) 2 5) := by
  unfold b_alike q3_alike e2_alike t1_alike
  exact cal_ok (sg := sg_alike) (τ' := [.no, .no, .no, .no, .no, .no, .no]) D sc_alike ⟨[], .sh, [.no, .no, .no, .no, .no, .no, .no], [], []⟩ 5 rfl rfl rfl rfl rfl rfl (.inl rfl) fun cdv A outer s H E hr => (dss_cons (ds_set 2 sc_alike.nd rfl (by first | exact .inl rfl | exact .inr rfl) de_int) (dss_cons (ds_for (tbk := [.sh, .sh, .sh, .no, .no, .no, .no]) (tct := [.sh, .sh, .sh, .no, .no, .no, .no]) [3, 4] PassesOwn.never rfl (di_zip (by rfl) z_zip (da_cons (de_var 0 (pv 0)) (da_cons (de_var 1 (pv 1)) da_nil))) (dg_tup rfl (dgs_cons (dg_name 3 sc_alike.nd rfl (by first | exact .inl rfl | exact .inr rfl)) (dgs_cons (dg_name 4 sc_alike.nd rfl (by first | exact .inl rfl | exact .inr rfl)) dgs_nil)) (gsCons_len (gsCons_len gsNil_len))) (dss_one (ds_set 2 sc_alike.nd rfl (by first | exact .inl rfl | exact .inr rfl) (de_bin op_addD od_add (de_var 2 (pv 2)) (de_callB call_len ca_len (by rfl) z_len bt_len (da_cons (de_F (do_lc (own := [("sign", 5), ("more", 6)]) rfl sc_alike.nd (di_zip (by rfl) z_zip (da_cons (de_var 3 (pv 3)) (da_cons (de_var 4 (pv 4)) da_nil))) (blkOk_by (by kernel_rfl)) (fun _ _ _ _ _ => (dg_tup rfl (dgs_cons (dg_name 5 sc_alike.nd rfl (by first | exact .inl rfl | exact .inr rfl)) (dgs_cons (dg_name 6 sc_alike.nd rfl (by first | exact .inl rfl | exact .inr rfl)) dgs_nil)) (gsCons_len (gsCons_len gsNil_len)))) (fun _ _ _ _ _ => (dts_one (dt_cmp (op_eqD (hu64 hr)) od_eq (de_var 5 (pv 5)) (de_var 6 (pv 6)) (nomark _)))) (fun _ _ _ _ _ => (do_E de_int)))) da_nil)))))) (dss_one (ds_ret (de_var 2 (pv 2))))))
/-! ### first_alike(picture, least): slots 0 picture 1 least 2 signs 3 many 4 wide 5 rows -/
abbrev s_first_alike : Stmt := topS 13
theorem sc_first_alike : FnScope ["picture", "least", "signs", "many", "wide", "rows"] ["picture", "least"] (defScope s_first_alike) := ⟨rfl, rfl, rfl, by decide +kernel, rfl, by decide +kernel, by decide +kernel⟩
def q1_first_alike (G_sent_signs : Fm) (G_alike : Fm) (G_view : Fm) : Sf := (sIf (tBl (eBin dGe (eF (oCall G_alike (aCons (eF (oCall G_view (aCons (eVar 4) (aCons (eCa (f1 lenD) (aCons (eVar 5) aNil)) (aCons (eSl dSl (eVar 2) pNo (pSome (eVar 3))) aNil))))) (aCons (eVar 5) aNil)))) (eVar 1))) (sRet (eVar 3)) sNil)
def b_first_alike (G_sent_signs : Fm) (G_alike : Fm) (G_view : Fm) : Sf := (sSeq (sAsg (eVar 0) (gTp (gsCons (gNm 4) (gsCons (gNm 5) gsNil)))) (sSeq (sAsg (eF (oCall G_sent_signs (aCons (eVar 0) aNil))) (gNm 2)) (sSeq (sFor [3] (TL.iRng1 (aCons (eBin dAdd (eCa (f1 lenD) (aCons (eVar 2) aNil)) (eC (.int 1))) aNil)) (gNm 3) (q1_first_alike G_sent_signs G_alike G_view)) (sRet (eCa (f1 lenD) (aCons (eVar 2) aNil))))))
abbrev sg_first_alike : Sg := ⟨[.sh, .sh], .sh⟩
abbrev ps_first_alike : List Str := ["picture", "least"]
theorem c_first_alike {P : Program} {w : World} {K : PySem.W.Frag} {mg : Str → Option Value} {base : Heap} {f : Addr} {fd : FuncData} {k : Nat} {G_sent_signs : Fm} {G_alike : Fm} {G_view : Fm} (D : Dfn K mg "first_alike" s_first_alike ps_first_alike f fd) {f_sent_signs : Addr} {fd_sent_signs : FuncData} (c_sent_signs : Cal P w K mg base f_sent_signs fd_sent_signs "sent_signs" k ps_sent_signs sg_sent_signs G_sent_signs) {f_alike : Addr} {fd_alike : FuncData} (c_alike : Cal P w K mg base f_alike fd_alike "alike" k ps_alike sg_alike G_alike) {f_view : Addr} {fd_view : FuncData} (c_view : Cal P w K mg base f_view fd_view "view" k ps_view sg_view G_view) (z_len : mg "len" = none) (z_range : mg "range" = none) :
    Cal P w K mg base f fd "first_alike" (k + 1) ps_first_alike sg_first_alike (runF (b_first_alike G_sent_signs G_alike G_view) 2 4) := by
  unfold b_first_alike q1_first_alike
  exact cal_ok (sg := sg_first_alike) (τ' := [.no, .no, .no, .no, .no, .no]) D sc_first_alike ⟨[], .sh, [.no, .no, .no, .no, .no, .no], [], []⟩ 4 rfl rfl rfl rfl rfl rfl (.inl rfl) fun cdv A outer s H E hr => (dss_cons (ds_asg (de_var 0 (pv 0)) (dg_tup rfl (dgs_cons (dg_name 4 sc_first_alike.nd rfl (by first | exact .inl rfl | exact .inr rfl)) (dgs_cons (dg_name 5 sc_first_alike.nd rfl (by first | exact .inl rfl | exact .inr rfl)) dgs_nil)) (gsCons_len (gsCons_len gsNil_len)))) (dss_cons (ds_set 2 sc_first_alike.nd rfl (by first | exact .inl rfl | exact .inr rfl) (de_F (do_fn c_sent_signs hr 1 (by rfl) (da_cons (de_var 0 (pv 0)) da_nil)))) (dss_cons (ds_for (tbk := [.sh, .sh, .sh, .no, .sh, .sh]) (tct := [.sh, .sh, .sh, .no, .sh, .sh]) [3] PassesOwn.never rfl (di_range1 (by rfl) z_range (da_cons (de_bin op_addD od_add (de_callB call_len ca_len (by rfl) z_len bt_len (da_cons (de_var 2 (pv 2)) da_nil)) de_int) da_nil)) (dg_name 3 sc_first_alike.nd rfl (by first | exact .inl rfl | exact .inr rfl)) (dss_one (ds_if (dt_cmp op_ge od_ge (de_F (do_fn c_alike hr 2 (by rfl) (da_cons (de_F (do_fn c_view hr 3 (by rfl) (da_cons (de_var 4 (pv 4)) (da_cons (de_callB call_len ca_len (by rfl) z_len bt_len (da_cons (de_var 5 (pv 5)) da_nil)) (da_cons (de_slice sl_D sd_sl (de_var 2 (pv 2)) dp_no (dp_some (de_var 3 (pv 3)))) da_nil))))) (da_cons (de_var 5 (pv 5)) da_nil)))) (de_var 1 (pv 1)) (nomark _)) (dss_one (ds_ret (de_var 3 (pv 3)))) dss_nil))) (dss_one (ds_ret (de_callB call_len ca_len (by rfl) z_len bt_len (da_cons (de_var 2 (pv 2)) da_nil)))))))
/-! ### _law_draw(script): slots 0 script -/
abbrev s__law_draw : Stmt := topS 15
theorem sc__law_draw : FnScope ["script"] ["script"] (defScope s__law_draw) := ⟨rfl, rfl, rfl, by decide +kernel, rfl, by decide +kernel, by decide +kernel⟩
def b__law_draw : Sf := (sRetO (oLst (aCons (eF (oCa (f1L listD) (aCons (eVar 0) aNil))) (aCons (eC (.int 0)) (aCons (eC (.int 0)) (aCons (eC (.int 17)) aNil))))))
abbrev sg__law_draw : Sg := ⟨[.sh], (.oL .sh)⟩
abbrev ps__law_draw : List Str := ["script"]
theorem c__law_draw {P : Program} {w : World} {K : PySem.W.Frag} {mg : Str → Option Value} {base : Heap} {f : Addr} {fd : FuncData} {k : Nat} (D : Dfn K mg "_law_draw" s__law_draw ps__law_draw f fd) (z_list : mg "list" = none) :
    Cal P w K mg base f fd "_law_draw" (k + 1) ps__law_draw sg__law_draw (runF (b__law_draw) 1 0) := by
  unfold b__law_draw 
  exact cal_ok (sg := sg__law_draw) (τ' := [.no]) D sc__law_draw ⟨[], (.oL .sh), [.no], [], []⟩ 0 rfl rfl rfl rfl rfl rfl (.inr (by repeat first | exact nn_ret | exact nn_retO | exact nn_retX | exact nn_retN | apply nn_seq | apply nn_if)) fun cdv A outer s H E hr => (dss_one (ds_retO (do_lst (da_cons (de_F (do_callTy call_list_of co_list (by rfl) z_list bt_list (da_cons (de_var 0 (pv 0)) da_nil))) (da_cons de_int (da_cons de_int (da_cons de_int da_nil)))))))
/-! ### _law_next(draw, many): slots 0 draw 1 many 2 found 3 cell -/
abbrev s__law_next : Stmt := topS 16
theorem sc__law_next : FnScope ["draw", "many", "found", "cell"] ["draw", "many"] (defScope s__law_next) := ⟨rfl, rfl, rfl, by decide +kernel, rfl, by decide +kernel, by decide +kernel⟩
def b__law_next : Sf := (sSeq (sIf (tBl (eBin dGt (eBin dIx (eOwn 0) (eC (.int 2))) (eC (.int 0)))) (sSeq (sAsg (eBin dMod (eCa (f1 intD) (aCons (eBin dIx (eOwn 0) (eC (.int 2))) aNil)) (eVar 1)) (gNm 2)) (sSeq (sSetIx 0 (eBin dDiv (eBin dIx (eOwn 0) (eC (.int 2))) (eVar 1)) (eC (.int 2))) (sRet (eVar 2)))) sNil) (sSeq (sIf (tBl (eBin dLt (eBin dIx (eOwn 0) (eC (.int 1))) (eCa (f1 lenD) (aCons (eBin dIx (eOwn 0) (eC (.int 0))) aNil)))) (sKl [3] (sSeq (sAsg (eCa (f1 absD) (aCons (eBin dIx (eBin dIx (eOwn 0) (eC (.int 0))) (eBin dIx (eOwn 0) (eC (.int 1)))) aNil)) (gNm 3)) (sSeq (sSetIx 0 (eBin dAdd (eBin dIx (eOwn 0) (eC (.int 1))) (eC (.int 1))) (eC (.int 1))) (sSeq (sIf (tBl (eBin dGe (eVar 3) (eBin dPow (eC (.int 10)) (eC (.int 18))))) (sSeq (sSetIx 0 (eBin dDiv (eVar 3) (eVar 1)) (eC (.int 2))) (sRet (eBin dMod (eCa (f1 intD) (aCons (eVar 3) aNil)) (eVar 1)))) sNil) (sSetIx 0 (eBin dMod (eCa (f1 intD) (aCons (eBin dAdd (eBin dAdd (eBin dMul (eBin dIx (eOwn 0) (eC (.int 3))) (eC (.int 48271))) (eVar 3)) (eC (.int 11))) aNil)) (eC (.int 2147483647))) (eC (.int 3))))))) (sSetIx 0 (eBin dMod (eCa (f1 intD) (aCons (eBin dAdd (eBin dMul (eBin dIx (eOwn 0) (eC (.int 3))) (eC (.int 48271))) (eC (.int 12345))) aNil)) (eC (.int 2147483647))) (eC (.int 3)))) (sRet (eBin dMod (eBin dDiv (eCa (f1 intD) (aCons (eBin dMod (eBin dMul (eBin dIx (eOwn 0) (eC (.int 3))) (eC (.int 69621))) (eC (.int 2147483629))) aNil)) (eC (.int 7))) (eVar 1)))))
abbrev sg__law_next : Sg := ⟨[(.oL .sh), .sh], .sh⟩
abbrev ps__law_next : List Str := ["draw", "many"]
theorem c__law_next {P : Program} {w : World} {K : PySem.W.Frag} {mg : Str → Option Value} {base : Heap} {f : Addr} {fd : FuncData} {k : Nat} (D : Dfn K mg "_law_next" s__law_next ps__law_next f fd) (z_int : mg "int" = none) (z_len : mg "len" = none) (z_abs : mg "abs" = none) :
    Cal P w K mg base f fd "_law_next" (k + 1) ps__law_next sg__law_next (runF (b__law_next) 2 2) := by
  unfold b__law_next 
  exact cal_ok (sg := sg__law_next) (τ' := [(.oL .sh), .no, .no, .no]) D sc__law_next ⟨[0], .sh, [(.oL .sh), .no, .no, .no], [], []⟩ 2 rfl rfl rfl rfl rfl rfl (.inl rfl) fun cdv A outer s H E hr => (dss_cons (ds_if (dt_cmp op_gt od_gt (de_ix ix_seq od_ix (de_own 0 (pv 0)) de_int (fun _ _ => rfl)) de_int (nomark _)) (dss_cons (ds_set 2 sc__law_next.nd rfl (by first | exact .inl rfl | exact .inr rfl) (de_bin op_mod od_mod (de_callTy call_int1 ca_int (by rfl) z_int bt_int (da_cons (de_ix ix_seq od_ix (de_own 0 (pv 0)) de_int (fun _ _ => rfl)) da_nil)) (de_var 1 (pv 1)))) (dss_cons (ds_setix 0 (de_bin op_fdivW od_div (de_ix ix_seq od_ix (de_own 0 (pv 0)) de_int (fun _ _ => rfl)) (de_var 1 (pv 1))) (pv 0) de_int) (dss_one (ds_ret (de_var 2 (pv 2)))))) dss_nil) (dss_cons (ds_if (dt_cmp op_lt od_lt (de_ix ix_seq od_ix (de_own 0 (pv 0)) de_int (fun _ _ => rfl)) (de_callB call_len ca_len (by rfl) z_len bt_len (da_cons (de_ix ix_seq od_ix (de_own 0 (pv 0)) de_int (fun _ _ => rfl)) da_nil)) (nomark _)) (dss_kill [3] (dss_cons (ds_set 3 sc__law_next.nd rfl (by first | exact .inl rfl | exact .inr rfl) (de_callB call_abs ca_abs (by rfl) z_abs bt_abs (da_cons (de_ix ix_seq od_ix (de_ix ix_seq od_ix (de_own 0 (pv 0)) de_int (fun _ _ => rfl)) (de_ix ix_seq od_ix (de_own 0 (pv 0)) de_int (fun _ _ => rfl)) (fun _ _ => rfl)) da_nil))) (dss_cons (ds_setix 0 (de_bin op_addD od_add (de_ix ix_seq od_ix (de_own 0 (pv 0)) de_int (fun _ _ => rfl)) de_int) (pv 0) de_int) (dss_cons (ds_if (dt_cmp op_ge od_ge (de_var 3 (pv 3)) (de_bin op_pow od_pow de_int de_int) (nomark _)) (dss_cons (ds_setix 0 (de_bin op_fdivW od_div (de_var 3 (pv 3)) (de_var 1 (pv 1))) (pv 0) de_int) (dss_one (ds_ret (de_bin op_mod od_mod (de_callTy call_int1 ca_int (by rfl) z_int bt_int (da_cons (de_var 3 (pv 3)) da_nil)) (de_var 1 (pv 1)))))) dss_nil) (dss_one (ds_setix 0 (de_bin op_mod od_mod (de_callTy call_int1 ca_int (by rfl) z_int bt_int (da_cons (de_bin op_addD od_add (de_bin op_addD od_add (de_bin op_mulD od_mul (de_ix ix_seq od_ix (de_own 0 (pv 0)) de_int (fun _ _ => rfl)) de_int) (de_var 3 (pv 3))) de_int) da_nil)) de_int) (pv 0) de_int)))))) (dss_one (ds_setix 0 (de_bin op_mod od_mod (de_callTy call_int1 ca_int (by rfl) z_int bt_int (da_cons (de_bin op_addD od_add (de_bin op_mulD od_mul (de_ix ix_seq od_ix (de_own 0 (pv 0)) de_int (fun _ _ => rfl)) de_int) de_int) da_nil)) de_int) (pv 0) de_int))) (dss_one (ds_ret (de_bin op_mod od_mod (de_bin op_fdivW od_div (de_callTy call_int1 ca_int (by rfl) z_int bt_int (da_cons (de_bin op_mod od_mod (de_bin op_mulD od_mul (de_ix ix_seq od_ix (de_own 0 (pv 0)) de_int (fun _ _ => rfl)) de_int) de_int) da_nil)) de_int) (de_var 1 (pv 1)))))))
/-! ### _law_same(actual, due): slots 0 actual 1 due 2 k -/
abbrev s__law_same : Stmt := topS 17
theorem sc__law_same : FnScope ["actual", "due", "k"] ["actual", "due"] (defScope s__law_same) := ⟨rfl, rfl, rfl, by decide +kernel, rfl, by decide +kernel, by decide +kernel⟩
def e1__law_same (G__law_same : Fm) : Of := (oE (eF (oCall G__law_same (aCons (eBin dIx (eVar 0) (eVar 2)) (aCons (eBin dIx (eVar 1) (eVar 2)) aNil)))))
def b__law_same (G__law_same : Fm) : Sf := (sSeq (sIf (tB (eIsLT (eVar 1))) (sSeq (sIf (tOr' (tBl (eBin dNe (eIsI .list (eVar 1)) (eIsI .list (eVar 0)))) (tBl (eBin dNe (eIsI .tuple (eVar 1)) (eIsI .tuple (eVar 0))))) (sRet (eC (.bl false))) sNil) (sSeq (sIf (tBl (eBin dNe (eCa (f1 lenD) (aCons (eVar 0) aNil)) (eCa (f1 lenD) (aCons (eVar 1) aNil)))) (sRet (eC (.bl false))) sNil) (sRet (eCa (f1 allD) (aCons (eF (oLc [2] (TL.iRng1 (aCons (eCa (f1 lenD) (aCons (eVar 1) aNil)) aNil)) (gNm 2) tYesF (e1__law_same G__law_same))) aNil))))) sNil) (sSeq (sIf (tBl (eBin dIs (eVar 1) (eC .non))) (sRet (eBin dIs (eVar 0) (eC .non))) sNil) (sSeq (sIf (tBl (eBin dNe (eIsI .bool (eVar 1)) (eIsI .bool (eVar 0)))) (sRet (eC (.bl false))) sNil) (sSeq (sIf (tB (eIsI .str (eVar 1))) (sRet (eAnd (eIsI .str (eVar 0)) (eBin dEq (eVar 0) (eVar 1)))) sNil) (sRet (eAnd (eIsI .int (eVar 0)) (eBin dEq (eVar 0) (eVar 1))))))))
abbrev sg__law_same : Sg := ⟨[.sh, .sh], .sh⟩
abbrev ps__law_same : List Str := ["actual", "due"]
theorem c__law_same {P : Program} {w : World} {K : PySem.W.Frag} {mg : Str → Option Value} {base : Heap} {f : Addr} {fd : FuncData} {k : Nat} {G__law_same : Fm} (D : Dfn K mg "_law_same" s__law_same ps__law_same f fd) {f__law_same : Addr} {fd__law_same : FuncData} (c__law_same : Cal P w K mg base f__law_same fd__law_same "_law_same" k ps__law_same sg__law_same G__law_same) (z_isinstance : mg "isinstance" = none) (z_list : mg "list" = none) (z_tuple : mg "tuple" = none) (z_len : mg "len" = none) (z_range : mg "range" = none) (z_all : mg "all" = none) (z_bool : mg "bool" = none) (z_str : mg "str" = none) (z_int : mg "int" = none) :
    Cal P w K mg base f fd "_law_same" (k + 1) ps__law_same sg__law_same (runF (b__law_same G__law_same) 2 1) := by
  unfold b__law_same e1__law_same
  exact cal_ok (sg := sg__law_same) (τ' := [.no, .no, .no]) D sc__law_same ⟨[], .sh, [.no, .no, .no], [], []⟩ 1 rfl rfl rfl rfl rfl rfl (.inl rfl) fun cdv A outer s H E hr => (dss_cons (ds_if (dt_truth (de_isLT (by rfl) z_isinstance bt_isinstance (by rfl) z_list bt_list (by rfl) z_tuple bt_tuple (de_var 1 (pv 1)))) (dss_cons (ds_if (dt_w (dw_or (dt_cmp (op_neD (hu64 hr)) od_ne (de_isI .list (by rfl) z_isinstance bt_isinstance (by rfl) z_list bt_list (de_var 1 (pv 1))) (de_isI .list (by rfl) z_isinstance bt_isinstance (by rfl) z_list bt_list (de_var 0 (pv 0))) (nomark _)) (dw_or1 (dt_cmp (op_neD (hu64 hr)) od_ne (de_isI .tuple (by rfl) z_isinstance bt_isinstance (by rfl) z_tuple bt_tuple (de_var 1 (pv 1))) (de_isI .tuple (by rfl) z_isinstance bt_isinstance (by rfl) z_tuple bt_tuple (de_var 0 (pv 0))) (nomark _))))) (dss_one (ds_ret de_bl)) dss_nil) (dss_cons (ds_if (dt_cmp (op_neD (hu64 hr)) od_ne (de_callB call_len ca_len (by rfl) z_len bt_len (da_cons (de_var 0 (pv 0)) da_nil)) (de_callB call_len ca_len (by rfl) z_len bt_len (da_cons (de_var 1 (pv 1)) da_nil)) (nomark _)) (dss_one (ds_ret de_bl)) dss_nil) (dss_one (ds_ret (de_callB (cr_all rfl) ca_all (by rfl) z_all bt_all (da_cons (de_F (do_lc (own := [("k", 2)]) rfl sc__law_same.nd (di_range1 (by rfl) z_range (da_cons (de_callB call_len ca_len (by rfl) z_len bt_len (da_cons (de_var 1 (pv 1)) da_nil)) da_nil)) (blkOk_by (by kernel_rfl)) (fun _ _ _ _ _ => (dg_name 2 sc__law_same.nd rfl (by first | exact .inl rfl | exact .inr rfl))) (fun _ _ _ _ _ => dts_nil) (fun _ _ _ _ _ => (do_E (de_F (do_fn c__law_same hr 2 (by rfl) (da_cons (de_ix ix_seq od_ix (de_var 0 (pv 0)) (de_var 2 (pv 2)) (fun _ _ => rfl)) (da_cons (de_ix ix_seq od_ix (de_var 1 (pv 1)) (de_var 2 (pv 2)) (fun _ _ => rfl)) da_nil)))))))) da_nil)))))) dss_nil) (dss_cons (ds_if (dt_cmp op_isD od_is (de_var 1 (pv 1)) de_non (nomark _)) (dss_one (ds_ret (de_cmp op_isD od_is (de_var 0 (pv 0)) de_non (nomark _)))) dss_nil) (dss_cons (ds_if (dt_cmp (op_neD (hu64 hr)) od_ne (de_isI .bool (by rfl) z_isinstance bt_isinstance (by rfl) z_bool bt_bool (de_var 1 (pv 1))) (de_isI .bool (by rfl) z_isinstance bt_isinstance (by rfl) z_bool bt_bool (de_var 0 (pv 0))) (nomark _)) (dss_one (ds_ret de_bl)) dss_nil) (dss_cons (ds_if (dt_truth (de_isI .str (by rfl) z_isinstance bt_isinstance (by rfl) z_str bt_str (de_var 1 (pv 1)))) (dss_one (ds_ret (de_and (de_isI .str (by rfl) z_isinstance bt_isinstance (by rfl) z_str bt_str (de_var 0 (pv 0))) (de_one (de_cmp (op_eqD (hu64 hr)) od_eq (de_var 0 (pv 0)) (de_var 1 (pv 1)) (nomark _)))))) dss_nil) (dss_one (ds_ret (de_and (de_isI .int (by rfl) z_isinstance bt_isinstance (by rfl) z_int bt_int (de_var 0 (pv 0))) (de_one (de_cmp (op_eqD (hu64 hr)) od_eq (de_var 0 (pv 0)) (de_var 1 (pv 1)) (nomark _))))))))))
/-! ### _law_step(row, column): slots 0 row 1 column 2 step -/
abbrev s__law_step : Stmt := topS 18
theorem sc__law_step : FnScope ["row", "column", "step"] ["row", "column"] (defScope s__law_step) := ⟨rfl, rfl, rfl, by decide +kernel, rfl, by decide +kernel, by decide +kernel⟩
def t1__law_step : Tf := (tAnd' (tBl (eBin dEq (eBin dMod (eVar 0) (eVar 2)) (eC (.int 0)))) (tBl (eBin dEq (eBin dMod (eVar 1) (eVar 2)) (eC (.int 0)))))
def e2__law_step : Of := (oE (eVar 2))
def b__law_step : Sf := (sRet (eBin dIx (eF (oLc [2] (iSeq (eTup (aCons (eC (.int 8)) (aCons (eC (.int 4)) (aCons (eC (.int 2)) (aCons (eC (.int 1)) aNil)))))) (gNm 2) t1__law_step e2__law_step)) (eC (.int 0))))
abbrev sg__law_step : Sg := ⟨[.sh, .sh], .sh⟩
abbrev ps__law_step : List Str := ["row", "column"]
theorem c__law_step {P : Program} {w : World} {K : PySem.W.Frag} {mg : Str → Option Value} {base : Heap} {f : Addr} {fd : FuncData} {k : Nat} (D : Dfn K mg "_law_step" s__law_step ps__law_step f fd) :
    Cal P w K mg base f fd "_law_step" (k + 1) ps__law_step sg__law_step (runF (b__law_step) 2 1) := by
  unfold b__law_step e2__law_step t1__law_step
  exact cal_ok (sg := sg__law_step) (τ' := [.no, .no, .no]) D sc__law_step ⟨[], .sh, [.no, .no, .no], [], []⟩ 1 rfl rfl rfl rfl rfl rfl (.inl rfl) fun cdv A outer s H E hr => (dss_one (ds_ret (de_ix ix_seq od_ix (de_F (do_lc (own := [("step", 2)]) rfl sc__law_step.nd (di_seq (de_tup (da_cons de_int (da_cons de_int (da_cons de_int (da_cons de_int da_nil)))))) (blkOk_by (by kernel_rfl)) (fun _ _ _ _ _ => (dg_name 2 sc__law_step.nd rfl (by first | exact .inl rfl | exact .inr rfl))) (fun _ _ _ _ _ => (dts_one (dt_w (dw_and (dt_cmp (op_eqD (hu64 hr)) od_eq (de_bin op_mod od_mod (de_var 0 (pv 0)) (de_var 2 (pv 2))) de_int (nomark _)) (dw_and1 (dt_cmp (op_eqD (hu64 hr)) od_eq (de_bin op_mod od_mod (de_var 1 (pv 1)) (de_var 2 (pv 2))) de_int (nomark _))))))) (fun _ _ _ _ _ => (do_E (de_var 2 (pv 2)))))) de_int (fun _ _ => rfl))))
/-! ### _law_order(wide, tall): slots 0 wide 1 tall 2 places 3 row 4 step 5 column -/
abbrev s__law_order : Stmt := topS 19
theorem sc__law_order : FnScope ["wide", "tall", "places", "row", "step", "column"] ["wide", "tall"] (defScope s__law_order) := ⟨rfl, rfl, rfl, by decide +kernel, rfl, by decide +kernel, by decide +kernel⟩
def e1__law_order (G__law_step : Fm) : Of := (oE (eTup (aCons (eBin dSub (eC (.int 0)) (eF (oCall G__law_step (aCons (eVar 3) (aCons (eVar 5) aNil))))) (aCons (eVar 3) (aCons (eVar 5) aNil)))))
def q2__law_order (G__law_step : Fm) : Sf := (sAsg (eBin dAdd (eVar 2) (eF (oLc [5] (TL.iRng1 (aCons (eVar 0) aNil)) (gNm 5) tYesF (e1__law_order G__law_step)))) (gNm 2))
def e3__law_order (G__law_step : Fm) : Of := (oE (eTup (aCons (eVar 3) (aCons (eVar 5) aNil))))
def b__law_order (G__law_step : Fm) : Sf := (sSeq (sAsg (eF (oLst aNil)) (gNm 2)) (sSeq (sFor [3] (TL.iRng1 (aCons (eVar 1) aNil)) (gNm 3) (q2__law_order G__law_step)) (sRet (eF (oLc [4, 3, 5] (iSeq (eF (oCa (f1L sortR) (aCons (eVar 2) aNil)))) (gTp (gsCons (gNm 4) (gsCons (gNm 3) (gsCons (gNm 5) gsNil)))) tYesF (e3__law_order G__law_step))))))
abbrev sg__law_order : Sg := ⟨[.sh, .sh], .sh⟩
abbrev ps__law_order : List Str := ["wide", "tall"]
theorem c__law_order {P : Program} {w : World} {K : PySem.W.Frag} {mg : Str → Option Value} {base : Heap} {f : Addr} {fd : FuncData} {k : Nat} {G__law_step : Fm} (D : Dfn K mg "_law_order" s__law_order ps__law_order f fd) {f__law_step : Addr} {fd__law_step : FuncData} (c__law_step : Cal P w K mg base f__law_step fd__law_step "_law_step" k ps__law_step sg__law_step G__law_step) (z_range : mg "range" = none) (z_sorted : mg "sorted" = none) :
    Cal P w K mg base f fd "_law_order" (k + 1) ps__law_order sg__law_order (runF (b__law_order G__law_step) 2 4) := by
  unfold b__law_order e3__law_order q2__law_order e1__law_order
  exact cal_ok (sg := sg__law_order) (τ' := [.no, .no, .no, .no, .no, .no]) D sc__law_order ⟨[], .sh, [.no, .no, .no, .no, .no, .no], [], []⟩ 4 rfl rfl rfl rfl rfl rfl (.inl rfl) fun cdv A outer s H E hr => (dss_cons (ds_set 2 sc__law_order.nd rfl (by first | exact .inl rfl | exact .inr rfl) (de_F (do_lst da_nil))) (dss_cons (ds_for (tbk := [.sh, .sh, .sh, .no, .no, .no]) (tct := [.sh, .sh, .sh, .no, .no, .no]) [3] PassesOwn.never rfl (di_range1 (by rfl) z_range (da_cons (de_var 1 (pv 1)) da_nil)) (dg_name 3 sc__law_order.nd rfl (by first | exact .inl rfl | exact .inr rfl)) (dss_one (ds_set 2 sc__law_order.nd rfl (by first | exact .inl rfl | exact .inr rfl) (de_bin op_addD od_add (de_var 2 (pv 2)) (de_F (do_lc (own := [("column", 5)]) rfl sc__law_order.nd (di_range1 (by rfl) z_range (da_cons (de_var 0 (pv 0)) da_nil)) (blkOk_by (by kernel_rfl)) (fun _ _ _ _ _ => (dg_name 5 sc__law_order.nd rfl (by first | exact .inl rfl | exact .inr rfl))) (fun _ _ _ _ _ => dts_nil) (fun _ _ _ _ _ => (do_E (de_tup (da_cons (de_bin op_sub od_sub de_int (de_F (do_fn c__law_step hr 2 (by rfl) (da_cons (de_var 3 (pv 3)) (da_cons (de_var 5 (pv 5)) da_nil))))) (da_cons (de_var 3 (pv 3)) (da_cons (de_var 5 (pv 5)) da_nil)))))))))))) (dss_one (ds_ret (de_F (do_lc (own := [("step", 4), ("row", 3), ("column", 5)]) rfl sc__law_order.nd (di_seq (de_F (do_callB cr_sortedR co_sortR (by rfl) z_sorted bt_sorted (da_cons (de_var 2 (pv 2)) da_nil)))) (blkOk_by (by kernel_rfl)) (fun _ _ _ _ _ => (dg_tup rfl (dgs_cons (dg_name 4 sc__law_order.nd rfl (by first | exact .inl rfl | exact .inr rfl)) (dgs_cons (dg_name 3 sc__law_order.nd rfl (by first | exact .inl rfl | exact .inr rfl)) (dgs_cons (dg_name 5 sc__law_order.nd rfl (by first | exact .inl rfl | exact .inr rfl)) dgs_nil))) (gsCons_len (gsCons_len (gsCons_len gsNil_len))))) (fun _ _ _ _ _ => dts_nil) (fun _ _ _ _ _ => (do_E (de_tup (da_cons (de_var 3 (pv 3)) (da_cons (de_var 5 (pv 5)) da_nil)))))))))))
/-! ### _law_view(wide, tall, signs): slots 0 wide 1 tall 2 signs 3 row 4 order 5 rows 6 found 7 column 8 sign 9 step 10 above -/
abbrev s__law_view : Stmt := topS 20
theorem sc__law_view : FnScope ["wide", "tall", "signs", "row", "order", "rows", "found", "column", "sign", "step", "above"] ["wide", "tall", "signs"] (defScope s__law_view) := ⟨rfl, rfl, rfl, by decide +kernel, rfl, by decide +kernel, by decide +kernel⟩
def q1__law_view (G__law_order : Fm) (G__law_step : Fm) : Sf := (sSeq (sAsg (eTup (aCons (eBin dSub (eVar 3) (eBin dMod (eVar 3) (eVar 9))) (aCons (eBin dSub (eVar 7) (eBin dMod (eVar 7) (eVar 9))) aNil))) (gNm 10)) (sIf (tAnd' (tBl (eBin dIn (eVar 10) (eSl dSl (eVar 4) pNo (pSome (eCa (f1 lenD) (aCons (eVar 2) aNil)))))) (tBl (eBin dGe (eF (oCall G__law_step (aCons (eBin dIx (eVar 10) (eC (.int 0))) (aCons (eBin dIx (eVar 10) (eC (.int 1))) aNil)))) (eVar 9)))) (sAsg (eIf (tBl (eBin dEq (eF (oCall G__law_step (aCons (eBin dIx (eVar 10) (eC (.int 0))) (aCons (eBin dIx (eVar 10) (eC (.int 1))) aNil)))) (eVar 9))) (eBin dIx (eVar 2) (eMtL indexD (eVar 4) (aCons (eVar 10) aNil))) (eVar 8)) (gNm 8)) sNil))
def q2__law_view (G__law_order : Fm) (G__law_step : Fm) : Sf := (sSeq (sAsg (eC .non) (gNm 8)) (sSeq (sFor [9, 10] (iSeq (eTup (aCons (eC (.int 8)) (aCons (eC (.int 4)) (aCons (eC (.int 2)) (aCons (eC (.int 1)) aNil)))))) (gNm 9) (q1__law_view G__law_order G__law_step)) (sApp 6 (eVar 8))))
def q3__law_view (G__law_order : Fm) (G__law_step : Fm) : Sf := (sSeq (sSetO 6 (oLst aNil)) (sSeq (sFor [7, 8, 9, 10] (TL.iRng1 (aCons (eVar 0) aNil)) (gNm 7) (q2__law_view G__law_order G__law_step)) (sApp 5 (eCa (f1 tupleD) (aCons (eOwn 6) aNil)))))
def b__law_view (G__law_order : Fm) (G__law_step : Fm) : Sf := (sSeq (sPar 4 5 (lCons (oE (eF (oCall G__law_order (aCons (eVar 0) (aCons (eVar 1) aNil))))) (lCons (oLst aNil) lNil))) (sSeq (sFor [3, 6, 7, 8, 9, 10] (TL.iRng1 (aCons (eVar 1) aNil)) (gNm 3) (q3__law_view G__law_order G__law_step)) (sRet (eCa (f1 tupleD) (aCons (eOwn 5) aNil)))))
abbrev sg__law_view : Sg := ⟨[.sh, .sh, .sh], .sh⟩
abbrev ps__law_view : List Str := ["wide", "tall", "signs"]
theorem c__law_view {P : Program} {w : World} {K : PySem.W.Frag} {mg : Str → Option Value} {base : Heap} {f : Addr} {fd : FuncData} {k : Nat} {G__law_order : Fm} {G__law_step : Fm} (D : Dfn K mg "_law_view" s__law_view ps__law_view f fd) {f__law_order : Addr} {fd__law_order : FuncData} (c__law_order : Cal P w K mg base f__law_order fd__law_order "_law_order" k ps__law_order sg__law_order G__law_order) {f__law_step : Addr} {fd__law_step : FuncData} (c__law_step : Cal P w K mg base f__law_step fd__law_step "_law_step" k ps__law_step sg__law_step G__law_step) (z_range : mg "range" = none) (z_len : mg "len" = none) (z_tuple : mg "tuple" = none) :
    Cal P w K mg base f fd "_law_view" (k + 1) ps__law_view sg__law_view (runF (b__law_view G__law_order G__law_step) 3 8) := by
  unfold b__law_view q3__law_view q2__law_view q1__law_view
  exact cal_ok (sg := sg__law_view) (τ' := [.no, .no, .no, .no, .no, .no, .no, .no, .no, .no, .no]) D sc__law_view ⟨[], .sh, [.no, .no, .no, .no, .no, .no, .no, .no, .no, .no, .no], [], []⟩ 8 rfl rfl rfl rfl rfl rfl (.inl rfl) fun cdv A outer s H E hr => (dss_cons (ds_par 4 5 rfl sc__law_view.nd rfl rfl rfl rfl (dl_cons (do_E (de_F (do_fn c__law_order hr 2 (by rfl) (da_cons (de_var 0 (pv 0)) (da_cons (de_var 1 (pv 1)) da_nil))))) (dl_cons (do_lst da_nil) dl_nil)) rfl) (dss_cons (ds_for (tbk := [.sh, .sh, .sh, .no, .sh, (.oL .sh), .no, .no, .no, .no, .no]) (tct := [.sh, .sh, .sh, .no, .sh, (.oL .sh), .no, .no, .no, .no, .no]) [3, 6, 7, 8, 9, 10] PassesOwn.never rfl (di_range1 (by rfl) z_range (da_cons (de_var 1 (pv 1)) da_nil)) (dg_name 3 sc__law_view.nd rfl (by first | exact .inl rfl | exact .inr rfl)) (dss_cons (ds_setO 6 sc__law_view.nd rfl (by first | exact .inl rfl | exact .inr rfl) (do_lst da_nil)) (dss_cons (ds_for (tbk := [.sh, .sh, .sh, .sh, .sh, (.oL .sh), (.oL .sh), .no, .no, .no, .no]) (tct := [.sh, .sh, .sh, .sh, .sh, (.oL .sh), (.oL .sh), .no, .no, .no, .no]) [7, 8, 9, 10] PassesOwn.never rfl (di_range1 (by rfl) z_range (da_cons (de_var 0 (pv 0)) da_nil)) (dg_name 7 sc__law_view.nd rfl (by first | exact .inl rfl | exact .inr rfl)) (dss_cons (ds_set 8 sc__law_view.nd rfl (by first | exact .inl rfl | exact .inr rfl) de_non) (dss_cons (ds_for (tbk := [.sh, .sh, .sh, .sh, .sh, (.oL .sh), (.oL .sh), .sh, .sh, .no, .no]) (tct := [.sh, .sh, .sh, .sh, .sh, (.oL .sh), (.oL .sh), .sh, .sh, .no, .no]) [9, 10] PassesOwn.never rfl (di_seq (de_tup (da_cons de_int (da_cons de_int (da_cons de_int (da_cons de_int da_nil)))))) (dg_name 9 sc__law_view.nd rfl (by first | exact .inl rfl | exact .inr rfl)) (dss_cons (ds_set 10 sc__law_view.nd rfl (by first | exact .inl rfl | exact .inr rfl) (de_tup (da_cons (de_bin op_sub od_sub (de_var 3 (pv 3)) (de_bin op_mod od_mod (de_var 3 (pv 3)) (de_var 9 (pv 9)))) (da_cons (de_bin op_sub od_sub (de_var 7 (pv 7)) (de_bin op_mod od_mod (de_var 7 (pv 7)) (de_var 9 (pv 9)))) da_nil)))) (dss_one (ds_if (dt_w (dw_and (dt_cmp (op_inD (hu65 hr)) od_in (de_var 10 (pv 10)) (de_slice sl_D sd_sl (de_var 4 (pv 4)) dp_no (dp_some (de_callB call_len ca_len (by rfl) z_len bt_len (da_cons (de_var 2 (pv 2)) da_nil)))) (by rfl)) (dw_and1 (dt_cmp op_ge od_ge (de_F (do_fn c__law_step hr 2 (by rfl) (da_cons (de_ix ix_seq od_ix (de_var 10 (pv 10)) de_int (fun _ _ => rfl)) (da_cons (de_ix ix_seq od_ix (de_var 10 (pv 10)) de_int (fun _ _ => rfl)) da_nil)))) (de_var 9 (pv 9)) (nomark _))))) (dss_one (ds_set 8 sc__law_view.nd rfl (by first | exact .inl rfl | exact .inr rfl) (de_if (dt_cmp (op_eqD (hu64 hr)) od_eq (de_F (do_fn c__law_step hr 2 (by rfl) (da_cons (de_ix ix_seq od_ix (de_var 10 (pv 10)) de_int (fun _ _ => rfl)) (da_cons (de_ix ix_seq od_ix (de_var 10 (pv 10)) de_int (fun _ _ => rfl)) da_nil)))) (de_var 9 (pv 9)) (nomark _)) (de_ix ix_seq od_ix (de_var 2 (pv 2)) (de_mtL PySem.F.slot_list_index PySem.F.type_list_index (mt_indexD (hu65 hr)) mtd_index (de_var 4 (pv 4)) (da_cons (de_var 10 (pv 10)) da_nil)) (fun _ _ => rfl)) (de_var 8 (pv 8))))) dss_nil)))) (dss_one (ds_app 6 (pv 6) (de_var 8 (pv 8))))))) (dss_one (ds_app 5 (pv 5) (de_callTy call_tuple_of ca_tuple (by rfl) z_tuple bt_tuple (da_cons (de_own 6 (pv 6)) da_nil))))))) (dss_one (ds_ret (de_callTy call_tuple_of ca_tuple (by rfl) z_tuple bt_tuple (da_cons (de_own 5 (pv 5)) da_nil))))))
/-! ### law(script): slots 0 script 1 draw 2 rows 3 picture 4 order 5 signs 6 many 7 least 8 told 9 wrong 10 wide 11 tall 12 number 13 enough 14 seen 15 same 16 row 17 column 18 other 19 a 20 b -/
abbrev s_law : Stmt := topS 21
theorem sc_law : FnScope ["script", "draw", "rows", "picture", "order", "signs", "many", "least", "told", "wrong", "wide", "tall", "number", "enough", "seen", "same", "row", "column", "other", "a", "b"] ["script"] (defScope s_law) := ⟨rfl, rfl, rfl, by decide +kernel, rfl, by decide +kernel, by decide +kernel⟩
def e1_law (G__law_draw : Fm) (G__law_next : Fm) (G__law_order : Fm) (G_is_picture : Fm) (G__law_same : Fm) (G_order_of_places : Fm) (G_sent_signs : Fm) (G_whole_picture : Fm) (G_view : Fm) (G__law_view : Fm) (G_first_alike : Fm) : Of := (oE (eF (oCallI G__law_next 1 0 (aCons (eOwn 1) (aCons (eC (.int 4)) aNil)))))
def e2_law (G__law_draw : Fm) (G__law_next : Fm) (G__law_order : Fm) (G_is_picture : Fm) (G__law_same : Fm) (G_order_of_places : Fm) (G_sent_signs : Fm) (G_whole_picture : Fm) (G_view : Fm) (G__law_view : Fm) (G_first_alike : Fm) : Of := (oE (eCa (f1 tupleD) (aCons (eF (oLc [17] (TL.iRng1 (aCons (eVar 10) aNil)) (gNm 17) tYesF (e1_law G__law_draw G__law_next G__law_order G_is_picture G__law_same G_order_of_places G_sent_signs G_whole_picture G_view G__law_view G_first_alike))) aNil)))
def e3_law (G__law_draw : Fm) (G__law_next : Fm) (G__law_order : Fm) (G_is_picture : Fm) (G__law_same : Fm) (G_order_of_places : Fm) (G_sent_signs : Fm) (G_whole_picture : Fm) (G_view : Fm) (G__law_view : Fm) (G_first_alike : Fm) : Of := (oE (eBin dIx (eBin dIx (eVar 2) (eVar 16)) (eVar 17)))
def t4_law (G__law_draw : Fm) (G__law_next : Fm) (G__law_order : Fm) (G_is_picture : Fm) (G__law_same : Fm) (G_order_of_places : Fm) (G_sent_signs : Fm) (G_whole_picture : Fm) (G_view : Fm) (G__law_view : Fm) (G_first_alike : Fm) : Tf := (tBl (eBin dEq (eVar 19) (eVar 20)))
def e5_law (G__law_draw : Fm) (G__law_next : Fm) (G__law_order : Fm) (G_is_picture : Fm) (G__law_same : Fm) (G_order_of_places : Fm) (G_sent_signs : Fm) (G_whole_picture : Fm) (G_view : Fm) (G__law_view : Fm) (G_first_alike : Fm) : Of := (oE (eC (.int 1)))
def e6_law (G__law_draw : Fm) (G__law_next : Fm) (G__law_order : Fm) (G_is_picture : Fm) (G__law_same : Fm) (G_order_of_places : Fm) (G_sent_signs : Fm) (G_whole_picture : Fm) (G_view : Fm) (G__law_view : Fm) (G_first_alike : Fm) : Of := (oE (eCa (f1 sumD) (aCons (eF (oLc [19, 20] (iZp (aCons (eVar 16) (aCons (eVar 18) aNil))) (gTp (gsCons (gNm 19) (gsCons (gNm 20) gsNil))) (t4_law G__law_draw G__law_next G__law_order G_is_picture G__law_same G_order_of_places G_sent_signs G_whole_picture G_view G__law_view G_first_alike) (e5_law G__law_draw G__law_next G__law_order G_is_picture G__law_same G_order_of_places G_sent_signs G_whole_picture G_view G__law_view G_first_alike))) aNil)))
def q7_law (G__law_draw : Fm) (G__law_next : Fm) (G__law_order : Fm) (G_is_picture : Fm) (G__law_same : Fm) (G_order_of_places : Fm) (G_sent_signs : Fm) (G_whole_picture : Fm) (G_view : Fm) (G__law_view : Fm) (G_first_alike : Fm) : Sf := (sIf (tBl (eBin dGe (eVar 12) (eC (.int 0)))) (sKl [14, 15] (sSeq (sAsg (eF (oCall G__law_view (aCons (eVar 10) (aCons (eVar 11) (aCons (eSl dSl (eVar 5) pNo (pSome (eVar 12))) aNil))))) (gNm 14)) (sSeq (sAsg (eCa (f1 sumD) (aCons (eF (oLc [16, 18] (iZp (aCons (eVar 2) (aCons (eVar 14) aNil))) (gTp (gsCons (gNm 16) (gsCons (gNm 18) gsNil))) tYesF (e6_law G__law_draw G__law_next G__law_order G_is_picture G__law_same G_order_of_places G_sent_signs G_whole_picture G_view G__law_view G_first_alike))) aNil)) (gNm 15)) (sIf (tBl (eBin dNe (eBin dGe (eVar 15) (eVar 7)) (eVar 13))) (sRet (eC (.bl false))) sNil)))) sNil)
def p16_law (G__law_draw : Fm) (G__law_next : Fm) (G__law_order : Fm) (G_is_picture : Fm) (G__law_same : Fm) (G_order_of_places : Fm) (G_sent_signs : Fm) (G_whole_picture : Fm) (G_view : Fm) (G__law_view : Fm) (G_first_alike : Fm) : Sf := (sRet (eBin dIs (eF (oCall G_is_picture (aCons (eBin dIx (eVar 9) (eF (oCallI G__law_next 1 0 (aCons (eOwn 1) (aCons (eCa (f1 lenD) (aCons (eVar 9) aNil)) aNil))))) aNil))) (eC (.bl false))))
def p15_law (G__law_draw : Fm) (G__law_next : Fm) (G__law_order : Fm) (G_is_picture : Fm) (G__law_same : Fm) (G_order_of_places : Fm) (G_sent_signs : Fm) (G_whole_picture : Fm) (G_view : Fm) (G__law_view : Fm) (G_first_alike : Fm) : Sf := (sSeq (sAsg (eF (oLst (aCons (eTup (aCons (eC (.int 0)) (aCons (eTup aNil) aNil))) (aCons (eTup (aCons (eC (.int 21)) (aCons (eTup aNil) aNil))) (aCons (eTup (aCons (eC (.int 2)) (aCons (eTup (aCons (eTup (aCons (eC (.int 1)) aNil)) aNil)) aNil))) (aCons (eTup (aCons (eC (.int 2)) (aCons (eTup (aCons (eF (oLst (aCons (eC (.int 1)) (aCons (eC (.int 2)) aNil)))) aNil)) aNil))) (aCons (eTup (aCons (eC (.int 1)) (aCons (eTup (aCons (eTup (aCons (eC (.int 256)) aNil)) aNil)) aNil))) (aCons (eTup (aCons (eC (.int 1)) (aCons (eTup (aCons (eTup (aCons (eC (.bl true)) aNil)) aNil)) aNil))) (aCons (eF (oLst (aCons (eC (.int 1)) (aCons (eTup aNil) aNil)))) (aCons (eTup (aCons (eC (.int 1)) (aCons (eTup (aCons (eTup aNil) aNil)) aNil))) (aCons (eC .non) (aCons (eTup (aCons (eC (.int 1)) aNil)) aNil)))))))))))) (gNm 9)) (p16_law G__law_draw G__law_next G__law_order G_is_picture G__law_same G_order_of_places G_sent_signs G_whole_picture G_view G__law_view G_first_alike))
def p14_law (G__law_draw : Fm) (G__law_next : Fm) (G__law_order : Fm) (G_is_picture : Fm) (G__law_same : Fm) (G_order_of_places : Fm) (G_sent_signs : Fm) (G_whole_picture : Fm) (G_view : Fm) (G__law_view : Fm) (G_first_alike : Fm) : Sf := (sSeq (sFor [12, 13, 14, 15] (iSeq (eF (oLst (aCons (eTup (aCons (eVar 8) (aCons (eC (.bl true)) aNil))) (aCons (eTup (aCons (eBin dSub (eVar 8) (eC (.int 1))) (aCons (eC (.bl false)) aNil))) aNil))))) (gTp (gsCons (gNm 12) (gsCons (gNm 13) gsNil))) (q7_law G__law_draw G__law_next G__law_order G_is_picture G__law_same G_order_of_places G_sent_signs G_whole_picture G_view G__law_view G_first_alike)) (p15_law G__law_draw G__law_next G__law_order G_is_picture G__law_same G_order_of_places G_sent_signs G_whole_picture G_view G__law_view G_first_alike))
def p13_law (G__law_draw : Fm) (G__law_next : Fm) (G__law_order : Fm) (G_is_picture : Fm) (G__law_same : Fm) (G_order_of_places : Fm) (G_sent_signs : Fm) (G_whole_picture : Fm) (G_view : Fm) (G__law_view : Fm) (G_first_alike : Fm) : Sf := (sSeq (sIf (tOr' (tB (eIsI .bool (eVar 8))) (tOr' (tNot' (tB (eIsI .int (eVar 8)))) (tNot' (tBl (eChain dLe dLe (eC (.int 0)) (eVar 8) (eCa (f1 lenD) (aCons (eVar 5) aNil))))))) (sRet (eC (.bl false))) sNil) (p14_law G__law_draw G__law_next G__law_order G_is_picture G__law_same G_order_of_places G_sent_signs G_whole_picture G_view G__law_view G_first_alike))
def p12_law (G__law_draw : Fm) (G__law_next : Fm) (G__law_order : Fm) (G_is_picture : Fm) (G__law_same : Fm) (G_order_of_places : Fm) (G_sent_signs : Fm) (G_whole_picture : Fm) (G_view : Fm) (G__law_view : Fm) (G_first_alike : Fm) : Sf := (sSeq (sAsg (eF (oCall G_first_alike (aCons (eVar 3) (aCons (eVar 7) aNil)))) (gNm 8)) (p13_law G__law_draw G__law_next G__law_order G_is_picture G__law_same G_order_of_places G_sent_signs G_whole_picture G_view G__law_view G_first_alike))
def p11_law (G__law_draw : Fm) (G__law_next : Fm) (G__law_order : Fm) (G_is_picture : Fm) (G__law_same : Fm) (G_order_of_places : Fm) (G_sent_signs : Fm) (G_whole_picture : Fm) (G_view : Fm) (G__law_view : Fm) (G_first_alike : Fm) : Sf := (sSeq (sAsg (eF (oCallI G__law_next 1 0 (aCons (eOwn 1) (aCons (eBin dAdd (eCa (f1 lenD) (aCons (eVar 5) aNil)) (eC (.int 1))) aNil)))) (gNm 7)) (p12_law G__law_draw G__law_next G__law_order G_is_picture G__law_same G_order_of_places G_sent_signs G_whole_picture G_view G__law_view G_first_alike))
def p10_law (G__law_draw : Fm) (G__law_next : Fm) (G__law_order : Fm) (G_is_picture : Fm) (G__law_same : Fm) (G_order_of_places : Fm) (G_sent_signs : Fm) (G_whole_picture : Fm) (G_view : Fm) (G__law_view : Fm) (G_first_alike : Fm) : Sf := (sSeq (sIf (tNot' (tB (eF (oCall G__law_same (aCons (eF (oCall G_view (aCons (eVar 10) (aCons (eVar 11) (aCons (eSl dSl (eVar 5) pNo (pSome (eVar 6))) aNil))))) (aCons (eF (oCall G__law_view (aCons (eVar 10) (aCons (eVar 11) (aCons (eSl dSl (eVar 5) pNo (pSome (eVar 6))) aNil))))) aNil)))))) (sRet (eC (.bl false))) sNil) (p11_law G__law_draw G__law_next G__law_order G_is_picture G__law_same G_order_of_places G_sent_signs G_whole_picture G_view G__law_view G_first_alike))
def p9_law (G__law_draw : Fm) (G__law_next : Fm) (G__law_order : Fm) (G_is_picture : Fm) (G__law_same : Fm) (G_order_of_places : Fm) (G_sent_signs : Fm) (G_whole_picture : Fm) (G_view : Fm) (G__law_view : Fm) (G_first_alike : Fm) : Sf := (sSeq (sAsg (eF (oCallI G__law_next 1 0 (aCons (eOwn 1) (aCons (eBin dAdd (eCa (f1 lenD) (aCons (eVar 5) aNil)) (eC (.int 1))) aNil)))) (gNm 6)) (p10_law G__law_draw G__law_next G__law_order G_is_picture G__law_same G_order_of_places G_sent_signs G_whole_picture G_view G__law_view G_first_alike))
def p8_law (G__law_draw : Fm) (G__law_next : Fm) (G__law_order : Fm) (G_is_picture : Fm) (G__law_same : Fm) (G_order_of_places : Fm) (G_sent_signs : Fm) (G_whole_picture : Fm) (G_view : Fm) (G__law_view : Fm) (G_first_alike : Fm) : Sf := (sSeq (sIf (tNot' (tB (eF (oCall G__law_same (aCons (eF (oCall G_whole_picture (aCons (eVar 10) (aCons (eVar 11) (aCons (eVar 5) aNil))))) (aCons (eVar 3) aNil)))))) (sRet (eC (.bl false))) sNil) (p9_law G__law_draw G__law_next G__law_order G_is_picture G__law_same G_order_of_places G_sent_signs G_whole_picture G_view G__law_view G_first_alike))
def p7_law (G__law_draw : Fm) (G__law_next : Fm) (G__law_order : Fm) (G_is_picture : Fm) (G__law_same : Fm) (G_order_of_places : Fm) (G_sent_signs : Fm) (G_whole_picture : Fm) (G_view : Fm) (G__law_view : Fm) (G_first_alike : Fm) : Sf := (sSeq (sIf (tOr' (tBl (eBin dIsNot (eF (oCall G_is_picture (aCons (eVar 3) aNil))) (eC (.bl true)))) (tOr' (tNot' (tB (eF (oCall G__law_same (aCons (eF (oCall G_order_of_places (aCons (eVar 10) (aCons (eVar 11) aNil)))) (aCons (eCa (f1 tupleD) (aCons (eVar 4) aNil)) aNil)))))) (tNot' (tB (eF (oCall G__law_same (aCons (eF (oCall G_sent_signs (aCons (eVar 3) aNil))) (aCons (eVar 5) aNil)))))))) (sRet (eC (.bl false))) sNil) (p8_law G__law_draw G__law_next G__law_order G_is_picture G__law_same G_order_of_places G_sent_signs G_whole_picture G_view G__law_view G_first_alike))
def p6_law (G__law_draw : Fm) (G__law_next : Fm) (G__law_order : Fm) (G_is_picture : Fm) (G__law_same : Fm) (G_order_of_places : Fm) (G_sent_signs : Fm) (G_whole_picture : Fm) (G_view : Fm) (G__law_view : Fm) (G_first_alike : Fm) : Sf := (sSeq (sAsg (eCa (f1 tupleD) (aCons (eF (oLc [16, 17] (iSeq (eVar 4)) (gTp (gsCons (gNm 16) (gsCons (gNm 17) gsNil))) tYesF (e3_law G__law_draw G__law_next G__law_order G_is_picture G__law_same G_order_of_places G_sent_signs G_whole_picture G_view G__law_view G_first_alike))) aNil)) (gNm 5)) (p7_law G__law_draw G__law_next G__law_order G_is_picture G__law_same G_order_of_places G_sent_signs G_whole_picture G_view G__law_view G_first_alike))
def p5_law (G__law_draw : Fm) (G__law_next : Fm) (G__law_order : Fm) (G_is_picture : Fm) (G__law_same : Fm) (G_order_of_places : Fm) (G_sent_signs : Fm) (G_whole_picture : Fm) (G_view : Fm) (G__law_view : Fm) (G_first_alike : Fm) : Sf := (sSeq (sAsg (eF (oCall G__law_order (aCons (eVar 10) (aCons (eVar 11) aNil)))) (gNm 4)) (p6_law G__law_draw G__law_next G__law_order G_is_picture G__law_same G_order_of_places G_sent_signs G_whole_picture G_view G__law_view G_first_alike))
def p4_law (G__law_draw : Fm) (G__law_next : Fm) (G__law_order : Fm) (G_is_picture : Fm) (G__law_same : Fm) (G_order_of_places : Fm) (G_sent_signs : Fm) (G_whole_picture : Fm) (G_view : Fm) (G__law_view : Fm) (G_first_alike : Fm) : Sf := (sSeq (sAsg (eTup (aCons (eVar 10) (aCons (eVar 2) aNil))) (gNm 3)) (p5_law G__law_draw G__law_next G__law_order G_is_picture G__law_same G_order_of_places G_sent_signs G_whole_picture G_view G__law_view G_first_alike))
def p3_law (G__law_draw : Fm) (G__law_next : Fm) (G__law_order : Fm) (G_is_picture : Fm) (G__law_same : Fm) (G_order_of_places : Fm) (G_sent_signs : Fm) (G_whole_picture : Fm) (G_view : Fm) (G__law_view : Fm) (G_first_alike : Fm) : Sf := (sSeq (sAsg (eCa (f1 tupleD) (aCons (eF (oLc [16] (TL.iRng1 (aCons (eVar 11) aNil)) (gNm 16) tYesF (e2_law G__law_draw G__law_next G__law_order G_is_picture G__law_same G_order_of_places G_sent_signs G_whole_picture G_view G__law_view G_first_alike))) aNil)) (gNm 2)) (p4_law G__law_draw G__law_next G__law_order G_is_picture G__law_same G_order_of_places G_sent_signs G_whole_picture G_view G__law_view G_first_alike))
def p2_law (G__law_draw : Fm) (G__law_next : Fm) (G__law_order : Fm) (G_is_picture : Fm) (G__law_same : Fm) (G_order_of_places : Fm) (G_sent_signs : Fm) (G_whole_picture : Fm) (G_view : Fm) (G__law_view : Fm) (G_first_alike : Fm) : Sf := (sSeq (sIf (tBl (eBin dEq (eF (oCallI G__law_next 1 0 (aCons (eOwn 1) (aCons (eC (.int 4)) aNil)))) (eC (.int 0)))) (sAsg (eTup (aCons (eBin dAdd (eVar 10) (eC (.int 5))) (aCons (eBin dAdd (eVar 11) (eC (.int 4))) aNil))) (gTp (gsCons (gNm 10) (gsCons (gNm 11) gsNil)))) sNil) (p3_law G__law_draw G__law_next G__law_order G_is_picture G__law_same G_order_of_places G_sent_signs G_whole_picture G_view G__law_view G_first_alike))
def b_law (G__law_draw : Fm) (G__law_next : Fm) (G__law_order : Fm) (G_is_picture : Fm) (G__law_same : Fm) (G_order_of_places : Fm) (G_sent_signs : Fm) (G_whole_picture : Fm) (G_view : Fm) (G__law_view : Fm) (G_first_alike : Fm) : Sf := (sSeq (sSetO 1 (oCall G__law_draw (aCons (eVar 0) aNil))) (sSeq (sAsg (eTup (aCons (eBin dAdd (eC (.int 1)) (eF (oCallI G__law_next 1 0 (aCons (eOwn 1) (aCons (eC (.int 6)) aNil))))) (aCons (eF (oCallI G__law_next 1 0 (aCons (eOwn 1) (aCons (eC (.int 7)) aNil)))) aNil))) (gTp (gsCons (gNm 10) (gsCons (gNm 11) gsNil)))) (p2_law G__law_draw G__law_next G__law_order G_is_picture G__law_same G_order_of_places G_sent_signs G_whole_picture G_view G__law_view G_first_alike)))
abbrev sg_law : Sg := ⟨[.sh], .sh⟩
abbrev ps_law : List Str := ["script"]
theorem c_law {P : Program} {w : World} {K : PySem.W.Frag} {mg : Str → Option Value} {base : Heap} {f : Addr} {fd : FuncData} {k : Nat} {G__law_draw : Fm} {G__law_next : Fm} {G__law_order : Fm} {G_is_picture : Fm} {G__law_same : Fm} {G_order_of_places : Fm} {G_sent_signs : Fm} {G_whole_picture : Fm} {G_view : Fm} {G__law_view : Fm} {G_first_alike : Fm} (D : Dfn K mg "law" s_law ps_law f fd) {f__law_draw : Addr} {fd__law_draw : FuncData} (c__law_draw : Cal P w K mg base f__law_draw fd__law_draw "_law_draw" k ps__law_draw sg__law_draw G__law_draw) {f__law_next : Addr} {fd__law_next : FuncData} (c__law_next : Cal P w K mg base f__law_next fd__law_next "_law_next" k ps__law_next sg__law_next G__law_next) {f__law_order : Addr} {fd__law_order : FuncData} (c__law_order : Cal P w K mg base f__law_order fd__law_order "_law_order" k ps__law_order sg__law_order G__law_order) {f_is_picture : Addr} {fd_is_picture : FuncData} (c_is_picture : Cal P w K mg base f_is_picture fd_is_picture "is_picture" k ps_is_picture sg_is_picture G_is_picture) {f__law_same : Addr} {fd__law_same : FuncData} (c__law_same : Cal P w K mg base f__law_same fd__law_same "_law_same" k ps__law_same sg__law_same G__law_same) {f_order_of_places : Addr} {fd_order_of_places : FuncData} (c_order_of_places : Cal P w K mg base f_order_of_places fd_order_of_places "order_of_places" k ps_order_of_places sg_order_of_places G_order_of_places) {f_sent_signs : Addr} {fd_sent_signs : FuncData} (c_sent_signs : Cal P w K mg base f_sent_signs fd_sent_signs "sent_signs" k ps_sent_signs sg_sent_signs G_sent_signs) {f_whole_picture : Addr} {fd_whole_picture : FuncData} (c_whole_picture : Cal P w K mg base f_whole_picture fd_whole_picture "whole_picture" k ps_whole_picture sg_whole_picture G_whole_picture) {f_view : Addr} {fd_view : FuncData} (c_view : Cal P w K mg base f_view fd_view "view" k ps_view sg_view G_view) {f__law_view : Addr} {fd__law_view : FuncData} (c__law_view : Cal P w K mg base f__law_view fd__law_view "_law_view" k ps__law_view sg__law_view G__law_view) {f_first_alike : Addr} {fd_first_alike : FuncData} (c_first_alike : Cal P w K mg base f_first_alike fd_first_alike "first_alike" k ps_first_alike sg_first_alike G_first_alike) (z_range : mg "range" = none) (z_tuple : mg "tuple" = none) (z_len : mg "len" = none) (z_isinstance : mg "isinstance" = none) (z_bool : mg "bool" = none) (z_int : mg "int" = none) (z_zip : mg "zip" = none) (z_sum : mg "sum" = none) :
    Cal P w K mg base f fd "law" (k + 1) ps_law sg_law (runF (b_law G__law_draw G__law_next G__law_order G_is_picture G__law_same G_order_of_places G_sent_signs G_whole_picture G_view G__law_view G_first_alike) 1 20) := by
  unfold b_law p2_law p3_law p4_law p5_law p6_law p7_law p8_law p9_law p10_law p11_law p12_law p13_law p14_law p15_law p16_law q7_law e6_law e5_law t4_law e3_law e2_law e1_law
  exact cal_ok (sg := sg_law) (τ' := [.no, .no, .no, .no, .no, .no, .no, .no, .no, .no, .no, .no, .no, .no, .no, .no, .no, .no, .no, .no, .no]) D sc_law ⟨[], .sh, [.no, .no, .no, .no, .no, .no, .no, .no, .no, .no, .no, .no, .no, .no, .no, .no, .no, .no, .no, .no, .no], [], []⟩ 20 rfl rfl rfl rfl rfl rfl (.inl rfl) fun cdv A outer s H E hr => (dss_cons (ds_setO 1 sc_law.nd rfl (by first | exact .inl rfl | exact .inr rfl) (do_fn c__law_draw hr 1 (by rfl) (da_cons (de_var 0 (pv 0)) da_nil))) (dss_cons (ds_asg (de_tup (da_cons (de_bin op_addD od_add de_int (de_F (do_fnI c__law_next hr 1 0 2 (by rfl) (dai_io 1 (pv 1) (dai_cons de_int dai_nil))))) (da_cons (de_F (do_fnI c__law_next hr 1 0 2 (by rfl) (dai_io 1 (pv 1) (dai_cons de_int dai_nil)))) da_nil))) (dg_tup rfl (dgs_cons (dg_name 10 sc_law.nd rfl (by first | exact .inl rfl | exact .inr rfl)) (dgs_cons (dg_name 11 sc_law.nd rfl (by first | exact .inl rfl | exact .inr rfl)) dgs_nil)) (gsCons_len (gsCons_len gsNil_len)))) (dss_cons (ds_if (dt_cmp (op_eqD (hu64 hr)) od_eq (de_F (do_fnI c__law_next hr 1 0 2 (by rfl) (dai_io 1 (pv 1) (dai_cons de_int dai_nil)))) de_int (nomark _)) (dss_one (ds_asg (de_tup (da_cons (de_bin op_addD od_add (de_var 10 (pv 10)) de_int) (da_cons (de_bin op_addD od_add (de_var 11 (pv 11)) de_int) da_nil))) (dg_tup rfl (dgs_cons (dg_name 10 sc_law.nd rfl (by first | exact .inl rfl | exact .inr rfl)) (dgs_cons (dg_name 11 sc_law.nd rfl (by first | exact .inl rfl | exact .inr rfl)) dgs_nil)) (gsCons_len (gsCons_len gsNil_len))))) dss_nil) (dss_cons (ds_set 2 sc_law.nd rfl (by first | exact .inl rfl | exact .inr rfl) (de_callTy call_tuple_of ca_tuple (by rfl) z_tuple bt_tuple (da_cons (de_F (do_lc (own := [("row", 16)]) rfl sc_law.nd (di_range1 (by rfl) z_range (da_cons (de_var 11 (pv 11)) da_nil)) (blkOk_by (by kernel_rfl)) (fun _ _ _ _ _ => (dg_name 16 sc_law.nd rfl (by first | exact .inl rfl | exact .inr rfl))) (fun _ _ _ _ _ => dts_nil) (fun _ _ _ _ _ => (do_E (de_callTy call_tuple_of ca_tuple (by rfl) z_tuple bt_tuple (da_cons (de_F (do_lc (own := [("column", 17)]) rfl sc_law.nd (di_range1 (by rfl) z_range (da_cons (de_var 10 (pv 10)) da_nil)) (blkOk_by (by kernel_rfl)) (fun _ _ _ _ _ => (dg_name 17 sc_law.nd rfl (by first | exact .inl rfl | exact .inr rfl))) (fun _ _ _ _ _ => dts_nil) (fun _ _ _ _ _ => (do_E (de_F (do_fnI c__law_next hr 1 0 2 (by rfl) (dai_io 1 (pv 1) (dai_cons de_int dai_nil)))))))) da_nil)))))) da_nil))) (dss_cons (ds_set 3 sc_law.nd rfl (by first | exact .inl rfl | exact .inr rfl) (de_tup (da_cons (de_var 10 (pv 10)) (da_cons (de_var 2 (pv 2)) da_nil)))) (dss_cons (ds_set 4 sc_law.nd rfl (by first | exact .inl rfl | exact .inr rfl) (de_F (do_fn c__law_order hr 2 (by rfl) (da_cons (de_var 10 (pv 10)) (da_cons (de_var 11 (pv 11)) da_nil))))) (dss_cons (ds_set 5 sc_law.nd rfl (by first | exact .inl rfl | exact .inr rfl) (de_callTy call_tuple_of ca_tuple (by rfl) z_tuple bt_tuple (da_cons (de_F (do_lc (own := [("row", 16), ("column", 17)]) rfl sc_law.nd (di_seq (de_var 4 (pv 4))) (blkOk_by (by kernel_rfl)) (fun _ _ _ _ _ => (dg_tup rfl (dgs_cons (dg_name 16 sc_law.nd rfl (by first | exact .inl rfl | exact .inr rfl)) (dgs_cons (dg_name 17 sc_law.nd rfl (by first | exact .inl rfl | exact .inr rfl)) dgs_nil)) (gsCons_len (gsCons_len gsNil_len)))) (fun _ _ _ _ _ => dts_nil) (fun _ _ _ _ _ => (do_E (de_ix ix_seq od_ix (de_ix ix_seq od_ix (de_var 2 (pv 2)) (de_var 16 (pv 16)) (fun _ _ => rfl)) (de_var 17 (pv 17)) (fun _ _ => rfl)))))) da_nil))) (dss_cons (ds_if (dt_w (dw_or (dt_cmp op_isNotD od_isNot (de_F (do_fn c_is_picture hr 1 (by rfl) (da_cons (de_var 3 (pv 3)) da_nil))) de_bl (nomark _)) (dw_or (dt_not (dt_truth (de_F (do_fn c__law_same hr 2 (by rfl) (da_cons (de_F (do_fn c_order_of_places hr 2 (by rfl) (da_cons (de_var 10 (pv 10)) (da_cons (de_var 11 (pv 11)) da_nil)))) (da_cons (de_callTy call_tuple_of ca_tuple (by rfl) z_tuple bt_tuple (da_cons (de_var 4 (pv 4)) da_nil)) da_nil)))))) (dw_or1 (dt_not (dt_truth (de_F (do_fn c__law_same hr 2 (by rfl) (da_cons (de_F (do_fn c_sent_signs hr 1 (by rfl) (da_cons (de_var 3 (pv 3)) da_nil))) (da_cons (de_var 5 (pv 5)) da_nil)))))))))) (dss_one (ds_ret de_bl)) dss_nil) (dss_cons (ds_if (dt_not (dt_truth (de_F (do_fn c__law_same hr 2 (by rfl) (da_cons (de_F (do_fn c_whole_picture hr 3 (by rfl) (da_cons (de_var 10 (pv 10)) (da_cons (de_var 11 (pv 11)) (da_cons (de_var 5 (pv 5)) da_nil))))) (da_cons (de_var 3 (pv 3)) da_nil)))))) (dss_one (ds_ret de_bl)) dss_nil) (dss_cons (ds_set 6 sc_law.nd rfl (by first | exact .inl rfl | exact .inr rfl) (de_F (do_fnI c__law_next hr 1 0 2 (by rfl) (dai_io 1 (pv 1) (dai_cons (de_bin op_addD od_add (de_callB call_len ca_len (by rfl) z_len bt_len (da_cons (de_var 5 (pv 5)) da_nil)) de_int) dai_nil))))) (dss_cons (ds_if (dt_not (dt_truth (de_F (do_fn c__law_same hr 2 (by rfl) (da_cons (de_F (do_fn c_view hr 3 (by rfl) (da_cons (de_var 10 (pv 10)) (da_cons (de_var 11 (pv 11)) (da_cons (de_slice sl_D sd_sl (de_var 5 (pv 5)) dp_no (dp_some (de_var 6 (pv 6)))) da_nil))))) (da_cons (de_F (do_fn c__law_view hr 3 (by rfl) (da_cons (de_var 10 (pv 10)) (da_cons (de_var 11 (pv 11)) (da_cons (de_slice sl_D sd_sl (de_var 5 (pv 5)) dp_no (dp_some (de_var 6 (pv 6)))) da_nil))))) da_nil)))))) (dss_one (ds_ret de_bl)) dss_nil) (dss_cons (ds_set 7 sc_law.nd rfl (by first | exact .inl rfl | exact .inr rfl) (de_F (do_fnI c__law_next hr 1 0 2 (by rfl) (dai_io 1 (pv 1) (dai_cons (de_bin op_addD od_add (de_callB call_len ca_len (by rfl) z_len bt_len (da_cons (de_var 5 (pv 5)) da_nil)) de_int) dai_nil))))) (dss_cons (ds_set 8 sc_law.nd rfl (by first | exact .inl rfl | exact .inr rfl) (de_F (do_fn c_first_alike hr 2 (by rfl) (da_cons (de_var 3 (pv 3)) (da_cons (de_var 7 (pv 7)) da_nil))))) (dss_cons (ds_if (dt_w (dw_or (dt_truth (de_isI .bool (by rfl) z_isinstance bt_isinstance (by rfl) z_bool bt_bool (de_var 8 (pv 8)))) (dw_or (dt_not (dt_truth (de_isI .int (by rfl) z_isinstance bt_isinstance (by rfl) z_int bt_int (de_var 8 (pv 8))))) (dw_or1 (dt_not (dt_chain op_le od_le op_le od_le de_int (de_var 8 (pv 8)) (de_callB call_len ca_len (by rfl) z_len bt_len (da_cons (de_var 5 (pv 5)) da_nil)))))))) (dss_one (ds_ret de_bl)) dss_nil) (dss_cons (ds_for (tbk := [.sh, (.oL .sh), .sh, .sh, .sh, .sh, .sh, .sh, .sh, .no, .sh, .sh, .no, .no, .no, .no, .no, .no, .no, .no, .no]) (tct := [.sh, (.oL .sh), .sh, .sh, .sh, .sh, .sh, .sh, .sh, .no, .sh, .sh, .no, .no, .no, .no, .no, .no, .no, .no, .no]) [12, 13, 14, 15] PassesOwn.never rfl (di_seq (de_F (do_lst (da_cons (de_tup (da_cons (de_var 8 (pv 8)) (da_cons de_bl da_nil))) (da_cons (de_tup (da_cons (de_bin op_sub od_sub (de_var 8 (pv 8)) de_int) (da_cons de_bl da_nil))) da_nil))))) (dg_tup rfl (dgs_cons (dg_name 12 sc_law.nd rfl (by first | exact .inl rfl | exact .inr rfl)) (dgs_cons (dg_name 13 sc_law.nd rfl (by first | exact .inl rfl | exact .inr rfl)) dgs_nil)) (gsCons_len (gsCons_len gsNil_len))) (dss_one (ds_if (dt_cmp op_ge od_ge (de_var 12 (pv 12)) de_int (nomark _)) (dss_kill [14, 15] (dss_cons (ds_set 14 sc_law.nd rfl (by first | exact .inl rfl | exact .inr rfl) (de_F (do_fn c__law_view hr 3 (by rfl) (da_cons (de_var 10 (pv 10)) (da_cons (de_var 11 (pv 11)) (da_cons (de_slice sl_D sd_sl (de_var 5 (pv 5)) dp_no (dp_some (de_var 12 (pv 12)))) da_nil)))))) (dss_cons (ds_set 15 sc_law.nd rfl (by first | exact .inl rfl | exact .inr rfl) (de_callB (cr_sum rfl) ca_sum (by rfl) z_sum bt_sum (da_cons (de_F (do_lc (own := [("row", 16), ("other", 18)]) rfl sc_law.nd (di_zip (by rfl) z_zip (da_cons (de_var 2 (pv 2)) (da_cons (de_var 14 (pv 14)) da_nil))) (blkOk_by (by kernel_rfl)) (fun _ _ _ _ _ => (dg_tup rfl (dgs_cons (dg_name 16 sc_law.nd rfl (by first | exact .inl rfl | exact .inr rfl)) (dgs_cons (dg_name 18 sc_law.nd rfl (by first | exact .inl rfl | exact .inr rfl)) dgs_nil)) (gsCons_len (gsCons_len gsNil_len)))) (fun _ _ _ _ _ => dts_nil) (fun _ _ _ _ _ => (do_E (de_callB (cr_sum rfl) ca_sum (by rfl) z_sum bt_sum (da_cons (de_F (do_lc (own := [("a", 19), ("b", 20)]) rfl sc_law.nd (di_zip (by rfl) z_zip (da_cons (de_var 16 (pv 16)) (da_cons (de_var 18 (pv 18)) da_nil))) (blkOk_by (by kernel_rfl)) (fun _ _ _ _ _ => (dg_tup rfl (dgs_cons (dg_name 19 sc_law.nd rfl (by first | exact .inl rfl | exact .inr rfl)) (dgs_cons (dg_name 20 sc_law.nd rfl (by first | exact .inl rfl | exact .inr rfl)) dgs_nil)) (gsCons_len (gsCons_len gsNil_len)))) (fun _ _ _ _ _ => (dts_one (dt_cmp (op_eqD (hu64 hr)) od_eq (de_var 19 (pv 19)) (de_var 20 (pv 20)) (nomark _)))) (fun _ _ _ _ _ => (do_E de_int)))) da_nil)))))) da_nil))) (dss_one (ds_if (dt_cmp (op_neD (hu64 hr)) od_ne (de_cmp op_ge od_ge (de_var 15 (pv 15)) (de_var 7 (pv 7)) (nomark _)) (de_var 13 (pv 13)) (nomark _)) (dss_one (ds_ret de_bl)) dss_nil))))) dss_nil))) (dss_cons (ds_set 9 sc_law.nd rfl (by first | exact .inl rfl | exact .inr rfl) (de_F (do_lst (da_cons (de_tup (da_cons de_int (da_cons (de_tup da_nil) da_nil))) (da_cons (de_tup (da_cons de_int (da_cons (de_tup da_nil) da_nil))) (da_cons (de_tup (da_cons de_int (da_cons (de_tup (da_cons (de_tup (da_cons de_int da_nil)) da_nil)) da_nil))) (da_cons (de_tup (da_cons de_int (da_cons (de_tup (da_cons (de_F (do_lst (da_cons de_int (da_cons de_int da_nil)))) da_nil)) da_nil))) (da_cons (de_tup (da_cons de_int (da_cons (de_tup (da_cons (de_tup (da_cons de_int da_nil)) da_nil)) da_nil))) (da_cons (de_tup (da_cons de_int (da_cons (de_tup (da_cons (de_tup (da_cons de_bl da_nil)) da_nil)) da_nil))) (da_cons (de_F (do_lst (da_cons de_int (da_cons (de_tup da_nil) da_nil)))) (da_cons (de_tup (da_cons de_int (da_cons (de_tup (da_cons (de_tup da_nil) da_nil)) da_nil))) (da_cons de_non (da_cons (de_tup (da_cons de_int da_nil)) da_nil))))))))))))) (dss_one (ds_ret (de_cmp op_isD od_is (de_F (do_fn c_is_picture hr 1 (by rfl) (da_cons (de_ix ix_seq od_ix (de_var 9 (pv 9)) (de_F (do_fnI c__law_next hr 1 0 2 (by rfl) (dai_io 1 (pv 1) (dai_cons (de_callB call_len ca_len (by rfl) z_len bt_len (da_cons (de_var 9 (pv 9)) da_nil)) dai_nil)))) (fun _ _ => rfl)) da_nil))) de_bl (nomark _))))))))))))))))))))
/-! ### all defs, one over the other -/
def F_is_integer : Fm := runF (b_is_integer) 1 0
def F_is_number : Fm := runF (b_is_number F_is_integer) 3 0
def F_is_row : Fm := runF (b_is_row) 3 0
def F_is_picture : Fm := runF (b_is_picture F_is_row F_is_number) 1 2
def F_steps_of_place : Fm := runF (b_steps_of_place) 2 1
def F_order_of_places : Fm := runF (b_order_of_places F_steps_of_place) 2 4
def F_sent_signs : Fm := runF (b_sent_signs F_order_of_places) 1 4
def F_view : Fm := runF (b_view F_order_of_places F_steps_of_place) 3 8
def F_whole_picture : Fm := runF (b_whole_picture F_view) 3 0
def F_alike : Fm := runF (b_alike) 2 5
def F_first_alike : Fm := runF (b_first_alike F_sent_signs F_alike F_view) 2 4
def F__law_draw : Fm := runF (b__law_draw) 1 0
def F__law_next : Fm := runF (b__law_next) 2 2
def R__law_same : Nat → Fm
  | 0 => fun _ => none
  | r + 1 => runF (b__law_same (R__law_same r)) 2 1
def F__law_same : Fm := R__law_same 8
def F__law_step : Fm := runF (b__law_step) 2 1
def F__law_order : Fm := runF (b__law_order F__law_step) 2 4
def F__law_view : Fm := runF (b__law_view F__law_order F__law_step) 3 8
def F_law : Fm := runF (b_law F__law_draw F__law_next F__law_order F_is_picture F__law_same F_order_of_places F_sent_signs F_whole_picture F_view F__law_view F_first_alike) 1 20
theorem law_cal {P : Program} {w : World} {K : PySem.W.Frag} {mg : Str → Option Value} {base : Heap} {f_is_integer : Addr} {fd_is_integer : FuncData} (D_is_integer : Dfn K mg "is_integer" s_is_integer ps_is_integer f_is_integer fd_is_integer) {f_is_number : Addr} {fd_is_number : FuncData} (D_is_number : Dfn K mg "is_number" s_is_number ps_is_number f_is_number fd_is_number) {f_is_row : Addr} {fd_is_row : FuncData} (D_is_row : Dfn K mg "is_row" s_is_row ps_is_row f_is_row fd_is_row) {f_is_picture : Addr} {fd_is_picture : FuncData} (D_is_picture : Dfn K mg "is_picture" s_is_picture ps_is_picture f_is_picture fd_is_picture) {f_steps_of_place : Addr} {fd_steps_of_place : FuncData} (D_steps_of_place : Dfn K mg "steps_of_place" s_steps_of_place ps_steps_of_place f_steps_of_place fd_steps_of_place) {f_order_of_places : Addr} {fd_order_of_places : FuncData} (D_order_of_places : Dfn K mg "order_of_places" s_order_of_places ps_order_of_places f_order_of_places fd_order_of_places) {f_sent_signs : Addr} {fd_sent_signs : FuncData} (D_sent_signs : Dfn K mg "sent_signs" s_sent_signs ps_sent_signs f_sent_signs fd_sent_signs) {f_view : Addr} {fd_view : FuncData} (D_view : Dfn K mg "view" s_view ps_view f_view fd_view) {f_whole_picture : Addr} {fd_whole_picture : FuncData} (D_whole_picture : Dfn K mg "whole_picture" s_whole_picture ps_whole_picture f_whole_picture fd_whole_picture) {f_alike : Addr} {fd_alike : FuncData} (D_alike : Dfn K mg "alike" s_alike ps_alike f_alike fd_alike) {f_first_alike : Addr} {fd_first_alike : FuncData} (D_first_alike : Dfn K mg "first_alike" s_first_alike ps_first_alike f_first_alike fd_first_alike) {f__law_draw : Addr} {fd__law_draw : FuncData} (D__law_draw : Dfn K mg "_law_draw" s__law_draw ps__law_draw f__law_draw fd__law_draw) {f__law_next : Addr} {fd__law_next : FuncData} (D__law_next : Dfn K mg "_law_next" s__law_next ps__law_next f__law_next fd__law_next) {f__law_same : Addr} {fd__law_same : FuncData} (D__law_same : Dfn K mg "_law_same" s__law_same ps__law_same f__law_same fd__law_same) {f__law_step : Addr} {fd__law_step : FuncData} (D__law_step : Dfn K mg "_law_step" s__law_step ps__law_step f__law_step fd__law_step) {f__law_order : Addr} {fd__law_order : FuncData} (D__law_order : Dfn K mg "_law_order" s__law_order ps__law_order f__law_order fd__law_order) {f__law_view : Addr} {fd__law_view : FuncData} (D__law_view : Dfn K mg "_law_view" s__law_view ps__law_view f__law_view fd__law_view) {f_law : Addr} {fd_law : FuncData} (D_law : Dfn K mg "law" s_law ps_law f_law fd_law) (z_abs : mg "abs" = none) (z_all : mg "all" = none) (z_bool : mg "bool" = none) (z_int : mg "int" = none) (z_isinstance : mg "isinstance" = none) (z_len : mg "len" = none) (z_list : mg "list" = none) (z_min : mg "min" = none) (z_range : mg "range" = none) (z_sorted : mg "sorted" = none) (z_str : mg "str" = none) (z_sum : mg "sum" = none) (z_tuple : mg "tuple" = none) (z_zip : mg "zip" = none) (k_STEPS : KC K mg "STEPS" k_STEPS) :
    Cal P w K mg base f_law fd_law "law" 10 ps_law sg_law F_law := by
  have C_is_integer : Cal P w K mg base f_is_integer fd_is_integer "is_integer" 1 ps_is_integer sg_is_integer F_is_integer := c_is_integer (k := 0) D_is_integer z_isinstance z_int z_bool
  have C_is_number : Cal P w K mg base f_is_number fd_is_number "is_number" 2 ps_is_number sg_is_number F_is_number := c_is_number (k := 1) D_is_number (C_is_integer.mono (by decide))
  have C_is_row : Cal P w K mg base f_is_row fd_is_row "is_row" 1 ps_is_row sg_is_row F_is_row := c_is_row (k := 0) D_is_row z_isinstance z_tuple z_len
  have C_is_picture : Cal P w K mg base f_is_picture fd_is_picture "is_picture" 3 ps_is_picture sg_is_picture F_is_picture := c_is_picture (k := 2) D_is_picture (C_is_row.mono (by decide)) (C_is_number.mono (by decide)) z_all
  have C_steps_of_place : Cal P w K mg base f_steps_of_place fd_steps_of_place "steps_of_place" 1 ps_steps_of_place sg_steps_of_place F_steps_of_place := c_steps_of_place (k := 0) D_steps_of_place k_STEPS
  have C_order_of_places : Cal P w K mg base f_order_of_places fd_order_of_places "order_of_places" 2 ps_order_of_places sg_order_of_places F_order_of_places := c_order_of_places (k := 1) D_order_of_places (C_steps_of_place.mono (by decide)) z_range z_tuple k_STEPS
  have C_sent_signs : Cal P w K mg base f_sent_signs fd_sent_signs "sent_signs" 3 ps_sent_signs sg_sent_signs F_sent_signs := c_sent_signs (k := 2) D_sent_signs (C_order_of_places.mono (by decide)) z_len z_tuple
  have C_view : Cal P w K mg base f_view fd_view "view" 3 ps_view sg_view F_view := c_view (k := 2) D_view (C_order_of_places.mono (by decide)) (C_steps_of_place.mono (by decide)) z_range z_zip z_min z_tuple
  have C_whole_picture : Cal P w K mg base f_whole_picture fd_whole_picture "whole_picture" 4 ps_whole_picture sg_whole_picture F_whole_picture := c_whole_picture (k := 3) D_whole_picture (C_view.mono (by decide))
  have C_alike : Cal P w K mg base f_alike fd_alike "alike" 1 ps_alike sg_alike F_alike := c_alike (k := 0) D_alike z_zip z_len
  have C_first_alike : Cal P w K mg base f_first_alike fd_first_alike "first_alike" 4 ps_first_alike sg_first_alike F_first_alike := c_first_alike (k := 3) D_first_alike (C_sent_signs.mono (by decide)) (C_alike.mono (by decide)) (C_view.mono (by decide)) z_len z_range
  have C__law_draw : Cal P w K mg base f__law_draw fd__law_draw "_law_draw" 1 ps__law_draw sg__law_draw F__law_draw := c__law_draw (k := 0) D__law_draw z_list
  have C__law_next : Cal P w K mg base f__law_next fd__law_next "_law_next" 1 ps__law_next sg__law_next F__law_next := c__law_next (k := 0) D__law_next z_int z_len z_abs
  have C__law_same : Cal P w K mg base f__law_same fd__law_same "_law_same" 9 ps__law_same sg__law_same F__law_same := by
    have go : ∀ r, Cal P w K mg base f__law_same fd__law_same "_law_same" (0 + 1 + r) ps__law_same sg__law_same (R__law_same r) := by
      intro r
      induction r with
      | zero => exact Cal.none D__law_same
      | succ r ih => exact (c__law_same (k := 0 + 1 + r) D__law_same ih z_isinstance z_list z_tuple z_len z_range z_all z_bool z_str z_int)
    exact go 8
  have C__law_step : Cal P w K mg base f__law_step fd__law_step "_law_step" 1 ps__law_step sg__law_step F__law_step := c__law_step (k := 0) D__law_step
  have C__law_order : Cal P w K mg base f__law_order fd__law_order "_law_order" 2 ps__law_order sg__law_order F__law_order := c__law_order (k := 1) D__law_order (C__law_step.mono (by decide)) z_range z_sorted
  have C__law_view : Cal P w K mg base f__law_view fd__law_view "_law_view" 3 ps__law_view sg__law_view F__law_view := c__law_view (k := 2) D__law_view (C__law_order.mono (by decide)) (C__law_step.mono (by decide)) z_range z_len z_tuple
  have C_law : Cal P w K mg base f_law fd_law "law" 10 ps_law sg_law F_law := c_law (k := 9) D_law (C__law_draw.mono (by decide)) (C__law_next.mono (by decide)) (C__law_order.mono (by decide)) (C_is_picture.mono (by decide)) (C__law_same.mono (by decide)) (C_order_of_places.mono (by decide)) (C_sent_signs.mono (by decide)) (C_whole_picture.mono (by decide)) (C_view.mono (by decide)) (C__law_view.mono (by decide)) (C_first_alike.mono (by decide)) z_range z_tuple z_len z_isinstance z_bool z_int z_zip z_sum
  exact C_law
set_option maxHeartbeats 0 in
theorem all_mk {l : PySem.W.OpenLaw} {w : World} {K : PySem.W.Frag} {h : Heap} {mg : Str → Option Value} {fa : Addr} (X : K.In h) (G : h.Ns mainGlobals mg) (hfa : mg "law" = some (.ref fa))
    {f0 : Addr} {od0 an0 : Option Addr} {sl0 : Array (Option Value)} {oc0 kV0 dc0 pm0 cd0 ct0 : Value}
    (a0 : PySem.W.nsIn K mainGlobals "is_integer" = some (some (.ref f0))) (l0 : K.lookup f0 = some ⟨oc0, od0, .func (PySem.W.fnOf "is_integer" "is_integer" (defArgs s_is_integer) (defBody s_is_integer) (defScope s_is_integer) .none kV0 dc0 pm0 an0 cd0 ct0), sl0⟩) (c0 : PySem.W.codeIn K cd0 "is_integer" = true) (k0 : PySem.W.keepIn K (.ref f0) = true)
    {f1 : Addr} {od1 an1 : Option Addr} {sl1 : Array (Option Value)} {oc1 kV1 dc1 pm1 cd1 ct1 : Value}
    (a1 : PySem.W.nsIn K mainGlobals "is_number" = some (some (.ref f1))) (l1 : K.lookup f1 = some ⟨oc1, od1, .func (PySem.W.fnOf "is_number" "is_number" (defArgs s_is_number) (defBody s_is_number) (defScope s_is_number) .none kV1 dc1 pm1 an1 cd1 ct1), sl1⟩) (c1 : PySem.W.codeIn K cd1 "is_number" = true) (k1 : PySem.W.keepIn K (.ref f1) = true)
    {f2 : Addr} {od2 an2 : Option Addr} {sl2 : Array (Option Value)} {oc2 kV2 dc2 pm2 cd2 ct2 : Value}
    (a2 : PySem.W.nsIn K mainGlobals "is_row" = some (some (.ref f2))) (l2 : K.lookup f2 = some ⟨oc2, od2, .func (PySem.W.fnOf "is_row" "is_row" (defArgs s_is_row) (defBody s_is_row) (defScope s_is_row) .none kV2 dc2 pm2 an2 cd2 ct2), sl2⟩) (c2 : PySem.W.codeIn K cd2 "is_row" = true) (k2 : PySem.W.keepIn K (.ref f2) = true)
    {f3 : Addr} {od3 an3 : Option Addr} {sl3 : Array (Option Value)} {oc3 kV3 dc3 pm3 cd3 ct3 : Value}
    (a3 : PySem.W.nsIn K mainGlobals "is_picture" = some (some (.ref f3))) (l3 : K.lookup f3 = some ⟨oc3, od3, .func (PySem.W.fnOf "is_picture" "is_picture" (defArgs s_is_picture) (defBody s_is_picture) (defScope s_is_picture) .none kV3 dc3 pm3 an3 cd3 ct3), sl3⟩) (c3 : PySem.W.codeIn K cd3 "is_picture" = true) (k3 : PySem.W.keepIn K (.ref f3) = true)
    {f4 : Addr} {od4 an4 : Option Addr} {sl4 : Array (Option Value)} {oc4 kV4 dc4 pm4 cd4 ct4 : Value}
    (a4 : PySem.W.nsIn K mainGlobals "steps_of_place" = some (some (.ref f4))) (l4 : K.lookup f4 = some ⟨oc4, od4, .func (PySem.W.fnOf "steps_of_place" "steps_of_place" (defArgs s_steps_of_place) (defBody s_steps_of_place) (defScope s_steps_of_place) .none kV4 dc4 pm4 an4 cd4 ct4), sl4⟩) (c4 : PySem.W.codeIn K cd4 "steps_of_place" = true) (k4 : PySem.W.keepIn K (.ref f4) = true)
    {f5 : Addr} {od5 an5 : Option Addr} {sl5 : Array (Option Value)} {oc5 kV5 dc5 pm5 cd5 ct5 : Value}
    (a5 : PySem.W.nsIn K mainGlobals "order_of_places" = some (some (.ref f5))) (l5 : K.lookup f5 = some ⟨oc5, od5, .func (PySem.W.fnOf "order_of_places" "order_of_places" (defArgs s_order_of_places) (defBody s_order_of_places) (defScope s_order_of_places) .none kV5 dc5 pm5 an5 cd5 ct5), sl5⟩) (c5 : PySem.W.codeIn K cd5 "order_of_places" = true) (k5 : PySem.W.keepIn K (.ref f5) = true)
    {f6 : Addr} {od6 an6 : Option Addr} {sl6 : Array (Option Value)} {oc6 kV6 dc6 pm6 cd6 ct6 : Value}
    (a6 : PySem.W.nsIn K mainGlobals "sent_signs" = some (some (.ref f6))) (l6 : K.lookup f6 = some ⟨oc6, od6, .func (PySem.W.fnOf "sent_signs" "sent_signs" (defArgs s_sent_signs) (defBody s_sent_signs) (defScope s_sent_signs) .none kV6 dc6 pm6 an6 cd6 ct6), sl6⟩) (c6 : PySem.W.codeIn K cd6 "sent_signs" = true) (k6 : PySem.W.keepIn K (.ref f6) = true)
    {f7 : Addr} {od7 an7 : Option Addr} {sl7 : Array (Option Value)} {oc7 kV7 dc7 pm7 cd7 ct7 : Value}
    (a7 : PySem.W.nsIn K mainGlobals "view" = some (some (.ref f7))) (l7 : K.lookup f7 = some ⟨oc7, od7, .func (PySem.W.fnOf "view" "view" (defArgs s_view) (defBody s_view) (defScope s_view) .none kV7 dc7 pm7 an7 cd7 ct7), sl7⟩) (c7 : PySem.W.codeIn K cd7 "view" = true) (k7 : PySem.W.keepIn K (.ref f7) = true)
    {f8 : Addr} {od8 an8 : Option Addr} {sl8 : Array (Option Value)} {oc8 kV8 dc8 pm8 cd8 ct8 : Value}
    (a8 : PySem.W.nsIn K mainGlobals "whole_picture" = some (some (.ref f8))) (l8 : K.lookup f8 = some ⟨oc8, od8, .func (PySem.W.fnOf "whole_picture" "whole_picture" (defArgs s_whole_picture) (defBody s_whole_picture) (defScope s_whole_picture) .none kV8 dc8 pm8 an8 cd8 ct8), sl8⟩) (c8 : PySem.W.codeIn K cd8 "whole_picture" = true) (k8 : PySem.W.keepIn K (.ref f8) = true)
    {f9 : Addr} {od9 an9 : Option Addr} {sl9 : Array (Option Value)} {oc9 kV9 dc9 pm9 cd9 ct9 : Value}
    (a9 : PySem.W.nsIn K mainGlobals "alike" = some (some (.ref f9))) (l9 : K.lookup f9 = some ⟨oc9, od9, .func (PySem.W.fnOf "alike" "alike" (defArgs s_alike) (defBody s_alike) (defScope s_alike) .none kV9 dc9 pm9 an9 cd9 ct9), sl9⟩) (c9 : PySem.W.codeIn K cd9 "alike" = true) (k9 : PySem.W.keepIn K (.ref f9) = true)
    {f10 : Addr} {od10 an10 : Option Addr} {sl10 : Array (Option Value)} {oc10 kV10 dc10 pm10 cd10 ct10 : Value}
    (a10 : PySem.W.nsIn K mainGlobals "first_alike" = some (some (.ref f10))) (l10 : K.lookup f10 = some ⟨oc10, od10, .func (PySem.W.fnOf "first_alike" "first_alike" (defArgs s_first_alike) (defBody s_first_alike) (defScope s_first_alike) .none kV10 dc10 pm10 an10 cd10 ct10), sl10⟩) (c10 : PySem.W.codeIn K cd10 "first_alike" = true) (k10 : PySem.W.keepIn K (.ref f10) = true)
    {f11 : Addr} {od11 an11 : Option Addr} {sl11 : Array (Option Value)} {oc11 kV11 dc11 pm11 cd11 ct11 : Value}
    (a11 : PySem.W.nsIn K mainGlobals "_law_draw" = some (some (.ref f11))) (l11 : K.lookup f11 = some ⟨oc11, od11, .func (PySem.W.fnOf "_law_draw" "_law_draw" (defArgs s__law_draw) (defBody s__law_draw) (defScope s__law_draw) .none kV11 dc11 pm11 an11 cd11 ct11), sl11⟩) (c11 : PySem.W.codeIn K cd11 "_law_draw" = true) (k11 : PySem.W.keepIn K (.ref f11) = true)
    {f12 : Addr} {od12 an12 : Option Addr} {sl12 : Array (Option Value)} {oc12 kV12 dc12 pm12 cd12 ct12 : Value}
    (a12 : PySem.W.nsIn K mainGlobals "_law_next" = some (some (.ref f12))) (l12 : K.lookup f12 = some ⟨oc12, od12, .func (PySem.W.fnOf "_law_next" "_law_next" (defArgs s__law_next) (defBody s__law_next) (defScope s__law_next) .none kV12 dc12 pm12 an12 cd12 ct12), sl12⟩) (c12 : PySem.W.codeIn K cd12 "_law_next" = true) (k12 : PySem.W.keepIn K (.ref f12) = true)
    {f13 : Addr} {od13 an13 : Option Addr} {sl13 : Array (Option Value)} {oc13 kV13 dc13 pm13 cd13 ct13 : Value}
    (a13 : PySem.W.nsIn K mainGlobals "_law_same" = some (some (.ref f13))) (l13 : K.lookup f13 = some ⟨oc13, od13, .func (PySem.W.fnOf "_law_same" "_law_same" (defArgs s__law_same) (defBody s__law_same) (defScope s__law_same) .none kV13 dc13 pm13 an13 cd13 ct13), sl13⟩) (c13 : PySem.W.codeIn K cd13 "_law_same" = true) (k13 : PySem.W.keepIn K (.ref f13) = true)
    {f14 : Addr} {od14 an14 : Option Addr} {sl14 : Array (Option Value)} {oc14 kV14 dc14 pm14 cd14 ct14 : Value}
    (a14 : PySem.W.nsIn K mainGlobals "_law_step" = some (some (.ref f14))) (l14 : K.lookup f14 = some ⟨oc14, od14, .func (PySem.W.fnOf "_law_step" "_law_step" (defArgs s__law_step) (defBody s__law_step) (defScope s__law_step) .none kV14 dc14 pm14 an14 cd14 ct14), sl14⟩) (c14 : PySem.W.codeIn K cd14 "_law_step" = true) (k14 : PySem.W.keepIn K (.ref f14) = true)
    {f15 : Addr} {od15 an15 : Option Addr} {sl15 : Array (Option Value)} {oc15 kV15 dc15 pm15 cd15 ct15 : Value}
    (a15 : PySem.W.nsIn K mainGlobals "_law_order" = some (some (.ref f15))) (l15 : K.lookup f15 = some ⟨oc15, od15, .func (PySem.W.fnOf "_law_order" "_law_order" (defArgs s__law_order) (defBody s__law_order) (defScope s__law_order) .none kV15 dc15 pm15 an15 cd15 ct15), sl15⟩) (c15 : PySem.W.codeIn K cd15 "_law_order" = true) (k15 : PySem.W.keepIn K (.ref f15) = true)
    {f16 : Addr} {od16 an16 : Option Addr} {sl16 : Array (Option Value)} {oc16 kV16 dc16 pm16 cd16 ct16 : Value}
    (a16 : PySem.W.nsIn K mainGlobals "_law_view" = some (some (.ref f16))) (l16 : K.lookup f16 = some ⟨oc16, od16, .func (PySem.W.fnOf "_law_view" "_law_view" (defArgs s__law_view) (defBody s__law_view) (defScope s__law_view) .none kV16 dc16 pm16 an16 cd16 ct16), sl16⟩) (c16 : PySem.W.codeIn K cd16 "_law_view" = true) (k16 : PySem.W.keepIn K (.ref f16) = true)
    {f17 : Addr} {od17 an17 : Option Addr} {sl17 : Array (Option Value)} {oc17 kV17 dc17 pm17 cd17 ct17 : Value}
    (a17 : PySem.W.nsIn K mainGlobals "law" = some (some (.ref f17))) (l17 : K.lookup f17 = some ⟨oc17, od17, .func (PySem.W.fnOf "law" "law" (defArgs s_law) (defBody s_law) (defScope s_law) .none kV17 dc17 pm17 an17 cd17 ct17), sl17⟩) (c17 : PySem.W.codeIn K cd17 "law" = true) (k17 : PySem.W.keepIn K (.ref f17) = true)
    (z0 : PySem.W.nsIn K mainGlobals "abs" = some none)
    (z1 : PySem.W.nsIn K mainGlobals "all" = some none)
    (z2 : PySem.W.nsIn K mainGlobals "bool" = some none)
    (z3 : PySem.W.nsIn K mainGlobals "int" = some none)
    (z4 : PySem.W.nsIn K mainGlobals "isinstance" = some none)
    (z5 : PySem.W.nsIn K mainGlobals "len" = some none)
    (z6 : PySem.W.nsIn K mainGlobals "list" = some none)
    (z7 : PySem.W.nsIn K mainGlobals "min" = some none)
    (z8 : PySem.W.nsIn K mainGlobals "range" = some none)
    (z9 : PySem.W.nsIn K mainGlobals "sorted" = some none)
    (z10 : PySem.W.nsIn K mainGlobals "str" = some none)
    (z11 : PySem.W.nsIn K mainGlobals "sum" = some none)
    (z12 : PySem.W.nsIn K mainGlobals "tuple" = some none)
    (z13 : PySem.W.nsIn K mainGlobals "zip" = some none)
    {p0 : Addr} {t0_0 t0_1 t0_2 t0_3 : Tok} {dd0 : Option Addr} {nn0 : Nat} {ss0 : Array (Option Value)} (m0 : PySem.W.nsIn K mainGlobals "STEPS" = some (some (.ref p0))) (v0 : K.lookup p0 = some ⟨.type "tuple", dd0, .seq #[.int 8 t0_0, .int 4 t0_1, .int 2 t0_2, .int 1 t0_3] nn0, ss0⟩) :
    ∃ fd : FuncData, (∀ (s : Shared) (v : Value), BindsTo s fd ⟨[v], []⟩ [("script", v)]) ∧ ∀ base : Heap, K.In base → base.Ns mainGlobals mg → FnOk l.prog w K mg base CX0 10 fa fd ["script"] (spD K mg sgL F_law) := by
  have e := hfa.symm.trans (PySem.W.mg_of X G a17)
  cases e
  have F0 := fun_mk (st := s_is_integer) l0 c0 k0
  have D0 : Dfn K mg "is_integer" s_is_integer ps_is_integer _ _ := ⟨F0, PySem.W.mg_of X G a0, F0.binds (ps := ps_is_integer) fun _ _ _ _ _ _ us hl => match us, hl with | [_], _ => rfl⟩
  have F1 := fun_mk (st := s_is_number) l1 c1 k1
  have D1 : Dfn K mg "is_number" s_is_number ps_is_number _ _ := ⟨F1, PySem.W.mg_of X G a1, F1.binds (ps := ps_is_number) fun _ _ _ _ _ _ us hl => match us, hl with | [_, _, _], _ => rfl⟩
  have F2 := fun_mk (st := s_is_row) l2 c2 k2
  have D2 : Dfn K mg "is_row" s_is_row ps_is_row _ _ := ⟨F2, PySem.W.mg_of X G a2, F2.binds (ps := ps_is_row) fun _ _ _ _ _ _ us hl => match us, hl with | [_, _, _], _ => rfl⟩
  have F3 := fun_mk (st := s_is_picture) l3 c3 k3
  have D3 : Dfn K mg "is_picture" s_is_picture ps_is_picture _ _ := ⟨F3, PySem.W.mg_of X G a3, F3.binds (ps := ps_is_picture) fun _ _ _ _ _ _ us hl => match us, hl with | [_], _ => rfl⟩
  have F4 := fun_mk (st := s_steps_of_place) l4 c4 k4
  have D4 : Dfn K mg "steps_of_place" s_steps_of_place ps_steps_of_place _ _ := ⟨F4, PySem.W.mg_of X G a4, F4.binds (ps := ps_steps_of_place) fun _ _ _ _ _ _ us hl => match us, hl with | [_, _], _ => rfl⟩
  have F5 := fun_mk (st := s_order_of_places) l5 c5 k5
  have D5 : Dfn K mg "order_of_places" s_order_of_places ps_order_of_places _ _ := ⟨F5, PySem.W.mg_of X G a5, F5.binds (ps := ps_order_of_places) fun _ _ _ _ _ _ us hl => match us, hl with | [_, _], _ => rfl⟩
  have F6 := fun_mk (st := s_sent_signs) l6 c6 k6
  have D6 : Dfn K mg "sent_signs" s_sent_signs ps_sent_signs _ _ := ⟨F6, PySem.W.mg_of X G a6, F6.binds (ps := ps_sent_signs) fun _ _ _ _ _ _ us hl => match us, hl with | [_], _ => rfl⟩
  have F7 := fun_mk (st := s_view) l7 c7 k7
  have D7 : Dfn K mg "view" s_view ps_view _ _ := ⟨F7, PySem.W.mg_of X G a7, F7.binds (ps := ps_view) fun _ _ _ _ _ _ us hl => match us, hl with | [_, _, _], _ => rfl⟩
  have F8 := fun_mk (st := s_whole_picture) l8 c8 k8
  have D8 : Dfn K mg "whole_picture" s_whole_picture ps_whole_picture _ _ := ⟨F8, PySem.W.mg_of X G a8, F8.binds (ps := ps_whole_picture) fun _ _ _ _ _ _ us hl => match us, hl with | [_, _, _], _ => rfl⟩
  have F9 := fun_mk (st := s_alike) l9 c9 k9
  have D9 : Dfn K mg "alike" s_alike ps_alike _ _ := ⟨F9, PySem.W.mg_of X G a9, F9.binds (ps := ps_alike) fun _ _ _ _ _ _ us hl => match us, hl with | [_, _], _ => rfl⟩
  have F10 := fun_mk (st := s_first_alike) l10 c10 k10
  have D10 : Dfn K mg "first_alike" s_first_alike ps_first_alike _ _ := ⟨F10, PySem.W.mg_of X G a10, F10.binds (ps := ps_first_alike) fun _ _ _ _ _ _ us hl => match us, hl with | [_, _], _ => rfl⟩
  have F11 := fun_mk (st := s__law_draw) l11 c11 k11
  have D11 : Dfn K mg "_law_draw" s__law_draw ps__law_draw _ _ := ⟨F11, PySem.W.mg_of X G a11, F11.binds (ps := ps__law_draw) fun _ _ _ _ _ _ us hl => match us, hl with | [_], _ => rfl⟩
  have F12 := fun_mk (st := s__law_next) l12 c12 k12
  have D12 : Dfn K mg "_law_next" s__law_next ps__law_next _ _ := ⟨F12, PySem.W.mg_of X G a12, F12.binds (ps := ps__law_next) fun _ _ _ _ _ _ us hl => match us, hl with | [_, _], _ => rfl⟩
  have F13 := fun_mk (st := s__law_same) l13 c13 k13
  have D13 : Dfn K mg "_law_same" s__law_same ps__law_same _ _ := ⟨F13, PySem.W.mg_of X G a13, F13.binds (ps := ps__law_same) fun _ _ _ _ _ _ us hl => match us, hl with | [_, _], _ => rfl⟩
  have F14 := fun_mk (st := s__law_step) l14 c14 k14
  have D14 : Dfn K mg "_law_step" s__law_step ps__law_step _ _ := ⟨F14, PySem.W.mg_of X G a14, F14.binds (ps := ps__law_step) fun _ _ _ _ _ _ us hl => match us, hl with | [_, _], _ => rfl⟩
  have F15 := fun_mk (st := s__law_order) l15 c15 k15
  have D15 : Dfn K mg "_law_order" s__law_order ps__law_order _ _ := ⟨F15, PySem.W.mg_of X G a15, F15.binds (ps := ps__law_order) fun _ _ _ _ _ _ us hl => match us, hl with | [_, _], _ => rfl⟩
  have F16 := fun_mk (st := s__law_view) l16 c16 k16
  have D16 : Dfn K mg "_law_view" s__law_view ps__law_view _ _ := ⟨F16, PySem.W.mg_of X G a16, F16.binds (ps := ps__law_view) fun _ _ _ _ _ _ us hl => match us, hl with | [_, _, _], _ => rfl⟩
  have F17 := fun_mk (st := s_law) l17 c17 k17
  have D17 : Dfn K mg "law" s_law ps_law _ _ := ⟨F17, PySem.W.mg_of X G a17, F17.binds (ps := ps_law) fun _ _ _ _ _ _ us hl => match us, hl with | [_], _ => rfl⟩
  have K0 : KC K mg "STEPS" k_STEPS := ⟨.ref p0, .ref p0, PySem.W.mg_of X G m0, rfl, fun _ => .tup (vs := [.int 8, .int 4, .int 2, .int 1]) (.inr ⟨_, _, _, v0, rfl, rfl, by simp [sizeLine], (.cons ⟨_, rfl⟩ (.cons ⟨_, rfl⟩ (.cons ⟨_, rfl⟩ (.cons ⟨_, rfl⟩ .nil))))⟩) (.cons (.int _) (.cons (.int _) (.cons (.int _) (.cons (.int _) .nil))))⟩
  exact ⟨_, fun s v => .of_eq rfl, fun base _ _ => (law_cal (base := base) D0 D1 D2 D3 D4 D5 D6 D7 D8 D9 D10 D11 D12 D13 D14 D15 D16 D17 (PySem.W.mg_none_of X G z0) (PySem.W.mg_none_of X G z1) (PySem.W.mg_none_of X G z2) (PySem.W.mg_none_of X G z3) (PySem.W.mg_none_of X G z4) (PySem.W.mg_none_of X G z5) (PySem.W.mg_none_of X G z6) (PySem.W.mg_none_of X G z7) (PySem.W.mg_none_of X G z8) (PySem.W.mg_none_of X G z9) (PySem.W.mg_none_of X G z10) (PySem.W.mg_none_of X G z11) (PySem.W.mg_none_of X G z12) (PySem.W.mg_none_of X G z13) K0).ok⟩
end K52

namespace K52
open PySem PySem.Spec PyProof.Rows L2 TL

/-! steps -/
def dv (s r c : Nat) : Bool := decide (r % s = 0) && decide (c % s = 0)
def stp (r c : Nat) : Nat := if dv 8 r c then 8 else if dv 4 r c then 4 else if dv 2 r c then 2 else 1
theorem castmod (r s : Nat) : (((r : Nat) : Int) % (s : Nat) == 0) = decide (r % s = 0) := by
  rw [Bool.eq_iff_iff]; simp; omega
theorem castmod2 (r c s : Nat) : ((((r : Nat) : Int) % (s : Nat) == 0) && (((c : Nat) : Int) % (s : Nat) == 0)) = dv s r c := by
  rw [castmod, castmod]; rfl
theorem stp_find (r c : Nat) : [8, 4, 2, 1].find? (fun s => dv s r c) = some (stp r c) := by
  simp only [List.find?_cons, stp]
  cases dv 8 r c <;> cases dv 4 r c <;> cases dv 2 r c <;> simp [dv, Nat.mod_one]
theorem steps_ok (r c : Nat) : F_steps_of_place [.int (r : Int), .int (c : Int)] = some (.int (stp r c : Int), [.int (r : Int), .int (c : Int)]) := by
  unfold F_steps_of_place b_steps_of_place
  rw [v_run2]
  have key := loop_find (b := stepB (gNm 2) q1_steps_of_place) (ks := [2])
    (fun s : Nat => D.int (s : Nat)) [.int (r : Int), .int (c : Int), .non] (fun s => dv s r c) (fun s : Nat => D.int (s : Nat)) (fun s => [.int (r : Int), .int (c : Int), .int (s : Nat)]) [8, 4, 2, 1] (by
    intro s hs
    have hs0 : 0 < s := by simp at hs; omega
    have e := castmod2 r c s
    cases h1 : (((r : Nat) : Int) % (s : Nat) == 0) <;> cases h2 : (((c : Nat) : Int) % (s : Nat) == 0) <;> rw [h1, h2] at e <;> simp only [Bool.and_true, Bool.and_false, Bool.and_self] at e <;> rw [← e] <;> simp [q1_steps_of_place, hs0, h1, h2, -beq_iff_eq])
  rw [stp_find] at key
  simp only [List.map_cons, List.map_nil, Int.cast_ofNat_Int] at key
  simp [k_STEPS, key]
theorem lstep_ok (r c : Nat) : F__law_step [.int (r : Int), .int (c : Int)] = some (.int (stp r c : Int), [.int (r : Int), .int (c : Int)]) := by
  unfold F__law_step b__law_step
  rw [v_run2]
  have e := lc_map (step := stepLc [2] (gNm 2) t1__law_step e2__law_step) (fun s : Nat => D.int (s : Nat)) (fun s => if dv s r c then some (D.int (s : Nat)) else none) [.int (r : Int), .int (c : Int), .non] [8, 4, 2, 1] (by
    intro s hs
    have hs0 : 0 < s := by simp at hs; omega
    have e := castmod2 r c s
    cases h1 : (((r : Nat) : Int) % (s : Nat) == 0) <;> cases h2 : (((c : Nat) : Int) % (s : Nat) == 0) <;> rw [h1, h2] at e <;> simp only [Bool.and_true, Bool.and_false, Bool.and_self] at e <;> rw [← e] <;> simp [t1__law_step, e2__law_step, hs0, h1, h2, -beq_iff_eq])
  have e2 : atI ([8, 4, 2, 1].filterMap (fun s => if dv s r c then some (D.int (s : Nat)) else none)) 0 = some (.int (stp r c : Int)) := by
    simp only [stp, List.filterMap_cons, List.filterMap_nil]
    cases dv 8 r c <;> cases dv 4 r c <;> cases dv 2 r c <;> simp [show dv 1 r c = true by simp [dv, Nat.mod_one]]
  simp only [List.map_cons, List.map_nil, Int.cast_ofNat_Int] at e
  simp [e, e2, okLen]
/-! the order -/
def pl (p : Nat × Nat) : D := .tup [.int (p.1 : Int), .int (p.2 : Int)]
def row1 (s r w : Nat) : List (Nat × Nat) := (List.range w).flatMap fun c => if stp r c = s then [(r, c)] else []
def row2 (s w t : Nat) : List (Nat × Nat) := (List.range t).flatMap fun r => row1 s r w
def ordP (w t : Nat) : List (Nat × Nat) := [8, 4, 2, 1].flatMap fun s => row2 s w t
theorem row1_len (s r w : Nat) : (row1 s r w).length ≤ w := by
  have := len_flat (fun c => if stp r c = s then [(r, c)] else []) 1 (List.range w) (fun c _ => by split <;> simp)
  rw [List.length_range, Nat.mul_one] at this; exact this
theorem row2_len (s w t : Nat) : (row2 s w t).length ≤ t * w := by
  have := len_flat (fun r => row1 s r w) w (List.range t) (fun c _ => row1_len _ _ _)
  rw [List.length_range] at this; exact this
theorem ord1 (w t s r : Nat) (hw : w ≤ 100) (acc : List (Nat × Nat)) (ha : acc.length ≤ 100000) : loopF (stepB (gNm 5) (q1_order_of_places F_steps_of_place)) [5] ((List.range w).map fun i : Nat => D.int (i : Int))
      [.int (w : Int), .int (t : Int), .lst (acc.map pl), .int (s : Int), .int (r : Int), .non] = some (.nx [.int (w : Int), .int (t : Int), .lst ((acc ++ row1 s r w).map pl), .int (s : Int), .int (r : Int), .non]) := by
  refine loop_ext (fun c : Nat => D.int (c : Int)) (fun acc : List (Nat × Nat) => [.int (w : Int), .int (t : Int), .lst (acc.map pl), .int (s : Int), .int (r : Int), .non]) (fun c => if stp r c = s then [(r, c)] else []) 1 1000000 _ acc (fun c _ => by split <;> simp) (by simp; omega) fun c _ acc hB => ?_
  by_cases h : stp r c = s
  · simp [q1_order_of_places, steps_ok, h, appOf, okLen_of (n := acc.length + 1) (by omega), pl, okLen_of (n := 2) (by omega)]
  · have h' : ¬ ((stp r c : Int) = (s : Int)) := by omega
    have h2 : ((stp r c : Int) == (s : Int)) = false := by rw [beq_eq_false_iff_ne]; exact h'
    simp [q1_order_of_places, steps_ok, h2, h, -beq_iff_eq]
theorem ord2 (w t s : Nat) (hw : w ≤ 100) (ht : t ≤ 100) (acc : List (Nat × Nat)) (ha : acc.length ≤ 40000) : loopF (stepB (gNm 4) (q2_order_of_places F_steps_of_place)) [4, 5] ((List.range t).map fun i : Nat => D.int (i : Int))
      [.int (w : Int), .int (t : Int), .lst (acc.map pl), .int (s : Int), .non, .non] = some (.nx [.int (w : Int), .int (t : Int), .lst ((acc ++ row2 s w t).map pl), .int (s : Int), .non, .non]) := by
  refine loop_ext (fun c : Nat => D.int (c : Int)) (fun acc : List (Nat × Nat) => [.int (w : Int), .int (t : Int), .lst (acc.map pl), .int (s : Int), .non, .non]) (fun r => row1 s r w) 100 60000 _ acc (fun r _ => Nat.le_trans (row1_len s r w) hw) (by simp; omega) fun r _ acc hB => ?_
  simp [q2_order_of_places, s62_of (i := (w : Int)) (by omega) (by omega), intsD0, ord1 w t s r hw acc (by omega)]
theorem order_ok (w t : Nat) (hw : w ≤ 100) (ht : t ≤ 100) : F_order_of_places [.int (w : Int), .int (t : Int)] = some (.tup ((ordP w t).map pl), [.int (w : Int), .int (t : Int)]) := by
  unfold F_order_of_places b_order_of_places
  rw [v_run2]
  have hb : ∀ s, (row2 s w t).length ≤ 10000 := fun s => Nat.le_trans (row2_len s w t) (Nat.mul_le_mul ht hw)
  have key := loop_ext (b := stepB (gNm 3) (q3_order_of_places F_steps_of_place)) (ks := [3, 4, 5]) (fun c : Nat => D.int (c : Int)) (fun acc : List (Nat × Nat) => [.int (w : Int), .int (t : Int), .lst (acc.map pl), .non, .non, .non]) (fun s => row2 s w t) 10000 40000 [8, 4, 2, 1] []
    (fun s _ => hb s) (by simp) fun s _ acc hB => by
    simp [q3_order_of_places, s62_of (i := (t : Int)) (by omega) (by omega), intsD0, ord2 w t s hw ht acc (by omega)]
  simp only [List.map_cons, List.map_nil, Int.cast_ofNat_Int, List.nil_append] at key
  simp [k_STEPS, key, okLen, ordP]
end K52

namespace K52
open PySem PySem.Spec PyProof.Rows L2 TL
def cells (w t : Nat) : List (Nat × Nat) := (List.range t).flatMap fun r => (List.range w).map fun c => (r, c)
def pr (p : Nat × Nat) : List Int := [0 - (stp p.1 p.2 : Int), (p.1 : Int), (p.2 : Int)]
def lt2 (p q : Nat × Nat) : Prop := p.1 < q.1 ∨ p.1 = q.1 ∧ p.2 < q.2
theorem row1_filter (s r w : Nat) : row1 s r w = ((List.range w).map fun c => (r, c)).filter fun p => decide (stp p.1 p.2 = s) := by
  unfold row1
  induction List.range w with
  | nil => rfl
  | cons c l ih => simp only [List.flatMap_cons, List.map_cons, List.filter_cons, ih]; by_cases h : stp r c = s <;> simp [h]
theorem row2_filter (s w t : Nat) : row2 s w t = (cells w t).filter fun p => decide (stp p.1 p.2 = s) := by
  unfold row2 cells
  induction List.range t with
  | nil => rfl
  | cons r l ih => rw [List.flatMap_cons, List.flatMap_cons, List.filter_append, ← ih, row1_filter]
theorem stp_cases (r c : Nat) : stp r c = 8 ∨ stp r c = 4 ∨ stp r c = 2 ∨ stp r c = 1 := by
  unfold stp; split <;> (try split) <;> (try split) <;> simp
theorem ordP_perm (w t : Nat) : (ordP w t).Perm (cells w t) := by
  have : ∀ l : List (Nat × Nat), ([8, 4, 2, 1].flatMap fun s => l.filter fun p => decide (stp p.1 p.2 = s)).Perm l := by
    intro l
    rw [List.perm_iff_count]
    intro a
    simp only [List.flatMap_cons, List.flatMap_nil, List.append_nil, List.count_append]
    have f : ∀ s, List.count a (l.filter fun p => decide (stp p.1 p.2 = s)) = if stp a.1 a.2 = s then List.count a l else 0 := by
      intro s
      by_cases h : stp a.1 a.2 = s
      · rw [if_pos h, List.count_filter]; simp [h]
      · rw [if_neg h, List.count_eq_zero]; simp [h]
    rw [f, f, f, f]
    rcases stp_cases a.1 a.2 with h | h | h | h <;> simp [h]
  have h2 : ordP w t = [8, 4, 2, 1].flatMap fun s => (cells w t).filter fun p => decide (stp p.1 p.2 = s) := by
    simp only [ordP, row2_filter]
  rw [h2]; exact this _
theorem cells_srt (w t : Nat) : (cells w t).Pairwise lt2 := by
  unfold cells
  rw [List.pairwise_flatMap]
  constructor
  · intro r _
    rw [List.pairwise_map]
    exact List.Pairwise.imp (fun h => .inr ⟨rfl, h⟩) List.pairwise_lt_range
  · refine List.Pairwise.imp ?_ List.pairwise_lt_range
    intro a b h x hx y hy
    simp only [List.mem_map] at hx hy
    obtain ⟨_, _, rfl⟩ := hx
    obtain ⟨_, _, rfl⟩ := hy
    exact .inl h
def lt3 (p q : Nat × Nat) : Prop := stp q.1 q.2 < stp p.1 p.2 ∨ stp q.1 q.2 = stp p.1 p.2 ∧ lt2 p q
theorem ordP_srt (w t : Nat) : (ordP w t).Pairwise lt3 := by
  unfold ordP
  rw [List.pairwise_flatMap]
  constructor
  · intro s _
    rw [row2_filter]
    have h := (cells_srt w t).filter (fun p => decide (stp p.1 p.2 = s))
    refine List.Pairwise.imp_of_mem ?_ h
    intro a b ha hb h
    simp only [List.mem_filter, decide_eq_true_eq] at ha hb
    exact .inr ⟨by rw [ha.2, hb.2], h⟩
  · have key : ([8, 4, 2, 1] : List Nat).Pairwise (fun a b => b < a) := by decide
    refine List.Pairwise.imp ?_ key
    intro a b h x hx y hy
    rw [row2_filter] at hx hy
    simp only [List.mem_filter, decide_eq_true_eq] at hx hy
    exact .inl (by rw [hx.2, hy.2]; exact h)
theorem lex3 {p q : Nat × Nat} (h : lt3 p q) : HT.lexLt (pr q) (pr p) = false := by
  unfold lt3 lt2 at h
  simp only [pr, HT.lexLt_cons, HT.lexLt_nil_nil]
  split
  · split
    · split
      · rfl
      · simp; omega
    · simp; omega
  · simp; omega
theorem sort_cells (w t : Nat) : sortRows ((cells w t).map pr) = (ordP w t).map pr := by
  refine srt_uniq (lt := fun a b => HT.lexLt a b) ?_ ?_ (sortRows_srt _) ?_
  · intro x y a b
    exact lexLt_eq x y a b
  · exact (sortRows_perm _).trans ((ordP_perm w t).map pr).symm
  · rw [List.pairwise_map]
    exact List.Pairwise.imp (fun h => lex3 h) (ordP_srt w t)
theorem cells_len (w t : Nat) : (cells w t).length = t * w := by
  unfold cells
  induction t with
  | zero => simp
  | succ t ih => rw [List.range_succ, List.flatMap_append, List.length_append, ih]; simp [Nat.succ_mul]
theorem ordP_len (w t : Nat) : (ordP w t).length = t * w := by rw [(ordP_perm w t).length_eq, cells_len]
theorem ordP_mem (w t : Nat) (p : Nat × Nat) : p ∈ ordP w t ↔ p.1 < t ∧ p.2 < w := by
  rw [(ordP_perm w t).mem_iff]
  unfold cells
  simp only [List.mem_flatMap, List.mem_map, List.mem_range]
  constructor
  · rintro ⟨r, hr, c, hc, rfl⟩; exact ⟨hr, hc⟩
  · rintro ⟨h1, h2⟩; exact ⟨p.1, h1, p.2, h2, rfl⟩
theorem ordP_nodup (w t : Nat) : (ordP w t).Nodup := by
  refine List.Pairwise.imp ?_ (ordP_srt w t)
  intro a b h e
  subst e
  unfold lt3 lt2 at h
  omega
theorem lorder_ok (w t : Nat) (hw : w ≤ 100) (ht : t ≤ 100) : F__law_order [.int (w : Int), .int (t : Int)] = some (.lst ((ordP w t).map pl), [.int (w : Int), .int (t : Int)]) := by
  unfold F__law_order b__law_order
  rw [v_run2]
  have k1 : ∀ (r : Nat) (acc : List D), lcF (stepLc [5] (gNm 5) tYesF (e1__law_order F__law_step)) ((List.range w).map fun i : Nat => D.int (i : Int)) [.int (w : Int), .int (t : Int), .lst acc, .int (r : Int), .non, .non]
      = some ((List.range w).map fun c => rowD (pr (r, c)), [.int (w : Int), .int (t : Int), .lst acc, .int (r : Int), .non, .non]) := by
    intro r acc
    refine lc_all (fun c : Nat => D.int (c : Int)) (fun c => rowD (pr (r, c))) _ _ fun c _ => ?_
    simp [e1__law_order, lstep_ok, okLen, rowD, pr]
  have key := loop_ext (b := stepB (gNm 3) (q2__law_order F__law_step)) (ks := [3]) (fun c : Nat => D.int (c : Int)) (fun acc : List (Nat × Nat) => [.int (w : Int), .int (t : Int), .lst (acc.map fun p => rowD (pr p)), .non, .non, .non]) (fun r => (List.range w).map fun c => (r, c)) 100 10000 (List.range t) []
    (fun r _ => by simpa using hw) (by simp; omega) fun r _ acc hB => by
    simp [q2__law_order, s62_of (i := (w : Int)) (by omega) (by omega), intsD0, okLen_of (n := w) (by omega), k1 r, okLen_of (n := acc.length + w) (by omega)]
  have key2 : sortR (.lst ((cells w t).map fun p => rowD (pr p))) = some ((ordP w t).map fun p => rowD (pr p)) := by
    have e := getRows_of (rows := (cells w t).map pr) (by intro r hr; obtain ⟨p, _, rfl⟩ := List.mem_map.mp hr; simp [pr])
    simp only [List.map_map] at e
    show (getRows _).map _ = _
    have e' : ((cells w t).map fun p => rowD (pr p)) = (cells w t).map (rowD ∘ pr) := rfl
    rw [e', e, Option.map_some, sort_cells, List.map_map]; rfl
  have k3 : ∀ acc : D, lcF (stepLc [4, 3, 5] (gTp (gsCons (gNm 4) (gsCons (gNm 3) (gsCons (gNm 5) gsNil)))) tYesF (e3__law_order F__law_step)) ((ordP w t).map fun p => rowD (pr p)) [.int (w : Int), .int (t : Int), acc, .non, .non, .non]
      = some ((ordP w t).map pl, [.int (w : Int), .int (t : Int), acc, .non, .non, .non]) := by
    intro acc
    refine lc_all (fun p => rowD (pr p)) pl _ _ fun p _ => ?_
    simp [e3__law_order, rowD, pr, pl, okLen]
  have hl : okLen (ordP w t).length = true := okLen_of (by rw [ordP_len]; exact Nat.le_trans (Nat.mul_le_mul ht hw) (by omega))
  simp [s62_of (i := (t : Int)) (by omega) (by omega), intsD0, okLen_of (n := 0) (by omega)]
  simp only [List.map_nil, List.nil_append] at key
  rw [key]
  have hc : ((List.range t).flatMap fun r => (List.range w).map fun c => (r, c)) = cells w t := rfl
  rw [hc]
  simp [key2, k3, hl]
end K52

namespace K52
open PySem PySem.Spec PyProof.Rows L2 TL
theorem ix_rng {α : Type} (f : Nat → α) (t r : Nat) (h : r < t) : atI ((List.range t).map f) (r : Int) = some (f r) := by
  rw [ix_nat _ r (by simpa using h)]; simp
def tgrid (w t : Nat) (v : Nat → Nat → D) : D := .tup ((List.range t).map fun r => .tup ((List.range w).map fun c => v r c))
def gridL (w t : Nat) (v : Nat → Nat → D) : List D := (List.range t).map fun r => .lst ((List.range w).map fun c => v r c)
def pxD (px : Nat → Nat → Int) (r c : Nat) : D := .int (px r c)
def picD (w t : Nat) (px : Nat → Nat → Int) : D := .tup [.int (w : Int), tgrid w t (pxD px)]
def sgs (w t : Nat) (px : Nat → Nat → Int) : List D := (ordP w t).map fun p => pxD px p.1 p.2
theorem tgrid_congr (w t : Nat) {v v' : Nat → Nat → D} (h : ∀ r < t, ∀ c < w, v r c = v' r c) : tgrid w t v = tgrid w t v' := by
  unfold tgrid
  congr 1
  apply List.map_congr_left
  intro r hr
  congr 1
  apply List.map_congr_left
  intro c hc
  exact h r (List.mem_range.mp hr) c (List.mem_range.mp hc)
theorem sent_ok (w t : Nat) (hw : w ≤ 100) (ht : t ≤ 100) (px : Nat → Nat → Int) : F_sent_signs [picD w t px] = some (.tup (sgs w t px), [picD w t px]) := by
  unfold F_sent_signs b_sent_signs
  rw [v_run1]
  have hl : okLen (ordP w t).length = true := okLen_of (by rw [ordP_len]; exact Nat.le_trans (Nat.mul_le_mul ht hw) (by omega))
  have k : ∀ a b : D, lcF (stepLc [3, 4] (gTp (gsCons (gNm 3) (gsCons (gNm 4) gsNil))) tYesF (e1_sent_signs F_order_of_places)) ((ordP w t).map pl) [a, b, tgrid w t (pxD px), .non, .non] = some (sgs w t px, [a, b, tgrid w t (pxD px), .non, .non]) := by
    intro a b
    refine lc_all pl (fun p => pxD px p.1 p.2) _ _ fun p hp => ?_
    have ⟨h1, h2⟩ := (ordP_mem w t p).mp hp
    simp [pl, e1_sent_signs, tgrid, ix_rng _ t p.1 h1, ix_rng _ w p.2 h2]
  have hg : ∃ l, tgrid w t (pxD px) = .tup l ∧ l.length = t := ⟨_, rfl, by simp⟩
  obtain ⟨l, e1, e2⟩ := hg
  simp only [e1] at k
  simp [picD, e1, e2, order_ok w t hw ht, hl, k]
/-! the view -/
def upd2 (v : Nat → Nat → D) (b d : Nat) (x : D) : Nat → Nat → D := fun r c => if r = b ∧ c = d then x else v r c
theorem ixN_nat (n i : Nat) (h : i < n) : ixN n (i : Int) = some i := by
  unfold ixN; simp [h]
theorem set2_ok (w t : Nat) (v : Nat → Nat → D) (x : D) (b d : Nat) (hb : b < t) (hd : d < w) (z0 z1 z2 z5 z7 z8 z9 : D) :
    sSetIx2 3 (eVar 4) (qVar 6) (qVar 10) [z0, z1, z2, .lst (gridL w t v), x, z5, .int (b : Int), z7, z8, z9, .int (d : Int)] = some (.nx [z0, z1, z2, .lst (gridL w t (upd2 v b d x)), x, z5, .int (b : Int), z7, z8, z9, .int (d : Int)]) := by
  have e1 : (gridL w t v)[b]? = some (.lst ((List.range w).map fun c => v b c)) := by simp [gridL, hb]
  have e2 : (gridL w t v).length = t := by simp [gridL]
  have e3 : setL ((List.range w).map fun c => v b c) (d : Int) x = some ((List.range w).map fun c => upd2 v b d x b c) := by
    unfold setL
    simp only [List.length_map, List.length_range, ixN_nat w d hd, Option.bind_some]
    congr 1
    apply List.ext_getElem
    · simp
    · intro i h1 h2
      simp only [List.length_map, List.length_range] at h2
      rw [List.getElem_set]
      simp only [List.getElem_map, List.getElem_range, upd2]
      by_cases h : d = i
      · simp [h]
      · have : ¬ i = d := fun z => h z.symm
        simp [h, this]
  have e4 : (gridL w t v).set b (.lst ((List.range w).map fun c => upd2 v b d x b c)) = gridL w t (upd2 v b d x) := by
    apply List.ext_getElem
    · simp [gridL]
    · intro i h1 h2
      rw [List.getElem_set]
      simp only [gridL, List.getElem_map, List.getElem_range]
      by_cases h : b = i
      · subst h; simp
      · have : ¬ i = b := fun z => h z.symm
        simp [h, upd2, this]
  unfold sSetIx2
  simp [qVar, e1, e2, e3, e4, ixN_nat t b hb]
theorem intsDn (a n : Nat) : intsD (a : Int) n = (List.range n).map fun i : Nat => D.int ((a + i : Nat) : Int) := by
  unfold intsD; simp
def rowU (v : Nat → Nat → D) (b c n : Nat) (x : D) : Nat → Nat → D := fun r c' => if r = b ∧ c ≤ c' ∧ c' < c + n then x else v r c'
def blkU (v : Nat → Nat → D) (r0 m c n : Nat) (x : D) : Nat → Nat → D := fun r c' => if (r0 ≤ r ∧ r < r0 + m) ∧ c ≤ c' ∧ c' < c + n then x else v r c'
theorem fold_row (v : Nat → Nat → D) (b c : Nat) (x : D) (n : Nat) : (List.range n).foldl (fun v i => upd2 v b (c + i) x) v = rowU v b c n x := by
  induction n with
  | zero => funext r c'; simp [rowU]; omega
  | succ n ih =>
    rw [List.range_succ, List.foldl_append, ih]
    funext r c'
    simp only [List.foldl_cons, List.foldl_nil, upd2, rowU]
    grind
theorem fold_blk (v : Nat → Nat → D) (r0 c n : Nat) (x : D) (m : Nat) : (List.range m).foldl (fun v i => rowU v (r0 + i) c n x) v = blkU v r0 m c n x := by
  induction m with
  | zero => funext r c'; simp [blkU]; omega
  | succ m ih =>
    rw [List.range_succ, List.foldl_append, ih]
    funext r c'
    simp only [List.foldl_cons, List.foldl_nil, rowU, blkU]
    grind
theorem lin (w t : Nat) (v : Nat → Nat → D) (x : D) (b c n : Nat) (hb : b < t) (hc : c + n ≤ w) (z0 z1 z2 z5 z7 z8 z9 : D) :
    loopF (stepB (gNm 10) (q2_view F_order_of_places F_steps_of_place)) [10] (intsD (c : Int) n) [z0, z1, z2, .lst (gridL w t v), x, z5, .int (b : Int), z7, z8, z9, .non]
      = some (.nx [z0, z1, z2, .lst (gridL w t (rowU v b c n x)), x, z5, .int (b : Int), z7, z8, z9, .non]) := by
  rw [intsDn, ← fold_row]
  refine loop_fold (fun i : Nat => D.int ((c + i : Nat) : Int)) (fun v => [z0, z1, z2, .lst (gridL w t v), x, z5, .int (b : Int), z7, z8, z9, .non]) (fun v i => upd2 v b (c + i) x) (fun _ => True) (List.range n) v trivial fun i hi v _ => ⟨trivial, ?_⟩
  have hi := List.mem_range.mp hi
  have e := set2_ok w t v x b (c + i) hb (by omega) z0 z1 z2 z5 z7 z8 z9
  simp only [q2_view, v_stepB, v_gNm, Option.bind_some, List.set_cons_succ, List.set_cons_zero]
  rw [e]
  simp
end K52

namespace K52
open PySem PySem.Spec PyProof.Rows L2 TL
theorem hi_eq (a s w : Nat) : (((if (w : Int) < (a : Int) + (s : Int) then (w : Int) else (a : Int) + (s : Int)) - (a : Int)).toNat) = min (a + s) w - a := by
  split <;> omega
theorem lrow (w t : Nat) (hw : w ≤ 100) (ht : t ≤ 100) (v : Nat → Nat → D) (x : D) (r c s m : Nat) (hs : s ≤ 8) (hc : c < w) (hm : r + m ≤ t) (z2 z7 : D) :
    loopF (stepB (gNm 6) (q3_view F_order_of_places F_steps_of_place)) [6, 10] (intsD (r : Int) m) [.int (w : Int), .int (t : Int), z2, .lst (gridL w t v), x, .int (s : Int), .non, z7, .int (r : Int), .int (c : Int), .non]
      = some (.nx [.int (w : Int), .int (t : Int), z2, .lst (gridL w t (blkU v r m c (min (c + s) w - c) x)), x, .int (s : Int), .non, z7, .int (r : Int), .int (c : Int), .non]) := by
  rw [intsDn, ← fold_blk]
  refine loop_fold (fun i : Nat => D.int ((r + i : Nat) : Int)) (fun v => [.int (w : Int), .int (t : Int), z2, .lst (gridL w t v), x, .int (s : Int), .non, z7, .int (r : Int), .int (c : Int), .non]) (fun v i => rowU v (r + i) c (min (c + s) w - c) x) (fun _ => True) (List.range m) v trivial fun i hi v _ => ⟨trivial, ?_⟩
  have hi := List.mem_range.mp hi
  have e := lin w t v x (r + i) c (min (c + s) w - c) (by omega) (by omega) (.int (w : Int)) (.int (t : Int)) z2 (.int (s : Int)) z7 (.int (r : Int)) (.int (c : Int))
  have s1 : small62 (c : Int) = true := s62_of (by omega) (by omega)
  have s2 : small62 (if (w : Int) < (c : Int) + (s : Int) then (w : Int) else (c : Int) + (s : Int)) = true := s62_of (by split <;> omega) (by split <;> omega)
  have hn : (if (w : Int) < (c : Int) + (s : Int) then (w : Int) else (c : Int) + (s : Int)).toNat - c = min (c + s) w - c := by split <;> omega
  generalize hh : (if (w : Int) < (c : Int) + (s : Int) then (w : Int) else (c : Int) + (s : Int)) = hi' at hn s2
  simp only [Int.natCast_add] at e
  simp [q3_view, hh, s1, s2, hn, e]
theorem lpl (w t : Nat) (hw : w ≤ 100) (ht : t ≤ 100) (v : Nat → Nat → D) (x z2 : D) (p : Nat × Nat) (h1 : p.1 < t) (h2 : p.2 < w) :
    (stepB (gTp (gsCons (gTp (gsCons (gNm 8) (gsCons (gNm 9) gsNil))) (gsCons (gNm 4) gsNil))) (q4_view F_order_of_places F_steps_of_place) (.tup [pl p, x]) [.int (w : Int), .int (t : Int), z2, .lst (gridL w t v), .non, .non, .non, .non, .non, .non, .non]).bind (nxOf [4, 5, 6, 8, 9, 10])
      = some [.int (w : Int), .int (t : Int), z2, .lst (gridL w t (blkU v p.1 (min (p.1 + stp p.1 p.2) t - p.1) p.2 (min (p.2 + stp p.1 p.2) w - p.2) x)), .non, .non, .non, .non, .non, .non, .non] := by
  have hs8 : stp p.1 p.2 ≤ 8 := by rcases stp_cases p.1 p.2 with h | h | h | h <;> omega
  have e := lrow w t hw ht v x p.1 p.2 (stp p.1 p.2) (min (p.1 + stp p.1 p.2) t - p.1) hs8 h2 (by omega) z2 .non
  have hst := steps_ok p.1 p.2
  generalize stp p.1 p.2 = s at *
  have s1 : small62 (p.1 : Int) = true := s62_of (by omega) (by omega)
  have s2 : small62 (if (t : Int) < (p.1 : Int) + (s : Int) then (t : Int) else (p.1 : Int) + (s : Int)) = true := s62_of (by split <;> omega) (by split <;> omega)
  have hn : (if (t : Int) < (p.1 : Int) + (s : Int) then (t : Int) else (p.1 : Int) + (s : Int)).toNat - p.1 = min (p.1 + s) t - p.1 := by split <;> omega
  generalize hh : (if (t : Int) < (p.1 : Int) + (s : Int) then (t : Int) else (p.1 : Int) + (s : Int)) = hi' at hn s2
  simp [q4_view, pl, hst, hh, s1, s2, hn, e]
def put (w t : Nat) (v : Nat → Nat → D) (z : (Nat × Nat) × D) : Nat → Nat → D := blkU v z.1.1 (min (z.1.1 + stp z.1.1 z.1.2) t - z.1.1) z.1.2 (min (z.1.2 + stp z.1.1 z.1.2) w - z.1.2) z.2
def vw (w t : Nat) (Z : List ((Nat × Nat) × D)) : Nat → Nat → D := Z.foldl (put w t) (fun _ _ => .non)
def zps (w t : Nat) (sg : List D) : List ((Nat × Nat) × D) := (ordP w t).zip sg
theorem view_ok (w t : Nat) (hw : w ≤ 100) (ht : t ≤ 100) (sg : List D) : F_view [.int (w : Int), .int (t : Int), .tup sg] = some (tgrid w t (vw w t (zps w t sg)), [.int (w : Int), .int (t : Int), .tup sg]) := by
  unfold F_view b_view
  rw [v_run3]
  have k1 : ∀ a : D, lcF (stepLc [7] (gNm 7) tYesF (e1_view F_order_of_places F_steps_of_place)) ((List.range t).map fun i : Nat => D.int (i : Int)) [.int (w : Int), .int (t : Int), .tup sg, a, .non, .non, .non, .non, .non, .non, .non]
      = some (gridL w t (fun _ _ => .non), [.int (w : Int), .int (t : Int), .tup sg, a, .non, .non, .non, .non, .non, .non, .non]) := by
    intro a
    refine lc_all (fun c : Nat => D.int (c : Int)) (fun r => .lst ((List.range w).map fun c => D.non)) _ _ fun c _ => ?_
    have hr : repL [D.non] w = (List.range w).map fun c => D.non := by
      unfold repL
      rw [List.map_const', List.length_range]
      induction w with
      | zero => rfl
      | succ n ih => rw [List.replicate_succ, List.flatten_cons, ih (by omega), List.replicate_succ]; rfl
    simp [e1_view, dMulL, okLen_of (n := 1) (by omega), okLen_of (n := w) (by omega), s62_of (i := (w : Int)) (by omega) (by omega), hr]
  have k2 : loopF (stepB (gTp (gsCons (gTp (gsCons (gNm 8) (gsCons (gNm 9) gsNil))) (gsCons (gNm 4) gsNil))) (q4_view F_order_of_places F_steps_of_place)) [4, 5, 6, 8, 9, 10] (zipD ((ordP w t).map pl) sg) [.int (w : Int), .int (t : Int), .tup sg, .lst (gridL w t (fun _ _ => .non)), .non, .non, .non, .non, .non, .non, .non]
      = some (.nx [.int (w : Int), .int (t : Int), .tup sg, .lst (gridL w t (vw w t (zps w t sg))), .non, .non, .non, .non, .non, .non, .non]) := by
    have hz : zipD ((ordP w t).map pl) sg = (zps w t sg).map fun z => D.tup [pl z.1, z.2] := by
      unfold zipD zps
      rw [List.zip_map_left, List.map_map]; rfl
    rw [hz]
    refine loop_fold (fun z : (Nat × Nat) × D => D.tup [pl z.1, z.2]) (fun v => [.int (w : Int), .int (t : Int), .tup sg, .lst (gridL w t v), .non, .non, .non, .non, .non, .non, .non]) (put w t) (fun _ => True) (zps w t sg) _ trivial fun z hz v _ => ⟨trivial, ?_⟩
    have hm := (ordP_mem w t z.1).mp (List.of_mem_zip (a := z.1) (b := z.2) hz).1
    exact lpl w t hw ht v z.2 (.tup sg) z.1 hm.1 hm.2
  have k3 : ∀ (v : Nat → Nat → D) (a : D), lcF (stepLc [8] (gNm 8) tYesF (e5_view F_order_of_places F_steps_of_place)) (gridL w t v) [.int (w : Int), .int (t : Int), .tup sg, a, .non, .non, .non, .non, .non, .non, .non]
      = some ((List.range t).map fun r => .tup ((List.range w).map fun c => v r c), [.int (w : Int), .int (t : Int), .tup sg, a, .non, .non, .non, .non, .non, .non, .non]) := by
    intro v a
    refine lc_all (fun r : Nat => D.lst ((List.range w).map fun c => v r c)) (fun r => .tup ((List.range w).map fun c => v r c)) _ _ fun c _ => ?_
    simp [e5_view]
  have hl : okLen (gridL w t (vw w t (zps w t sg))).length = true := okLen_of (by simp [gridL]; omega)
  simp [s62_of (i := (t : Int)) (by omega) (by omega), intsD0, okLen_of (n := t) (by omega), k1, order_ok w t hw ht, k2, k3, hl, tgrid]
theorem whole_ok (w t : Nat) (hw : w ≤ 100) (ht : t ≤ 100) (sg : List D) : F_whole_picture [.int (w : Int), .int (t : Int), .tup sg] = some (.tup [.int (w : Int), tgrid w t (vw w t (zps w t sg))], [.int (w : Int), .int (t : Int), .tup sg]) := by
  unfold F_whole_picture b_whole_picture
  rw [v_run3]
  simp [view_ok w t hw ht sg, okLen_of (n := 2) (by omega)]
end K52

namespace K52
open PySem PySem.Spec PyProof.Rows L2 TL
def al (Z : List ((Nat × Nat) × D)) (a : Nat × Nat) : Option D := (Z.find? fun z => decide (z.1 = a)).map Prod.snd
theorem al_cons (z : (Nat × Nat) × D) (Z : List ((Nat × Nat) × D)) (a : Nat × Nat) : al (z :: Z) a = if z.1 = a then some z.2 else al Z a := by
  unfold al
  rw [List.find?_cons]
  by_cases h : z.1 = a <;> simp [h]
theorem al_none {Z : List ((Nat × Nat) × D)} {a : Nat × Nat} (h : ∀ z ∈ Z, z.1 ≠ a) : al Z a = none := by
  induction Z with
  | nil => rfl
  | cons z Z ih => rw [al_cons, if_neg (h z (by simp)), ih fun z hz => h z (by simp [hz])]
theorem al_snoc (Z : List ((Nat × Nat) × D)) (z : (Nat × Nat) × D) (a : Nat × Nat) : al (Z ++ [z]) a = (al Z a).or (if z.1 = a then some z.2 else none) := by
  induction Z with
  | nil => rw [List.nil_append, al_cons]; rfl
  | cons y Z ih => rw [List.cons_append, al_cons, al_cons, ih]; split <;> rfl
def abv (s r c : Nat) : Nat × Nat := (r - r % s, c - c % s)
def pick (Z : List ((Nat × Nat) × D)) (r c s : Nat) (x : D) : D := if stp (abv s r c).1 (abv s r c).2 = s then (al Z (abv s r c)).getD x else x
def lv (Z : List ((Nat × Nat) × D)) (r c : Nat) : D := [8, 4, 2, 1].foldl (fun x s => pick Z r c s x) .non
def cov (p : Nat × Nat) (r c : Nat) : Prop := (p.1 ≤ r ∧ r < p.1 + stp p.1 p.2) ∧ p.2 ≤ c ∧ c < p.2 + stp p.1 p.2
instance (p : Nat × Nat) (r c : Nat) : Decidable (cov p r c) := by unfold cov; infer_instance
theorem stp_dv (r c : Nat) : r % stp r c = 0 ∧ c % stp r c = 0 := by
  unfold stp dv
  split
  · rename_i h; simpa using h
  · split
    · rename_i h; simpa using h
    · split
      · rename_i h; simpa using h
      · exact ⟨Nat.mod_one _, Nat.mod_one _⟩
theorem stp_pos (r c : Nat) : 0 < stp r c := by rcases stp_cases r c with h | h | h | h <;> omega
theorem near (p r s : Nat) (hs : 0 < s) (hp : p % s = 0) : (p ≤ r ∧ r < p + s) ↔ p = r - r % s := by
  have h1 := Nat.mod_lt r hs
  have h2 := Nat.mod_add_div r s
  have h3 := Nat.mod_add_div p s
  rw [hp] at h3
  constructor
  · rintro ⟨a, b⟩
    have e : r / s = p / s := by
      apply Nat.le_antisymm
      · have : r / s < p / s + 1 := by
          rw [Nat.div_lt_iff_lt_mul hs, Nat.add_mul, Nat.mul_comm (p / s) s]; omega
        omega
      · exact Nat.div_le_div_right a
    rw [e] at h2
    omega
  · intro e
    have : r % s ≤ r := Nat.mod_le r s
    omega
theorem cov_iff (p : Nat × Nat) (r c : Nat) : cov p r c ↔ p = abv (stp p.1 p.2) r c := by
  obtain ⟨h1, h2⟩ := stp_dv p.1 p.2
  unfold cov abv
  rw [near p.1 r _ (stp_pos _ _) h1, near p.2 c _ (stp_pos _ _) h2]
  obtain ⟨a, b⟩ := p
  simp
def fv (Z : List ((Nat × Nat) × D)) (r c : Nat) : D := Z.foldl (fun x z => if cov z.1 r c then z.2 else x) .non
theorem fv_snoc (Z : List ((Nat × Nat) × D)) (z : (Nat × Nat) × D) (r c : Nat) : fv (Z ++ [z]) r c = if cov z.1 r c then z.2 else fv Z r c := by
  unfold fv; rw [List.foldl_append]; rfl
theorem pick_ne {Z : List ((Nat × Nat) × D)} {z : (Nat × Nat) × D} {r c s : Nat} {x : D} (h : s ≠ stp z.1.1 z.1.2 ∨ ¬ cov z.1 r c) : pick (Z ++ [z]) r c s x = pick Z r c s x := by
  unfold pick
  split
  · rename_i e
    rw [al_snoc, if_neg, Option.or_none]
    intro e2
    rw [← e2] at e
    rcases h with h | h
    · exact h e.symm
    · exact h ((cov_iff _ _ _).mpr (by rw [e]; exact e2))
  · rfl
theorem pick_eq {Z : List ((Nat × Nat) × D)} {z : (Nat × Nat) × D} {r c : Nat} {x : D} (hc : cov z.1 r c) (hn : ∀ y ∈ Z, y.1 ≠ z.1) : pick (Z ++ [z]) r c (stp z.1.1 z.1.2) x = z.2 := by
  have e := (cov_iff _ _ _).mp hc
  unfold pick
  rw [← e, if_pos rfl, al_snoc, al_none hn, if_pos rfl]; rfl
theorem pick_lt {Z : List ((Nat × Nat) × D)} {r c s s0 : Nat} {x : D} (h : s < s0) (hz : ∀ y ∈ Z, s0 ≤ stp y.1.1 y.1.2) : pick Z r c s x = x := by
  unfold pick
  split
  · rename_i e
    rw [al_none, Option.getD_none]
    intro y hy e2
    have := hz y hy
    rw [e2] at this
    omega
  · rfl
theorem snoc_ind {α : Type} {P : List α → Prop} (h0 : P []) (h1 : ∀ l a, P l → P (l ++ [a])) (l : List α) : P l := by
  have : ∀ m : List α, P m.reverse := by
    intro m
    induction m with
    | nil => exact h0
    | cons a m ih => rw [List.reverse_cons]; exact h1 _ _ ih
  rw [← List.reverse_reverse l]; exact this _
theorem zip_fst_sub {α β : Type} : ∀ (l : List α) (m : List β), ((l.zip m).map Prod.fst).Sublist l
  | [], _ => by simp
  | a :: l, [] => by simp
  | a :: l, b :: m => by rw [List.zip_cons_cons, List.map_cons]; exact (zip_fst_sub l m).cons_cons a
theorem fv_lv (Z : List ((Nat × Nat) × D)) (hp : (Z.map Prod.fst).Pairwise lt3) (r c : Nat) : fv Z r c = lv Z r c := by
  revert hp
  refine snoc_ind (P := fun Z => (Z.map Prod.fst).Pairwise lt3 → fv Z r c = lv Z r c) ?_ ?_ Z
  · intro _; simp [fv, lv, pick, al]
  · intro Z z ih hp
    rw [List.map_append, List.pairwise_append] at hp
    obtain ⟨h1, _, h3⟩ := hp
    have g1 : ∀ y ∈ Z, lt3 y.1 z.1 := fun y hy => h3 y.1 (List.mem_map_of_mem hy) z.1 (by simp)
    have g2 : ∀ y ∈ Z, y.1 ≠ z.1 := fun y hy e => by
      have := g1 y hy
      rw [e] at this
      unfold lt3 lt2 at this
      omega
    have g3 : ∀ y ∈ Z, stp z.1.1 z.1.2 ≤ stp y.1.1 y.1.2 := fun y hy => by
      have := g1 y hy
      unfold lt3 at this
      omega
    rw [fv_snoc, ih h1]
    unfold lv
    simp only [List.foldl_cons, List.foldl_nil]
    by_cases hc : cov z.1 r c
    · rw [if_pos hc]
      have q := fun x => pick_eq (x := x) hc g2
      rcases stp_cases z.1.1 z.1.2 with h | h | h | h <;> rw [h] at q g3
      · rw [q, pick_ne (s := 4) (.inl (by omega)), pick_ne (s := 2) (.inl (by omega)), pick_ne (s := 1) (.inl (by omega)), pick_lt (s := 4) (s0 := 8) (by omega) g3, pick_lt (s := 2) (s0 := 8) (by omega) g3, pick_lt (s := 1) (s0 := 8) (by omega) g3]
      · rw [q, pick_ne (s := 2) (.inl (by omega)), pick_ne (s := 1) (.inl (by omega)), pick_lt (s := 2) (s0 := 4) (by omega) g3, pick_lt (s := 1) (s0 := 4) (by omega) g3]
      · rw [q, pick_ne (s := 1) (.inl (by omega)), pick_lt (s := 1) (s0 := 2) (by omega) g3]
      · rw [q]
    · rw [if_neg hc]
      rw [pick_ne (.inr hc), pick_ne (.inr hc), pick_ne (.inr hc), pick_ne (.inr hc)]
theorem vw_fv (w t : Nat) (r c : Nat) (hr : r < t) (hc : c < w) : ∀ (Z : List ((Nat × Nat) × D)) (v : Nat → Nat → D), Z.foldl (put w t) v r c = Z.foldl (fun x z => if cov z.1 r c then z.2 else x) (v r c)
  | [], v => rfl
  | z :: Z, v => by
    rw [List.foldl_cons, List.foldl_cons, vw_fv w t r c hr hc Z]
    congr 1
    unfold put blkU cov
    have : ((z.1.1 ≤ r ∧ r < z.1.1 + (min (z.1.1 + stp z.1.1 z.1.2) t - z.1.1)) ∧ z.1.2 ≤ c ∧ c < z.1.2 + (min (z.1.2 + stp z.1.1 z.1.2) w - z.1.2)) ↔ ((z.1.1 ≤ r ∧ r < z.1.1 + stp z.1.1 z.1.2) ∧ z.1.2 ≤ c ∧ c < z.1.2 + stp z.1.1 z.1.2) := by omega
    simp only [this]
theorem zps_srt (w t : Nat) (sg : List D) : ((zps w t sg).map Prod.fst).Pairwise lt3 := by
  unfold zps
  exact (ordP_srt w t).sublist (zip_fst_sub _ _)
theorem vw_lv (w t : Nat) (sg : List D) (r c : Nat) (hr : r < t) (hc : c < w) : vw w t (zps w t sg) r c = lv (zps w t sg) r c := by
  unfold vw
  rw [vw_fv w t r c hr hc, ← fv_lv _ (zps_srt w t sg)]; rfl
end K52

namespace K52
open PySem PySem.Spec PyProof.Rows L2 TL
theorem dq_pl (p q : Nat × Nat) : dq (pl p) (pl q) = decide (p = q) := by
  obtain ⟨a, b⟩ := p
  obtain ⟨c, d⟩ := q
  rw [Bool.eq_iff_iff]
  simp [pl, dq, dqs]
  omega
theorem pyOk_pl (p : Nat × Nat) : pyOk 39 (pl p) = true := by
  show [D.int _, D.int _].all (pyOk 38) = true
  simp
theorem in_ok (P : List (Nat × Nat)) (a : Nat × Nat) : dIn (pl a) (.lst (P.map pl)) = some (.bl (decide (a ∈ P))) := by
  show (if pyOk 39 (pl a) && (P.map pl).all (pyOk 39) then _ else _) = _
  have h : (P.map pl).all (pyOk 39) = true := by rw [List.all_map, List.all_eq_true]; intro p _; exact pyOk_pl p
  rw [pyOk_pl, h]
  simp only [Bool.and_self, if_true, List.any_map]
  congr 2
  rw [Bool.eq_iff_iff]
  simp only [List.any_eq_true, Function.comp, dq_pl, decide_eq_true_eq, exists_eq_right]
theorem idx_al : ∀ (P : List (Nat × Nat)) (sg : List D) (a : Nat × Nat), a ∈ P.take sg.length → ∃ d i, (P.map pl).findIdx? (fun z => dq z (pl a)) = some i ∧ sg[i]? = some d ∧ al (P.zip sg) a = some d
  | [], sg, a, h => by simp at h
  | p :: P, [], a, h => by simp at h
  | p :: P, d :: sg, a, h => by
    rw [List.zip_cons_cons, al_cons, List.map_cons, List.findIdx?_cons, dq_pl]
    by_cases e : p = a
    · exact ⟨d, 0, by simp [e], rfl, by simp [e]⟩
    · have h2 : a ∈ P.take sg.length := by
        rw [List.length_cons, List.take_succ_cons, List.mem_cons] at h
        rcases h with h | h
        · exact absurd h.symm e
        · exact h
      obtain ⟨d', i, e1, e2, e3⟩ := idx_al P sg a h2
      exact ⟨d', i + 1, by simp [e, e1], by simpa using e2, by simp [e, e3]⟩
theorem not_al : ∀ (P : List (Nat × Nat)) (sg : List D) (a : Nat × Nat), a ∉ P.take sg.length → al (P.zip sg) a = none
  | [], sg, a, h => by simp [al]
  | p :: P, [], a, h => by simp [al]
  | p :: P, d :: sg, a, h => by
    rw [List.length_cons, List.take_succ_cons, List.mem_cons, not_or] at h
    rw [List.zip_cons_cons, al_cons, if_neg fun e => h.1 e.symm, not_al P sg a h.2]
theorem cut_take (l : List D) (m : Nat) : TL.cutD l none (some (m : Int)) = l.take m := by
  unfold TL.cutD HT.sIx
  simp only [show ¬ ((m : Int) < 0) by omega, if_false]
  simp
  all_goals omega
theorem flat_single {α β : Type} (f : α → β) : ∀ l : List α, (l.flatMap fun a => [f a]) = l.map f
  | [] => rfl
  | a :: l => by rw [List.flatMap_cons, flat_single f l]; rfl
theorem q1_ok (w t : Nat) (sg : List D) (hsg : sg.length ≤ 20000) (r c s : Nat) (hs : s = 8 ∨ s = 4 ∨ s = 2 ∨ s = 1) (x : D) (z5 z6 : D) :
    (stepB (gNm 9) (q1__law_view F__law_order F__law_step) (.int (s : Int)) [.int (w : Int), .int (t : Int), .tup sg, .int (r : Int), .lst ((ordP w t).map pl), z5, z6, .int (c : Int), x, .non, .non]).bind (nxOf [9, 10])
      = some [.int (w : Int), .int (t : Int), .tup sg, .int (r : Int), .lst ((ordP w t).map pl), z5, z6, .int (c : Int), pick (zps w t sg) r c s x, .non, .non] := by
  have hs0 : 0 < s := by omega
  have e1 : (r : Int) - (r : Int) % (s : Int) = ((abv s r c).1 : Nat) := by
    show _ = ((r - r % s : Nat) : Int)
    have := Nat.mod_le r s
    omega
  have e2 : (c : Int) - (c : Int) % (s : Int) = ((abv s r c).2 : Nat) := by
    show _ = ((c - c % s : Nat) : Int)
    have := Nat.mod_le c s
    omega
  have hp : ∀ a : Nat × Nat, D.tup [.int (a.1 : Int), .int (a.2 : Int)] = pl a := fun _ => rfl
  unfold pick zps
  generalize abv s r c = a at e1 e2 ⊢
  have hst := lstep_ok a.1 a.2
  have hin : dIn (pl a) (.lst (((ordP w t).map pl).take sg.length)) = some (.bl (decide (a ∈ (ordP w t).take sg.length))) := by rw [← List.map_take]; exact in_ok _ _
  by_cases h : a ∈ (ordP w t).take sg.length
  · obtain ⟨d, i, f1, f2, f3⟩ := idx_al _ _ _ h
    rw [f3]
    have hix : indexD (.lst ((ordP w t).map pl)) [pl a] = some (.int (i : Nat)) := by
      show (if pyOk 39 (pl a) && ((ordP w t).map pl).all (pyOk 39) then _ else _) = _
      have h : ((ordP w t).map pl).all (pyOk 39) = true := by rw [List.all_map, List.all_eq_true]; intro p _; exact pyOk_pl p
      rw [pyOk_pl, h, f1]; rfl
    have hat : atI sg (i : Int) = some d := by
      obtain ⟨hi, e⟩ := List.getElem?_eq_some_iff.mp f2
      rw [ix_nat _ i hi, e]
    have p0 : dIx (pl a) (.int 0) = some (.int (a.1 : Int)) := by simp [pl]
    have p1 : dIx (pl a) (.int 1) = some (.int (a.2 : Int)) := by simp [pl]
    by_cases h1 : stp a.1 a.2 = s
    · simp [q1__law_view, hs0, e1, e2, hp, okLen_of (n := 2) (by omega), cut_take, hin, h, p0, p1, hst, h1, isLst, hix, hat]
    · have h2 : ((stp a.1 a.2 : Int) == (s : Int)) = false := by rw [beq_eq_false_iff_ne]; omega
      by_cases h3 : s ≤ stp a.1 a.2
      · simp [q1__law_view, hs0, e1, e2, hp, okLen_of (n := 2) (by omega), cut_take, hin, h, p0, p1, hst, h1, h2, h3, -beq_iff_eq]
      · simp [q1__law_view, hs0, e1, e2, hp, okLen_of (n := 2) (by omega), cut_take, hin, h, p0, p1, hst, h1, h2, h3, -beq_iff_eq]
  · rw [not_al _ _ _ h]
    simp [q1__law_view, hs0, e1, e2, hp, okLen_of (n := 2) (by omega), cut_take, hin, h]
theorem steps4 (w t : Nat) (sg : List D) (hsg : sg.length ≤ 20000) (r c : Nat) (z5 z6 : D) :
    loopF (stepB (gNm 9) (q1__law_view F__law_order F__law_step)) [9, 10] [.int 8, .int 4, .int 2, .int 1] [.int (w : Int), .int (t : Int), .tup sg, .int (r : Int), .lst ((ordP w t).map pl), z5, z6, .int (c : Int), .non, .non, .non]
      = some (.nx [.int (w : Int), .int (t : Int), .tup sg, .int (r : Int), .lst ((ordP w t).map pl), z5, z6, .int (c : Int), lv (zps w t sg) r c, .non, .non]) :=
  loop_fold (fun s : Nat => D.int (s : Int)) (fun x => [.int (w : Int), .int (t : Int), .tup sg, .int (r : Int), .lst ((ordP w t).map pl), z5, z6, .int (c : Int), x, .non, .non]) (fun x s => pick (zps w t sg) r c s x) (fun _ => True) [8, 4, 2, 1] .non trivial
    fun s hs x _ => ⟨trivial, q1_ok w t sg hsg r c s (by simpa using hs) x z5 z6⟩
theorem lview_ok (w t : Nat) (hw : w ≤ 100) (ht : t ≤ 100) (sg : List D) (hsg : sg.length ≤ 20000) : F__law_view [.int (w : Int), .int (t : Int), .tup sg] = some (tgrid w t (lv (zps w t sg)), [.int (w : Int), .int (t : Int), .tup sg]) := by
  unfold F__law_view b__law_view
  rw [v_run3]
  have k1 : ∀ (r : Nat) (z5 : D), loopF (stepB (gNm 7) (q2__law_view F__law_order F__law_step)) [7, 8, 9, 10] ((List.range w).map fun i : Nat => D.int (i : Int)) [.int (w : Int), .int (t : Int), .tup sg, .int (r : Int), .lst ((ordP w t).map pl), z5, .lst [], .non, .non, .non, .non]
      = some (.nx [.int (w : Int), .int (t : Int), .tup sg, .int (r : Int), .lst ((ordP w t).map pl), z5, .lst ((List.range w).map fun c => lv (zps w t sg) r c), .non, .non, .non, .non]) := by
    intro r z5
    have := loop_ext (b := stepB (gNm 7) (q2__law_view F__law_order F__law_step)) (ks := [7, 8, 9, 10]) (fun c : Nat => D.int (c : Int)) (fun acc : List D => [.int (w : Int), .int (t : Int), .tup sg, .int (r : Int), .lst ((ordP w t).map pl), z5, .lst acc, .non, .non, .non, .non]) (fun c => [lv (zps w t sg) r c]) 1 1000 (List.range w) [] (fun _ _ => by simp) (by simp; omega) fun c _ acc hB => by
      simp [q2__law_view, okLen_of (n := 4) (by omega), steps4 w t sg hsg, appOf, okLen_of (n := acc.length + 1) (by omega)]
    rw [this, List.nil_append, flat_single]
  have k2 : loopF (stepB (gNm 3) (q3__law_view F__law_order F__law_step)) [3, 6, 7, 8, 9, 10] ((List.range t).map fun i : Nat => D.int (i : Int)) [.int (w : Int), .int (t : Int), .tup sg, .non, .lst ((ordP w t).map pl), .lst [], .non, .non, .non, .non, .non]
      = some (.nx [.int (w : Int), .int (t : Int), .tup sg, .non, .lst ((ordP w t).map pl), .lst ((List.range t).map fun r => .tup ((List.range w).map fun c => lv (zps w t sg) r c)), .non, .non, .non, .non, .non]) := by
    have := loop_ext (b := stepB (gNm 3) (q3__law_view F__law_order F__law_step)) (ks := [3, 6, 7, 8, 9, 10]) (fun c : Nat => D.int (c : Int)) (fun acc : List D => [.int (w : Int), .int (t : Int), .tup sg, .non, .lst ((ordP w t).map pl), .lst acc, .non, .non, .non, .non, .non]) (fun r => [.tup ((List.range w).map fun c => lv (zps w t sg) r c)]) 1 1000 (List.range t) [] (fun _ _ => by simp) (by simp; omega) fun r _ acc hB => by
      simp [q3__law_view, okLen_of (n := 0) (by omega), s62_of (i := (w : Int)) (by omega) (by omega), intsD0, k1 r, appOf, okLen_of (n := acc.length + 1) (by omega)]
    rw [this, List.nil_append, flat_single]
  simp [lorder_ok w t hw ht, okLen_of (n := 0) (by omega), s62_of (i := (t : Int)) (by omega) (by omega), intsD0, k2, tgrid]
end K52

namespace K52
open PySem PySem.Spec PyProof.Rows L2 TL
theorem al_map (f : Nat × Nat → D) (a : Nat × Nat) : ∀ P : List (Nat × Nat), a ∈ P → al (P.zip (P.map f)) a = some (f a)
  | [], h => by simp at h
  | p :: P, h => by
    rw [List.map_cons, List.zip_cons_cons, al_cons]
    by_cases e : p = a
    · rw [if_pos e, e]
    · rw [if_neg e]
      rcases List.mem_cons.mp h with h | h
      · exact absurd h.symm e
      · exact al_map f a P h
theorem abv_of {s r c : Nat} (h1 : r % s = 0) (h2 : c % s = 0) : abv s r c = (r, c) := by
  unfold abv; rw [h1, h2]; rfl
theorem lv_full (w t : Nat) (px : Nat → Nat → Int) (r c : Nat) (hr : r < t) (hc : c < w) : lv (zps w t (sgs w t px)) r c = pxD px r c := by
  have ha : al (zps w t (sgs w t px)) (r, c) = some (pxD px r c) := al_map (fun p => pxD px p.1 p.2) (r, c) (ordP w t) ((ordP_mem w t (r, c)).mpr ⟨hr, hc⟩)
  obtain ⟨d1, d2⟩ := stp_dv r c
  have hsm : ∀ (s : Nat) (x : D), s < stp r c → r % s = 0 → c % s = 0 → pick (zps w t (sgs w t px)) r c s x = x := by
    intro s x h1 h2 h3
    unfold pick
    rw [abv_of h2 h3, if_neg (by simp only; omega)]
  have heq : ∀ x, pick (zps w t (sgs w t px)) r c (stp r c) x = pxD px r c := by
    intro x
    unfold pick
    rw [abv_of d1 d2, if_pos rfl, ha]; rfl
  unfold lv
  simp only [List.foldl_cons, List.foldl_nil]
  rcases stp_cases r c with h | h | h | h <;> rw [h] at heq hsm d1 d2
  · rw [heq, hsm 4 _ (by omega) (by omega) (by omega), hsm 2 _ (by omega) (by omega) (by omega), hsm 1 _ (by omega) (by omega) (by omega)]
  · rw [heq, hsm 2 _ (by omega) (by omega) (by omega), hsm 1 _ (by omega) (by omega) (by omega)]
  · rw [heq, hsm 1 _ (by omega) (by omega) (by omega)]
  · rw [heq]
theorem whole_full (w t : Nat) (px : Nat → Nat → Int) : tgrid w t (vw w t (zps w t (sgs w t px))) = tgrid w t (pxD px) :=
  tgrid_congr w t fun r hr c hc => by rw [vw_lv w t _ r c hr hc, lv_full w t px r c hr hc]
theorem view_law (w t : Nat) (sg : List D) : tgrid w t (vw w t (zps w t sg)) = tgrid w t (lv (zps w t sg)) :=
  tgrid_congr w t fun r hr c hc => vw_lv w t _ r c hr hc
/-! how many are alike -/
def cnt1 (w : Nat) (f g : Nat → D) : Nat := ((List.range w).filter fun c => dq (f c) (g c)).length
def cnt (w t : Nat) (v v' : Nat → Nat → D) : Nat := (List.range t).foldl (fun n r => n + cnt1 w (v r) (v' r)) 0
theorem zip_rng (f g : Nat → D) (n : Nat) : zipD ((List.range n).map f) ((List.range n).map g) = (List.range n).map fun r => D.tup [f r, g r] := by
  unfold zipD
  rw [List.zip_map']
  rw [List.map_map]; rfl
theorem fm_len (l : List Nat) (p : Nat → Bool) (x : D) : (l.filterMap fun c => if p c then some x else none) = List.replicate (l.filter p).length x := by
  induction l with
  | nil => rfl
  | cons a l ih => rw [List.filterMap_cons, List.filter_cons]; cases p a <;> simp [ih, List.replicate_succ]
theorem dEq_of {a b : D} (ha : pyOk 40 a = true) (hb : pyOk 40 b = true) : dEq a b = some (.bl (dq a b)) := by
  unfold dEq; rw [ha, hb]; rfl
theorem alike_ok (w t : Nat) (hw : w ≤ 100) (ht : t ≤ 100) (v v' : Nat → Nat → D) (h1 : ∀ r < t, ∀ c < w, pyOk 40 (v r c) = true) (h2 : ∀ r < t, ∀ c < w, pyOk 40 (v' r c) = true) :
    F_alike [tgrid w t v, tgrid w t v'] = some (.int (cnt w t v v' : Int), [tgrid w t v, tgrid w t v']) := by
  unfold F_alike b_alike
  rw [v_run2]
  have k1 : ∀ (r : Nat), r < t → ∀ (z0 z1 z2 z3 z4 : D), lcF (stepLc [5, 6] (gTp (gsCons (gNm 5) (gsCons (gNm 6) gsNil))) t1_alike e2_alike) ((List.range w).map fun c => D.tup [v r c, v' r c]) [z0, z1, z2, z3, z4, .non, .non]
      = some (List.replicate (cnt1 w (v r) (v' r)) (.int 1), [z0, z1, z2, z3, z4, .non, .non]) := by
    intro r hr z0 z1 z2 z3 z4
    rw [lc_map (fun c => D.tup [v r c, v' r c]) (fun c => if dq (v r c) (v' r c) then some (D.int 1) else none) _ _ fun c hc => by
      have hc := List.mem_range.mp hc
      have e := dEq_of (h1 r hr c hc) (h2 r hr c hc)
      cases h : dq (v r c) (v' r c) <;> rw [h] at e <;> simp [t1_alike, e2_alike, e], fm_len]
    rfl
  have k2 : loopF (stepB (gTp (gsCons (gNm 3) (gsCons (gNm 4) gsNil))) q3_alike) [3, 4] ((List.range t).map fun r => D.tup [.tup ((List.range w).map fun c => v r c), .tup ((List.range w).map fun c => v' r c)]) [tgrid w t v, tgrid w t v', .int ((0 : Nat) : Int), .non, .non, .non, .non]
      = some (.nx [tgrid w t v, tgrid w t v', .int (cnt w t v v' : Int), .non, .non, .non, .non]) := by
    refine loop_fold (fun r => D.tup [.tup ((List.range w).map fun c => v r c), .tup ((List.range w).map fun c => v' r c)]) (fun n : Nat => [tgrid w t v, tgrid w t v', .int (n : Int), .non, .non, .non, .non]) (fun n r => n + cnt1 w (v r) (v' r)) (fun _ => True) (List.range t) 0 trivial fun r hr n _ => ⟨trivial, ?_⟩
    simp [q3_alike, zip_rng, okLen_of (n := w) (by omega), k1 r (List.mem_range.mp hr)]
  have e : ∀ v, tgrid w t v = .tup ((List.range t).map fun r => .tup ((List.range w).map fun c => v r c)) := fun _ => rfl
  simp only [Int.ofNat_zero] at k2
  simp only [e] at k2 ⊢
  simp [zip_rng, k2]
theorem cnt_full (w t : Nat) (px : Nat → Nat → Int) : cnt w t (pxD px) (pxD px) = t * w := by
  have h : ∀ r, cnt1 w (pxD px r) (pxD px r) = w := by
    intro r
    unfold cnt1
    rw [List.filter_eq_self.mpr]
    · simp
    · intro c _; simp [pxD, dq]
  unfold cnt
  simp only [h]
  induction t with
  | zero => simp
  | succ t ih => rw [List.range_succ, List.foldl_append, ih]; simp [Nat.succ_mul]
/-! pictures -/
theorem integer_ok (i : Int) : F_is_integer [.int i] = some (.bl true, [.int i]) := by
  unfold F_is_integer b_is_integer
  rw [v_run1]; simp
theorem number_ok (i lo hi : Int) : F_is_number [.int i, .int lo, .int hi] = some (.bl (decide (lo ≤ i) && decide (i ≤ hi)), [.int i, .int lo, .int hi]) := by
  unfold F_is_number b_is_number
  rw [v_run3]
  by_cases h : lo ≤ i <;> simp [integer_ok, h]
theorem row_ok (l : List D) (lo hi : Int) : F_is_row [.tup l, .int lo, .int hi] = some (.bl (decide (lo ≤ l.length) && decide ((l.length : Int) ≤ hi)), [.tup l, .int lo, .int hi]) := by
  unfold F_is_row b_is_row
  rw [v_run3]
  by_cases h : lo ≤ l.length <;> simp [h]
theorem picture_ok (w t : Nat) (hw0 : 1 ≤ w) (hw : w ≤ 20) (ht : t ≤ 20) (px : Nat → Nat → Int) (hp : ∀ r < t, ∀ c < w, 0 ≤ px r c ∧ px r c ≤ 255) : F_is_picture [picD w t px] = some (.bl true, [picD w t px]) := by
  unfold F_is_picture b_is_picture
  rw [v_run1]
  have k1 : ∀ r < t, ∀ z1 : D, lcF (stepLc [2] (gNm 2) tYesF (e1_is_picture F_is_row F_is_number)) ((List.range w).map fun c => pxD px r c) [picD w t px, z1, .non] = some (List.replicate w (.bl true), [picD w t px, z1, .non]) := by
    intro r hr z1
    rw [lc_all (fun c => pxD px r c) (fun _ => .bl true) _ _ fun c hc => by
      obtain ⟨a, b⟩ := hp r hr c (List.mem_range.mp hc)
      simp [e1_is_picture, pxD, number_ok, a, b]]
    rw [List.map_const', List.length_range]
  have hix1 : dIx (picD w t px) (.int 1) = some (tgrid w t (pxD px)) := by simp [picD]
  have hix0 : dIx (picD w t px) (.int 0) = some (.int (w : Int)) := by simp [picD]
  have hrow : F_is_row [picD w t px, .int 2, .int 2] = some (.bl true, [picD w t px, .int 2, .int 2]) := by
    unfold picD; rw [row_ok]; simp
  have hrow2 : F_is_row [tgrid w t (pxD px), .int 0, .int 20] = some (.bl true, [tgrid w t (pxD px), .int 0, .int 20]) := by
    unfold tgrid; rw [row_ok]; simp; omega
  have k2 : loopF (stepB (gNm 1) (q2_is_picture F_is_row F_is_number)) [1] ((List.range t).map fun r => D.tup ((List.range w).map fun c => pxD px r c)) [picD w t px, .non, .non] = some (.nx [picD w t px, .non, .non]) := by
    refine loop_fold (fun r => D.tup ((List.range w).map fun c => pxD px r c)) (fun _ : Unit => [picD w t px, .non, .non]) (fun _ _ => ()) (fun _ => True) (List.range t) () trivial fun r hr _ _ => ⟨trivial, ?_⟩
    simp [q2_is_picture, hix0, row_ok, okLen_of (n := w) (by omega), k1 r (List.mem_range.mp hr), allD, getBls_true]
  have hseq : seqD (.v (tgrid w t (pxD px))) = some ((List.range t).map fun r => D.tup ((List.range w).map fun c => pxD px r c)) := rfl
  simp [hrow, hix0, hix1, hrow2, number_ok, hseq, k2, show ¬ (20 : Int) < w by omega, show (1 : Int) ≤ w by omega]
end K52

namespace K52
open PySem PySem.Spec PyProof.Rows L2 TL
/-- how many signs are right after the first m sent -/
def cm (w t : Nat) (px : Nat → Nat → Int) (m : Nat) : Nat := cnt w t (vw w t (zps w t ((sgs w t px).take m))) (pxD px)
theorem sgs_len (w t : Nat) (px : Nat → Nat → Int) : (sgs w t px).length = t * w := by unfold sgs; rw [List.length_map, ordP_len]
theorem sgs_int (w t : Nat) (px : Nat → Nat → Int) : ∀ d ∈ sgs w t px, ∃ i, d = .int i := by
  intro d hd
  obtain ⟨p, _, rfl⟩ := List.mem_map.mp hd
  exact ⟨_, rfl⟩
theorem al_mem {Z : List ((Nat × Nat) × D)} {a : Nat × Nat} {d : D} (h : al Z a = some d) : ∃ z ∈ Z, z.2 = d := by
  unfold al at h
  cases e : Z.find? fun z => decide (z.1 = a) with
  | none => rw [e] at h; cases h
  | some z => rw [e] at h; cases h; exact ⟨z, List.mem_of_find?_eq_some e, rfl⟩
theorem lv_kind (Z : List ((Nat × Nat) × D)) (hz : ∀ z ∈ Z, ∃ i, z.2 = .int i) (r c : Nat) : lv Z r c = .non ∨ ∃ i, lv Z r c = .int i := by
  have step : ∀ s x, (x = D.non ∨ ∃ i, x = D.int i) → (pick Z r c s x = .non ∨ ∃ i, pick Z r c s x = .int i) := by
    intro s x hx
    unfold pick
    split
    · cases e : al Z (abv s r c) with
      | none => exact hx
      | some d =>
        obtain ⟨z, hm, rfl⟩ := al_mem e
        exact .inr (hz z hm)
    · exact hx
  unfold lv
  simp only [List.foldl_cons, List.foldl_nil]
  exact step _ _ (step _ _ (step _ _ (step _ _ (.inl rfl))))
theorem zps_int (w t : Nat) (px : Nat → Nat → Int) (m : Nat) : ∀ z ∈ zps w t ((sgs w t px).take m), ∃ i, z.2 = .int i := by
  intro z hz
  have := (List.of_mem_zip (a := z.1) (b := z.2) hz).2
  exact sgs_int w t px _ (List.mem_of_mem_take this)
theorem vw_ok (w t : Nat) (px : Nat → Nat → Int) (m : Nat) : ∀ r < t, ∀ c < w, pyOk 40 (vw w t (zps w t ((sgs w t px).take m)) r c) = true := by
  intro r hr c hc
  rw [vw_lv w t _ r c hr hc]
  rcases lv_kind _ (zps_int w t px m) r c with h | ⟨i, h⟩ <;> rw [h] <;> simp
theorem cm_full (w t : Nat) (px : Nat → Nat → Int) : cm w t px (t * w) = t * w := by
  unfold cm
  rw [List.take_of_length_le (by rw [sgs_len]; omega)]
  have : cnt w t (vw w t (zps w t (sgs w t px))) (pxD px) = cnt w t (pxD px) (pxD px) := by
    unfold cnt
    have e : ∀ r ∈ List.range t, cnt1 w (vw w t (zps w t (sgs w t px)) r) (pxD px r) = cnt1 w (pxD px r) (pxD px r) := by
      intro r hr
      unfold cnt1
      congr 1
      apply List.filter_congr
      intro c hc
      rw [vw_lv w t _ r c (List.mem_range.mp hr) (List.mem_range.mp hc), lv_full w t px r c (List.mem_range.mp hr) (List.mem_range.mp hc)]
    revert e
    generalize List.range t = l
    intro e
    generalize 0 = n
    induction l generalizing n with
    | nil => rfl
    | cons a l ih =>
      simp only [List.foldl_cons]
      rw [e a (by simp)]
      exact ih (fun r hr => e r (by simp [hr])) _
  rw [this, cnt_full]
theorem first_ok (w t : Nat) (hw : w ≤ 100) (ht : t ≤ 100) (px : Nat → Nat → Int) (least : Nat) (hl : least ≤ t * w) :
    ∃ k, k ≤ t * w ∧ least ≤ cm w t px k ∧ (∀ j < k, ¬ least ≤ cm w t px j) ∧ F_first_alike [picD w t px, .int (least : Int)] = some (.int (k : Int), [picD w t px, .int (least : Int)]) := by
  have hn : t * w ≤ 10000 := Nat.le_trans (Nat.mul_le_mul ht hw) (by omega)
  cases hf : (List.range (t * w + 1)).find? (fun m => decide (least ≤ cm w t px m)) with
  | none =>
    have := List.find?_eq_none.mp hf (t * w) (by simp)
    rw [cm_full] at this
    simp at this; omega
  | some k =>
    have hf2 := hf
    rw [List.find?_range_eq_some] at hf2
    obtain ⟨h1, h2, h3⟩ := hf2
    simp only [decide_eq_true_eq] at h1
    simp only [List.mem_range] at h2
    refine ⟨k, by omega, h1, fun j hj => by simpa using h3 j hj, ?_⟩
    unfold F_first_alike b_first_alike
    rw [v_run2]
    have key := loop_find (b := stepB (gNm 3) (q1_first_alike F_sent_signs F_alike F_view)) (ks := [3]) (fun m : Nat => D.int (m : Int))
      [picD w t px, .int (least : Int), .tup (sgs w t px), .non, .int (w : Int), tgrid w t (pxD px)] (fun m => decide (least ≤ cm w t px m)) (fun m : Nat => D.int (m : Int)) (fun m => [picD w t px, .int (least : Int), .tup (sgs w t px), .int (m : Int), .int (w : Int), tgrid w t (pxD px)]) (List.range (t * w + 1)) (by
      intro m hm
      have e := alike_ok w t hw ht (vw w t (zps w t ((sgs w t px).take m))) (pxD px) (vw_ok w t px m) (fun r _ c _ => by simp [pxD])
      have ev := view_ok w t hw ht ((sgs w t px).take m)
      have hlen : lenD (tgrid w t (pxD px)) = some (.int (t : Int)) := by simp [tgrid]
      rw [show cnt w t (vw w t (zps w t ((sgs w t px).take m))) (pxD px) = cm w t px m from rfl] at e
      by_cases h : least ≤ cm w t px m
      · simp [q1_first_alike, hlen, cut_take, ev, e, h]
      · simp [q1_first_alike, hlen, cut_take, ev, e, h])
    rw [hf] at key
    have hp : ∃ l, picD w t px = .tup l ∧ l = [.int (w : Int), tgrid w t (pxD px)] := ⟨_, rfl, rfl⟩
    have hs := sent_ok w t hw ht px
    have hd : ∀ (k : List D → Rho → Option Rho) (ρ : Rho), gTp k (picD w t px) ρ = k [.int (w : Int), tgrid w t (pxD px)] ρ := fun _ _ => rfl
    have hnat : ((t : Int) * (w : Int) + 1).toNat = t * w + 1 := by
      have : (t : Int) * (w : Int) = ((t * w : Nat) : Int) := by simp
      rw [this]; omega
    have hsm : small62 ((t : Int) * (w : Int) + 1) = true := by
      have : (t : Int) * (w : Int) = ((t * w : Nat) : Int) := by simp
      rw [this]; exact s62_of (by omega) (by omega)
    simp [hs, hd, sgs_len, hsm, hnat, intsD0, key]
end K52

namespace K52
open PySem PySem.Spec PyProof.Rows L2 TL
theorem nx_ok (ns : List Int) (s : Dr) (h : s.ok) (m : Nat) (h0 : 0 < m) (hm : m ≤ 1000000) : ∃ (v : Nat) (s' : Dr), s'.ok ∧ v < m ∧ F__law_next [drD ns s, .int (m : Int)] = some (.int (v : Int), [drD ns s', .int (m : Int)]) := by
  obtain ⟨v, s', h1, h2, h3, e⟩ := next_ok ns s h (m : Int) (by omega) (by omega)
  refine ⟨v.toNat, s', h1, by omega, ?_⟩
  rw [show ((v.toNat : Nat) : Int) = v by omega]
  exact e
theorem sm_ok (d : D) (h : plain 7 d = true) : F__law_same [d, d] = some (.bl true, [d, d]) := same_ok 7 d h
def rOf : Out → Option D
  | .rt d _ => some d
  | _ => none
theorem v_rOf (d : D) (ρ : Rho) : rOf (.rt d ρ) = some d := rfl
def Tr (f : Sf) (ρ : Rho) : Prop := (f ρ).bind rOf = some (.bl true)
theorem Tr.seq {f g : Sf} {ρ ρ1 : Rho} (h : f ρ = some (.nx ρ1)) (k : Tr g ρ1) : Tr (sSeq f g) ρ := by
  unfold Tr
  rw [v_sSeq, h]; exact k
def WR : List D := [.tup [.int 0, .tup []], .tup [.int 21, .tup []], .tup [.int 2, .tup [.tup [.int 1]]], .tup [.int 2, .tup [.lst [.int 1, .int 2]]], .tup [.int 1, .tup [.tup [.int 256]]], .tup [.int 1, .tup [.tup [.bl true]]], .lst [.int 1, .tup []], .tup [.int 1, .tup [.tup []]], .non, .tup [.int 1]]
theorem wrong_ok : ∀ x ∈ WR, F_is_picture [x] = some (.bl false, [x]) := by
  intro x hx
  simp only [WR, List.mem_cons, List.not_mem_nil, or_false] at hx
  rcases hx with h | h | h | h | h | h | h | h | h | h <;> subst h <;> kernel_rfl
theorem t16 (ns : List Int) (s : Dr) (hs : s.ok) (z0 z2 z3 z4 z5 z6 z7 z8 z10 z11 z12 z13 z14 z15 z16 z17 z18 z19 z20 : D) : Tr (p16_law F__law_draw F__law_next F__law_order F_is_picture F__law_same F_order_of_places F_sent_signs F_whole_picture F_view F__law_view F_first_alike) [z0, drD ns s, z2, z3, z4, z5, z6, z7, z8, .lst WR, z10, z11, z12, z13, z14, z15, z16, z17, z18, z19, z20] := by
  obtain ⟨v, s', h1, h2, e⟩ := nx_ok ns s hs 10 (by omega) (by omega)
  have hv : v < WR.length := h2
  have e2 := ix_nat WR v hv
  have e3 := wrong_ok WR[v] (List.getElem_mem hv)
  have e4 : lenD (.lst WR) = some (.int 10) := rfl
  generalize WR[v] = x at e2 e3
  generalize WR = W at *
  simp only [Int.cast_ofNat_Int] at e
  simp [Tr, v_rOf, p16_law, e4, e, e2, e3]
theorem t15 (ns : List Int) (s : Dr) (hs : s.ok) (z0 z2 z3 z4 z5 z6 z7 z8 z9 z10 z11 z12 z13 z14 z15 z16 z17 z18 z19 z20 : D) : Tr (p15_law F__law_draw F__law_next F__law_order F_is_picture F__law_same F_order_of_places F_sent_signs F_whole_picture F_view F__law_view F_first_alike) [z0, drD ns s, z2, z3, z4, z5, z6, z7, z8, z9, z10, z11, z12, z13, z14, z15, z16, z17, z18, z19, z20] := by
  unfold p15_law
  refine Tr.seq (ρ1 := [z0, drD ns s, z2, z3, z4, z5, z6, z7, z8, .lst WR, z10, z11, z12, z13, z14, z15, z16, z17, z18, z19, z20]) ?_ (t16 ns s hs _ _ _ _ _ _ _ _ _ _ _ _ _ _ _ _ _ _ _)
  simp [okLen, WR]
/-! how many are the same, as the law counts -/
theorem getInts_of : ∀ l : List Int, getInts (l.map D.int) = some l
  | [] => rfl
  | a :: l => by rw [List.map_cons]; show (getInts _).map _ = _; rw [getInts_of l]; rfl
theorem sum_ones (k : Nat) : sumD (.lst (List.replicate k (.int 1))) = some (.int (k : Int)) := by
  have e : List.replicate k (D.int 1) = (List.replicate k (1 : Int)).map D.int := by simp
  show (getInts _).map _ = _
  rw [e, getInts_of]
  simp
theorem sum_map (f : Nat → Nat) : ∀ (l : List Nat) (n : Nat), l.foldl (fun n r => n + f r) n = n + (l.map f).sum
  | [], n => by simp
  | a :: l, n => by rw [List.foldl_cons, sum_map f l]; simp; omega
theorem castsum : ∀ l : List Nat, (l.map fun n : Nat => (n : Int)).sum = ((l.sum : Nat) : Int)
  | [] => rfl
  | a :: l => by rw [List.map_cons, List.sum_cons, castsum l]; simp
theorem dq_comm_i (i : Int) (d : D) (h : d = .non ∨ ∃ j, d = .int j) : dq (.int i) d = dq d (.int i) := by
  rcases h with rfl | ⟨j, rfl⟩
  · rfl
  · simp only [dq]; rw [Bool.eq_iff_iff]; simp; exact ⟨fun h => h.symm, fun h => h.symm⟩
theorem cm_sum (w t : Nat) (px : Nat → Nat → Int) (m : Nat) : ((List.range t).map fun r => cnt1 w (pxD px r) (lv (zps w t ((sgs w t px).take m)) r)).sum = cm w t px m := by
  unfold cm cnt
  rw [sum_map, Nat.zero_add]
  congr 1
  apply List.map_congr_left
  intro r hr
  unfold cnt1
  congr 1
  apply List.filter_congr
  intro c hc
  rw [vw_lv w t _ r c (List.mem_range.mp hr) (List.mem_range.mp hc)]
  exact dq_comm_i _ _ (lv_kind _ (zps_int w t px m) r c)
theorem q7_ok (w t : Nat) (hw : w ≤ 100) (ht : t ≤ 100) (px : Nat → Nat → Int) (ns : List Int) (s : Dr) (least : Nat) (n : Int) (b : Bool) (hb : 0 ≤ n → decide (least ≤ cm w t px n.toNat) = b) (z0 z3 z4 z6 z8 z9 : D) :
    (stepB (gTp (gsCons (gNm 12) (gsCons (gNm 13) gsNil))) (q7_law F__law_draw F__law_next F__law_order F_is_picture F__law_same F_order_of_places F_sent_signs F_whole_picture F_view F__law_view F_first_alike) (.tup [.int n, .bl b]) [z0, drD ns s, tgrid w t (pxD px), z3, z4, .tup (sgs w t px), z6, .int (least : Int), z8, z9, .int (w : Int), .int (t : Int), .non, .non, .non, .non, .non, .non, .non, .non, .non]).bind (nxOf [12, 13, 14, 15])
      = some [z0, drD ns s, tgrid w t (pxD px), z3, z4, .tup (sgs w t px), z6, .int (least : Int), z8, z9, .int (w : Int), .int (t : Int), .non, .non, .non, .non, .non, .non, .non, .non, .non] := by
  have hn : t * w ≤ 10000 := Nat.le_trans (Nat.mul_le_mul ht hw) (by omega)
  by_cases h0 : 0 ≤ n
  · have hb := hb h0
    obtain ⟨m, rfl⟩ : ∃ m : Nat, n = (m : Int) := ⟨n.toNat, by omega⟩
    simp only [Int.toNat_natCast] at hb
    have ev := lview_ok w t hw ht ((sgs w t px).take m) (by rw [List.length_take, sgs_len]; omega)
    have hk := lv_kind _ (zps_int w t px m)
    have hcs := cm_sum w t px m
    generalize lv (zps w t ((sgs w t px).take m)) = v at ev hk hcs
    have k1 : ∀ (r : Nat), r < t → ∀ (y0 y1 y2 y3 y4 y5 y6 y7 y8 y9 y10 y11 y12 y13 y14 y15 y16 y17 y18 : D), lcF (stepLc [19, 20] (gTp (gsCons (gNm 19) (gsCons (gNm 20) gsNil))) (t4_law F__law_draw F__law_next F__law_order F_is_picture F__law_same F_order_of_places F_sent_signs F_whole_picture F_view F__law_view F_first_alike) (e5_law F__law_draw F__law_next F__law_order F_is_picture F__law_same F_order_of_places F_sent_signs F_whole_picture F_view F__law_view F_first_alike)) ((List.range w).map fun c => D.tup [pxD px r c, v r c]) [y0, y1, y2, y3, y4, y5, y6, y7, y8, y9, y10, y11, y12, y13, y14, y15, y16, y17, y18, .non, .non]
        = some (List.replicate (cnt1 w (pxD px r) (v r)) (.int 1), [y0, y1, y2, y3, y4, y5, y6, y7, y8, y9, y10, y11, y12, y13, y14, y15, y16, y17, y18, .non, .non]) := by
      intro r hr y0 y1 y2 y3 y4 y5 y6 y7 y8 y9 y10 y11 y12 y13 y14 y15 y16 y17 y18
      rw [lc_map (fun c => D.tup [pxD px r c, v r c]) (fun c => if dq (pxD px r c) (v r c) then some (D.int 1) else none) _ _ fun c hc => by
        have e := dEq_of (a := pxD px r c) (b := v r c) (by simp [pxD]) (by rcases hk r c with h | ⟨i, h⟩ <;> rw [h] <;> simp)
        cases h : dq (pxD px r c) (v r c) <;> rw [h] at e <;> simp [t4_law, e5_law, e], fm_len]
      rfl
    have k2 : ∀ (y0 y1 y2 y3 y4 y5 y6 y7 y8 y9 y10 y11 y12 y13 y14 y15 : D), lcF (stepLc [16, 18] (gTp (gsCons (gNm 16) (gsCons (gNm 18) gsNil))) tYesF (e6_law F__law_draw F__law_next F__law_order F_is_picture F__law_same F_order_of_places F_sent_signs F_whole_picture F_view F__law_view F_first_alike)) ((List.range t).map fun r => D.tup [.tup ((List.range w).map fun c => pxD px r c), .tup ((List.range w).map fun c => v r c)]) [y0, y1, y2, y3, y4, y5, y6, y7, y8, y9, y10, y11, y12, y13, y14, y15, .non, .non, .non, .non, .non]
        = some ((List.range t).map fun r => .int (cnt1 w (pxD px r) (v r) : Int), [y0, y1, y2, y3, y4, y5, y6, y7, y8, y9, y10, y11, y12, y13, y14, y15, .non, .non, .non, .non, .non]) := by
      intro y0 y1 y2 y3 y4 y5 y6 y7 y8 y9 y10 y11 y12 y13 y14 y15
      refine lc_all (fun r => D.tup [.tup ((List.range w).map fun c => pxD px r c), .tup ((List.range w).map fun c => v r c)]) (fun r => .int (cnt1 w (pxD px r) (v r) : Int)) _ _ fun r hr => ?_
      simp [e6_law, zip_rng, okLen_of (n := w) (by omega), k1 r (List.mem_range.mp hr), sum_ones]
    have k3 : sumD (.lst ((List.range t).map fun r => .int (cnt1 w (pxD px r) (v r) : Int))) = some (.int (cm w t px m : Int)) := by
      have e : ((List.range t).map fun r => D.int (cnt1 w (pxD px r) (v r) : Int)) = (((List.range t).map fun r => cnt1 w (pxD px r) (v r)).map fun n : Nat => (n : Int)).map D.int := by simp
      show (getInts _).map _ = _
      rw [e, getInts_of, Option.map_some, castsum, hcs]
    have hz : ∀ (g : Af) (ρ ρ' : Rho), g ρ = some ([.v (tgrid w t (pxD px)), .v (tgrid w t v)], ρ') → iZp g ρ = some ((List.range t).map fun r => D.tup [.tup ((List.range w).map fun c => pxD px r c), .tup ((List.range w).map fun c => v r c)], ρ') := by
      intro g ρ ρ' e
      rw [v_iZp, e]
      simp only [Option.bind_some, tgrid, v_zpT, zip_rng]
    have hz2 : ∀ (ρ' : Rho), zpOf ([.v (tgrid w t (pxD px)), .v (tgrid w t v)], ρ') = some ((List.range t).map fun r => D.tup [.tup ((List.range w).map fun c => pxD px r c), .tup ((List.range w).map fun c => v r c)], ρ') := by
      intro ρ'
      simp only [tgrid, v_zpT, zip_rng]
    subst hb
    simp [q7_law, cut_take, ev, hz2, okLen_of (n := t) (by omega), k2, k3]
  · simp [q7_law, h0]
end K52

namespace K52
open PySem PySem.Spec PyProof.Rows L2 TL
theorem plain_int (n : Nat) (i : Int) : TL.plain n (.int i) = true := by cases n <;> rfl
theorem plain_non (n : Nat) : TL.plain n .non = true := by cases n <;> rfl
theorem plain_tup (n : Nat) (l : List D) (hl : l.length ≤ 10000) (h : ∀ d ∈ l, TL.plain n d = true) : TL.plain (n + 1) (.tup l) = true := by
  simp only [TL.plain, Bool.and_eq_true, List.all_eq_true]
  exact ⟨okS_of hl, h⟩
theorem plain_tgrid (n w t : Nat) (hw : w ≤ 100) (ht : t ≤ 100) (v : Nat → Nat → D) (hv : ∀ r < t, ∀ c < w, v r c = .non ∨ ∃ i, v r c = .int i) : TL.plain (n + 2) (tgrid w t v) = true := by
  unfold tgrid
  refine plain_tup (n + 1) _ (by simp; omega) fun d hd => ?_
  obtain ⟨r, hr, rfl⟩ := List.mem_map.mp hd
  refine plain_tup n _ (by simp; omega) fun d hd => ?_
  obtain ⟨c, hc, rfl⟩ := List.mem_map.mp hd
  rcases hv r (List.mem_range.mp hr) c (List.mem_range.mp hc) with h | ⟨i, h⟩ <;> rw [h]
  · exact plain_non _
  · exact plain_int _ _
section
variable (w t : Nat) (hw : w ≤ 20) (ht : t ≤ 20) (hw0 : 1 ≤ w) (px : Nat → Nat → Int) (hpx : ∀ r < t, ∀ c < w, 0 ≤ px r c ∧ px r c ≤ 255) (ns : List Int) (s : Dr) (hs : s.ok)
include hw ht hw0 hpx hs
theorem t14 (z0 z3 z4 z6 z9 z16 z17 z18 z19 z20 : D) (least k : Nat) (hk : k ≤ t * w) (h1 : least ≤ cm w t px k) (h2 : ∀ j < k, ¬ least ≤ cm w t px j) : Tr (p14_law F__law_draw F__law_next F__law_order F_is_picture F__law_same F_order_of_places F_sent_signs F_whole_picture F_view F__law_view F_first_alike) [z0, drD ns s, tgrid w t (pxD px), z3, z4, .tup (sgs w t px), z6, .int (least : Int), .int (k : Int), z9, .int (w : Int), .int (t : Int), .non, .non, .non, .non, .non, .non, .non, .non, .non] := by
  unfold p14_law
  refine Tr.seq (ρ1 := [z0, drD ns s, tgrid w t (pxD px), z3, z4, .tup (sgs w t px), z6, .int (least : Int), .int (k : Int), z9, .int (w : Int), .int (t : Int), .non, .non, .non, .non, .non, .non, .non, .non, .non]) ?_ (t15 ns s hs _ _ _ _ _ _ _ _ _ _ _ _ _ _ _ _ _ _ _ _)
  have e1 := q7_ok w t (by omega) (by omega) px ns s least (k : Int) true (by intro _; simpa using h1) z0 z3 z4 z6 (.int (k : Int)) z9
  have e2 := q7_ok w t (by omega) (by omega) px ns s least ((k : Int) - 1) false (by
    intro h
    have e : ((k : Int) - 1).toNat = k - 1 := by omega
    rw [e]
    simpa using h2 (k - 1) (by omega)) z0 z3 z4 z6 (.int (k : Int)) z9
  have e3 := fun ds => loop_go (ds := ds) e1
  have e4 := fun ds => loop_go (ds := ds) e2
  simp [okLen_of (n := 2) (by omega), e3, e4, loop_nil]
theorem t13 (z0 z3 z4 z6 z9 : D) (least k : Nat) (hk : k ≤ t * w) (h1 : least ≤ cm w t px k) (h2 : ∀ j < k, ¬ least ≤ cm w t px j) : Tr (p13_law F__law_draw F__law_next F__law_order F_is_picture F__law_same F_order_of_places F_sent_signs F_whole_picture F_view F__law_view F_first_alike) [z0, drD ns s, tgrid w t (pxD px), z3, z4, .tup (sgs w t px), z6, .int (least : Int), .int (k : Int), z9, .int (w : Int), .int (t : Int), .non, .non, .non, .non, .non, .non, .non, .non, .non] := by
  unfold p13_law
  refine Tr.seq (ρ1 := [z0, drD ns s, tgrid w t (pxD px), z3, z4, .tup (sgs w t px), z6, .int (least : Int), .int (k : Int), z9, .int (w : Int), .int (t : Int), .non, .non, .non, .non, .non, .non, .non, .non, .non]) ?_ (t14 w t hw ht hw0 px hpx ns s hs _ _ _ _ _ .non .non .non .non .non least k hk h1 h2)
  have a1 : (0 : Int) ≤ (k : Int) := by omega
  have a2 : (k : Int) ≤ ((t * w : Nat) : Int) := Int.ofNat_le.mpr hk
  have hlen : lenD (.tup (sgs w t px)) = some (.int ((t * w : Nat) : Int)) := by rw [← sgs_len w t px]; rfl
  generalize D.tup (sgs w t px) = sg at hlen
  generalize ((t * w : Nat) : Int) = n at a2 hlen
  generalize (k : Int) = k' at a1 a2
  simp [a1, a2, hlen]
theorem t12 (z0 z4 z6 z8 z9 : D) (least : Nat) (hl : least ≤ t * w) : Tr (p12_law F__law_draw F__law_next F__law_order F_is_picture F__law_same F_order_of_places F_sent_signs F_whole_picture F_view F__law_view F_first_alike) [z0, drD ns s, tgrid w t (pxD px), picD w t px, z4, .tup (sgs w t px), z6, .int (least : Int), z8, z9, .int (w : Int), .int (t : Int), .non, .non, .non, .non, .non, .non, .non, .non, .non] := by
  obtain ⟨k, h1, h2, h3, e⟩ := first_ok w t (by omega) (by omega) px least hl
  unfold p12_law
  refine Tr.seq (ρ1 := [z0, drD ns s, tgrid w t (pxD px), picD w t px, z4, .tup (sgs w t px), z6, .int (least : Int), .int (k : Int), z9, .int (w : Int), .int (t : Int), .non, .non, .non, .non, .non, .non, .non, .non, .non]) ?_ (t13 w t hw ht hw0 px hpx ns s hs _ _ _ _ _ least k h1 h2 h3)
  simp [e]
theorem t11 (z0 z4 z6 z7 z8 z9 : D) : Tr (p11_law F__law_draw F__law_next F__law_order F_is_picture F__law_same F_order_of_places F_sent_signs F_whole_picture F_view F__law_view F_first_alike) [z0, drD ns s, tgrid w t (pxD px), picD w t px, z4, .tup (sgs w t px), z6, z7, z8, z9, .int (w : Int), .int (t : Int), .non, .non, .non, .non, .non, .non, .non, .non, .non] := by
  have hn : t * w ≤ 400 := Nat.mul_le_mul ht hw
  obtain ⟨v, s', h1, h2, e⟩ := nx_ok ns s hs (t * w + 1) (by omega) (by omega)
  unfold p11_law
  refine Tr.seq (ρ1 := [z0, drD ns s', tgrid w t (pxD px), picD w t px, z4, .tup (sgs w t px), z6, .int (v : Int), z8, z9, .int (w : Int), .int (t : Int), .non, .non, .non, .non, .non, .non, .non, .non, .non]) ?_ (t12 w t hw ht hw0 px hpx ns s' h1 _ _ _ _ _ v (by omega))
  have hlen : lenD (.tup (sgs w t px)) = some (.int ((t * w : Nat) : Int)) := by rw [← sgs_len w t px]; rfl
  generalize D.tup (sgs w t px) = sg at hlen
  simp only [Int.natCast_add, Int.cast_ofNat_Int] at e
  generalize ((t * w : Nat) : Int) = n at e hlen
  simp [hlen, e]
theorem t10 (z0 z4 z7 z8 z9 : D) (m : Nat) : Tr (p10_law F__law_draw F__law_next F__law_order F_is_picture F__law_same F_order_of_places F_sent_signs F_whole_picture F_view F__law_view F_first_alike) [z0, drD ns s, tgrid w t (pxD px), picD w t px, z4, .tup (sgs w t px), .int (m : Int), z7, z8, z9, .int (w : Int), .int (t : Int), .non, .non, .non, .non, .non, .non, .non, .non, .non] := by
  have hn : t * w ≤ 400 := Nat.mul_le_mul ht hw
  unfold p10_law
  refine Tr.seq (ρ1 := [z0, drD ns s, tgrid w t (pxD px), picD w t px, z4, .tup (sgs w t px), .int (m : Int), z7, z8, z9, .int (w : Int), .int (t : Int), .non, .non, .non, .non, .non, .non, .non, .non, .non]) ?_ (t11 w t hw ht hw0 px hpx ns s hs _ _ _ _ _ _)
  have e1 := view_ok w t (by omega) (by omega) ((sgs w t px).take m)
  have e2 := lview_ok w t (by omega) (by omega) ((sgs w t px).take m) (by rw [List.length_take, sgs_len]; omega)
  rw [view_law] at e1
  have e3 := sm_ok _ (plain_tgrid 5 w t (by omega) (by omega) (lv (zps w t ((sgs w t px).take m))) fun r _ c _ => lv_kind _ (zps_int w t px m) r c)
  generalize tgrid w t (lv (zps w t ((sgs w t px).take m))) = X at e1 e2 e3
  simp [cut_take, e1, e2, e3]
theorem t9 (z0 z4 z6 z7 z8 z9 : D) : Tr (p9_law F__law_draw F__law_next F__law_order F_is_picture F__law_same F_order_of_places F_sent_signs F_whole_picture F_view F__law_view F_first_alike) [z0, drD ns s, tgrid w t (pxD px), picD w t px, z4, .tup (sgs w t px), z6, z7, z8, z9, .int (w : Int), .int (t : Int), .non, .non, .non, .non, .non, .non, .non, .non, .non] := by
  have hn : t * w ≤ 400 := Nat.mul_le_mul ht hw
  obtain ⟨v, s', h1, h2, e⟩ := nx_ok ns s hs (t * w + 1) (by omega) (by omega)
  unfold p9_law
  refine Tr.seq (ρ1 := [z0, drD ns s', tgrid w t (pxD px), picD w t px, z4, .tup (sgs w t px), .int (v : Int), z7, z8, z9, .int (w : Int), .int (t : Int), .non, .non, .non, .non, .non, .non, .non, .non, .non]) ?_ (t10 w t hw ht hw0 px hpx ns s' h1 _ _ _ _ _ v)
  have hlen : lenD (.tup (sgs w t px)) = some (.int ((t * w : Nat) : Int)) := by rw [← sgs_len w t px]; rfl
  generalize D.tup (sgs w t px) = sg at hlen
  simp only [Int.natCast_add, Int.cast_ofNat_Int] at e
  generalize ((t * w : Nat) : Int) = n at e hlen
  simp [hlen, e]
theorem plain_pic : TL.plain 7 (picD w t px) = true := by
  unfold picD
  refine plain_tup 6 _ (by simp) fun d hd => ?_
  simp only [List.mem_cons, List.not_mem_nil, or_false] at hd
  rcases hd with rfl | rfl
  · exact plain_int _ _
  · exact plain_tgrid 4 w t (by omega) (by omega) _ fun r _ c _ => .inr ⟨_, rfl⟩
theorem t8 (z0 z4 z6 z7 z8 z9 : D) : Tr (p8_law F__law_draw F__law_next F__law_order F_is_picture F__law_same F_order_of_places F_sent_signs F_whole_picture F_view F__law_view F_first_alike) [z0, drD ns s, tgrid w t (pxD px), picD w t px, z4, .tup (sgs w t px), z6, z7, z8, z9, .int (w : Int), .int (t : Int), .non, .non, .non, .non, .non, .non, .non, .non, .non] := by
  unfold p8_law
  refine Tr.seq (ρ1 := [z0, drD ns s, tgrid w t (pxD px), picD w t px, z4, .tup (sgs w t px), z6, z7, z8, z9, .int (w : Int), .int (t : Int), .non, .non, .non, .non, .non, .non, .non, .non, .non]) ?_ (t9 w t hw ht hw0 px hpx ns s hs _ _ _ _ _ _)
  have e1 := whole_ok w t (by omega) (by omega) (sgs w t px)
  rw [whole_full] at e1
  rw [show D.tup [.int (w : Int), tgrid w t (pxD px)] = picD w t px from rfl] at e1
  have e3 := sm_ok _ (plain_pic w t hw ht hw0 px hpx s hs)
  simp [e1, e3]
theorem t7 (z0 z6 z7 z8 z9 : D) : Tr (p7_law F__law_draw F__law_next F__law_order F_is_picture F__law_same F_order_of_places F_sent_signs F_whole_picture F_view F__law_view F_first_alike) [z0, drD ns s, tgrid w t (pxD px), picD w t px, .lst ((ordP w t).map pl), .tup (sgs w t px), z6, z7, z8, z9, .int (w : Int), .int (t : Int), .non, .non, .non, .non, .non, .non, .non, .non, .non] := by
  have hn : t * w ≤ 400 := Nat.mul_le_mul ht hw
  unfold p7_law
  refine Tr.seq (ρ1 := [z0, drD ns s, tgrid w t (pxD px), picD w t px, .lst ((ordP w t).map pl), .tup (sgs w t px), z6, z7, z8, z9, .int (w : Int), .int (t : Int), .non, .non, .non, .non, .non, .non, .non, .non, .non]) ?_ (t8 w t hw ht hw0 px hpx ns s hs _ _ _ _ _ _)
  have e1 := picture_ok w t hw0 hw ht px hpx
  have e2 := order_ok w t (by omega) (by omega)
  have e3 := sent_ok w t (by omega) (by omega) px
  have e4 := sm_ok (.tup ((ordP w t).map pl)) (plain_tup 6 _ (by rw [List.length_map, ordP_len]; omega) fun d hd => by
    obtain ⟨p, _, rfl⟩ := List.mem_map.mp hd
    refine plain_tup 5 _ (by simp) fun d hd => ?_
    simp only [List.mem_cons, List.not_mem_nil, or_false] at hd
    rcases hd with rfl | rfl <;> exact plain_int _ _)
  have e5 := sm_ok (.tup (sgs w t px)) (plain_tup 6 _ (by rw [sgs_len]; omega) fun d hd => by
    obtain ⟨i, rfl⟩ := sgs_int w t px d hd
    exact plain_int _ _)
  simp [e1, e2, e3, e4, e5]
theorem t6 (z0 z5 z6 z7 z8 z9 : D) : Tr (p6_law F__law_draw F__law_next F__law_order F_is_picture F__law_same F_order_of_places F_sent_signs F_whole_picture F_view F__law_view F_first_alike) [z0, drD ns s, tgrid w t (pxD px), picD w t px, .lst ((ordP w t).map pl), z5, z6, z7, z8, z9, .int (w : Int), .int (t : Int), .non, .non, .non, .non, .non, .non, .non, .non, .non] := by
  have hn : t * w ≤ 400 := Nat.mul_le_mul ht hw
  unfold p6_law
  refine Tr.seq (ρ1 := [z0, drD ns s, tgrid w t (pxD px), picD w t px, .lst ((ordP w t).map pl), .tup (sgs w t px), z6, z7, z8, z9, .int (w : Int), .int (t : Int), .non, .non, .non, .non, .non, .non, .non, .non, .non]) ?_ (t7 w t hw ht hw0 px hpx ns s hs _ _ _ _ _)
  have k : ∀ (a b c d : D), lcF (stepLc [16, 17] (gTp (gsCons (gNm 16) (gsCons (gNm 17) gsNil))) tYesF (e3_law F__law_draw F__law_next F__law_order F_is_picture F__law_same F_order_of_places F_sent_signs F_whole_picture F_view F__law_view F_first_alike)) ((ordP w t).map pl) [a, b, tgrid w t (pxD px), c, d, z5, z6, z7, z8, z9, .int (w : Int), .int (t : Int), .non, .non, .non, .non, .non, .non, .non, .non, .non] = some (sgs w t px, [a, b, tgrid w t (pxD px), c, d, z5, z6, z7, z8, z9, .int (w : Int), .int (t : Int), .non, .non, .non, .non, .non, .non, .non, .non, .non]) := by
    intro a b c d
    refine lc_all pl (fun p => pxD px p.1 p.2) _ _ fun p hp => ?_
    have ⟨h1, h2⟩ := (ordP_mem w t p).mp hp
    simp [pl, e3_law, tgrid, ix_rng _ t p.1 h1, ix_rng _ w p.2 h2]
  have hl : okLen (ordP w t).length = true := okLen_of (by rw [ordP_len]; omega)
  simp [hl, k]
theorem t5 (z0 z4 z5 z6 z7 z8 z9 : D) : Tr (p5_law F__law_draw F__law_next F__law_order F_is_picture F__law_same F_order_of_places F_sent_signs F_whole_picture F_view F__law_view F_first_alike) [z0, drD ns s, tgrid w t (pxD px), picD w t px, z4, z5, z6, z7, z8, z9, .int (w : Int), .int (t : Int), .non, .non, .non, .non, .non, .non, .non, .non, .non] := by
  unfold p5_law
  refine Tr.seq (ρ1 := [z0, drD ns s, tgrid w t (pxD px), picD w t px, .lst ((ordP w t).map pl), z5, z6, z7, z8, z9, .int (w : Int), .int (t : Int), .non, .non, .non, .non, .non, .non, .non, .non, .non]) ?_ (t6 w t hw ht hw0 px hpx ns s hs _ _ _ _ _ _)
  simp [lorder_ok w t (by omega) (by omega)]
theorem t4 (z0 z3 z4 z5 z6 z7 z8 z9 : D) : Tr (p4_law F__law_draw F__law_next F__law_order F_is_picture F__law_same F_order_of_places F_sent_signs F_whole_picture F_view F__law_view F_first_alike) [z0, drD ns s, tgrid w t (pxD px), z3, z4, z5, z6, z7, z8, z9, .int (w : Int), .int (t : Int), .non, .non, .non, .non, .non, .non, .non, .non, .non] := by
  unfold p4_law
  refine Tr.seq (ρ1 := [z0, drD ns s, tgrid w t (pxD px), picD w t px, z4, z5, z6, z7, z8, z9, .int (w : Int), .int (t : Int), .non, .non, .non, .non, .non, .non, .non, .non, .non]) ?_ (t5 w t hw ht hw0 px hpx ns s hs _ _ _ _ _ _ _)
  simp [okLen_of (n := 2) (by omega), picD]
end
end K52

namespace K52
open PySem PySem.Spec PyProof.Rows L2 TL
theorem tab {β : Type} [Inhabited β] (g : β → D) (P : β → Prop) (ds : List D) (n : Nat) (hl : ds.length = n) (h : ∀ i < n, ∀ d, ds[i]? = some d → ∃ b, d = g b ∧ P b) : ∃ f : Nat → β, ds = (List.range n).map (fun i => g (f i)) ∧ ∀ i < n, P (f i) := by
  have : ∀ i : Nat, ∃ b, i < n → ds[i]? = some (g b) ∧ P b := by
    intro i
    by_cases hi : i < n
    · have hi2 : i < ds.length := by omega
      obtain ⟨b, e, p⟩ := h i hi ds[i] (List.getElem?_eq_getElem hi2)
      exact ⟨b, fun _ => ⟨by rw [List.getElem?_eq_getElem hi2, e], p⟩⟩
    · exact ⟨default, fun z => absurd z hi⟩
  obtain ⟨f, hf⟩ := Classical.skolem.mp this
  refine ⟨f, ?_, fun i hi => (hf i hi).2⟩
  apply List.ext_getElem?
  intro i
  by_cases hi : i < n
  · rw [(hf i hi).1]; simp [hi]
  · rw [List.getElem?_eq_none (by omega), List.getElem?_eq_none (by simp; omega)]
theorem t3 (w t : Nat) (hw : w ≤ 20) (ht : t ≤ 20) (hw0 : 1 ≤ w) (ns : List Int) (s : Dr) (hs : s.ok) (z0 : D) : Tr (p3_law F__law_draw F__law_next F__law_order F_is_picture F__law_same F_order_of_places F_sent_signs F_whole_picture F_view F__law_view F_first_alike) [z0, drD ns s, .non, .non, .non, .non, .non, .non, .non, .non, .int (w : Int), .int (t : Int), .non, .non, .non, .non, .non, .non, .non, .non, .non] := by
  have k1 : ∀ (z16 : D) (s : Dr), s.ok → ∃ (f : Nat → Int) (s' : Dr), s'.ok ∧ (∀ c < w, 0 ≤ f c ∧ f c ≤ 255) ∧ lcF (stepLc [17] (gNm 17) tYesF (e1_law F__law_draw F__law_next F__law_order F_is_picture F__law_same F_order_of_places F_sent_signs F_whole_picture F_view F__law_view F_first_alike)) ((List.range w).map fun i : Nat => D.int (i : Int)) [z0, drD ns s, .non, .non, .non, .non, .non, .non, .non, .non, .int (w : Int), .int (t : Int), .non, .non, .non, .non, z16, .non, .non, .non, .non]
      = some ((List.range w).map fun c => .int (f c), [z0, drD ns s', .non, .non, .non, .non, .non, .non, .non, .non, .int (w : Int), .int (t : Int), .non, .non, .non, .non, z16, .non, .non, .non, .non]) := by
    intro z16 s hs
    obtain ⟨ds, s', o, hl, hq, e⟩ := lc_st (step := stepLc [17] (gNm 17) tYesF (e1_law F__law_draw F__law_next F__law_order F_is_picture F__law_same F_order_of_places F_sent_signs F_whole_picture F_view F__law_view F_first_alike)) (fun i : Nat => D.int (i : Int)) (fun s => [z0, drD ns s, .non, .non, .non, .non, .non, .non, .non, .non, .int (w : Int), .int (t : Int), .non, .non, .non, .non, z16, .non, .non, .non, .non]) Dr.ok (fun _ d => ∃ b : Int, d = .int b ∧ (0 ≤ b ∧ b ≤ 255)) (List.range w) s hs (by
      intro c _ s hs
      obtain ⟨v, s', h1, h2, e⟩ := nx_ok ns s hs 4 (by omega) (by omega)
      refine ⟨.int (v : Int), s', h1, ⟨_, rfl, by omega⟩, ?_⟩
      simp only [Int.cast_ofNat_Int] at e
      simp [e1_law, e])
    rw [List.length_range] at hl
    obtain ⟨f, ef, pf⟩ := tab (fun b : Int => D.int b) (fun b => 0 ≤ b ∧ b ≤ 255) ds w hl (fun i hi d hd => hq i i d (by simp [hi]) hd)
    exact ⟨f, s', o, pf, by rw [e, ef]⟩
  have k2 : ∃ (px : Nat → Nat → Int) (s' : Dr), s'.ok ∧ (∀ r < t, ∀ c < w, 0 ≤ px r c ∧ px r c ≤ 255) ∧ lcF (stepLc [16] (gNm 16) tYesF (e2_law F__law_draw F__law_next F__law_order F_is_picture F__law_same F_order_of_places F_sent_signs F_whole_picture F_view F__law_view F_first_alike)) ((List.range t).map fun i : Nat => D.int (i : Int)) [z0, drD ns s, .non, .non, .non, .non, .non, .non, .non, .non, .int (w : Int), .int (t : Int), .non, .non, .non, .non, .non, .non, .non, .non, .non]
      = some ((List.range t).map fun r => .tup ((List.range w).map fun c => .int (px r c)), [z0, drD ns s', .non, .non, .non, .non, .non, .non, .non, .non, .int (w : Int), .int (t : Int), .non, .non, .non, .non, .non, .non, .non, .non, .non]) := by
    obtain ⟨ds, s', o, hl, hq, e⟩ := lc_st (step := stepLc [16] (gNm 16) tYesF (e2_law F__law_draw F__law_next F__law_order F_is_picture F__law_same F_order_of_places F_sent_signs F_whole_picture F_view F__law_view F_first_alike)) (fun i : Nat => D.int (i : Int)) (fun s => [z0, drD ns s, .non, .non, .non, .non, .non, .non, .non, .non, .int (w : Int), .int (t : Int), .non, .non, .non, .non, .non, .non, .non, .non, .non]) Dr.ok (fun _ d => ∃ f : Nat → Int, d = .tup ((List.range w).map fun c => .int (f c)) ∧ ∀ c < w, 0 ≤ f c ∧ f c ≤ 255) (List.range t) s hs (by
      intro r _ s hs
      obtain ⟨f, s', h1, h2, e⟩ := k1 (.int (r : Int)) s hs
      refine ⟨.tup ((List.range w).map fun c => .int (f c)), s', h1, ⟨f, rfl, h2⟩, ?_⟩
      simp [e2_law, s62_of (i := (w : Int)) (by omega) (by omega), intsD0, okLen_of (n := w) (by omega), e])
    rw [List.length_range] at hl
    obtain ⟨px, ef, pf⟩ := tab (fun f : Nat → Int => D.tup ((List.range w).map fun c => .int (f c))) (fun f => ∀ c < w, 0 ≤ f c ∧ f c ≤ 255) ds t hl (fun i hi d hd => hq i i d (by simp [hi]) hd)
    exact ⟨px, s', o, pf, by rw [e, ef]⟩
  obtain ⟨px, s', o, hpx, e⟩ := k2
  unfold p3_law
  refine Tr.seq (ρ1 := [z0, drD ns s', tgrid w t (pxD px), .non, .non, .non, .non, .non, .non, .non, .int (w : Int), .int (t : Int), .non, .non, .non, .non, .non, .non, .non, .non, .non]) ?_ (t4 w t hw ht hw0 px hpx ns s' o _ _ _ _ _ _ _ _)
  simp [s62_of (i := (t : Int)) (by omega) (by omega), intsD0, okLen_of (n := t) (by omega), e, tgrid, pxD]
theorem law_true : lawF F_law := by
  intro ns _
  have e0 : F__law_draw [.scr ns] = some (drD ns Dr0, [.scr ns]) := draw_ok ns
  obtain ⟨v1, s1, o1, h1, e1⟩ := nx_ok ns Dr0 Dr0.ok 6 (by omega) (by omega)
  obtain ⟨v2, s2, o2, h2, e2⟩ := nx_ok ns s1 o1 7 (by omega) (by omega)
  obtain ⟨v3, s3, o3, h3, e3⟩ := nx_ok ns s2 o2 4 (by omega) (by omega)
  simp only [Int.cast_ofNat_Int] at e1 e2 e3
  have key : ∃ w t : Nat, w ≤ 20 ∧ t ≤ 20 ∧ 1 ≤ w ∧ (sIf (tBl (eBin dEq (eF (oCallI F__law_next 1 0 (aCons (eOwn 1) (aCons (eC (.int 4)) aNil)))) (eC (.int 0)))) (sAsg (eTup (aCons (eBin dAdd (eVar 10) (eC (.int 5))) (aCons (eBin dAdd (eVar 11) (eC (.int 4))) aNil))) (gTp (gsCons (gNm 10) (gsCons (gNm 11) gsNil)))) sNil)
      [.scr ns, drD ns s2, .non, .non, .non, .non, .non, .non, .non, .non, .int (1 + (v1 : Int)), .int (v2 : Int), .non, .non, .non, .non, .non, .non, .non, .non, .non] = some (.nx [.scr ns, drD ns s3, .non, .non, .non, .non, .non, .non, .non, .non, .int (w : Int), .int (t : Int), .non, .non, .non, .non, .non, .non, .non, .non, .non]) := by
    by_cases hv : v3 = 0
    · refine ⟨1 + v1 + 5, v2 + 4, by omega, by omega, by omega, ?_⟩
      subst hv
      simp at e3
      simp [e3, okLen_of (n := 2) (by omega)]
    · refine ⟨1 + v1, v2, by omega, by omega, by omega, ?_⟩
      have hb : ((v3 : Int) == 0) = false := by rw [beq_eq_false_iff_ne]; omega
      simp [e3, hb, -beq_iff_eq]
  obtain ⟨w, t, hw, ht, hw0, ek⟩ := key
  have T2 : Tr (p2_law F__law_draw F__law_next F__law_order F_is_picture F__law_same F_order_of_places F_sent_signs F_whole_picture F_view F__law_view F_first_alike) [.scr ns, drD ns s2, .non, .non, .non, .non, .non, .non, .non, .non, .int (1 + (v1 : Int)), .int (v2 : Int), .non, .non, .non, .non, .non, .non, .non, .non, .non] := by
    unfold p2_law
    exact Tr.seq ek (t3 w t hw ht hw0 ns s3 o3 _)
  have T0 : Tr (b_law F__law_draw F__law_next F__law_order F_is_picture F__law_same F_order_of_places F_sent_signs F_whole_picture F_view F__law_view F_first_alike) [.scr ns, .non, .non, .non, .non, .non, .non, .non, .non, .non, .non, .non, .non, .non, .non, .non, .non, .non, .non, .non, .non] := by
    unfold b_law
    refine Tr.seq (ρ1 := [.scr ns, drD ns Dr0, .non, .non, .non, .non, .non, .non, .non, .non, .non, .non, .non, .non, .non, .non, .non, .non, .non, .non, .non]) (by simp [e0]) (Tr.seq (by simp [e1, e2, okLen_of (n := 2) (by omega)]) T2)
  unfold Tr at T0
  show ∃ r, runF (b_law F__law_draw F__law_next F__law_order F_is_picture F__law_same F_order_of_places F_sent_signs F_whole_picture F_view F__law_view F_first_alike) 1 20 [.scr ns] = some (.bl true, r)
  rw [v_run1]
  have hd : [D.scr ns] ++ List.replicate 20 .non = [.scr ns, .non, .non, .non, .non, .non, .non, .non, .non, .non, .non, .non, .non, .non, .non, .non, .non, .non, .non, .non, .non] := rfl
  rw [hd]
  cases hb : b_law F__law_draw F__law_next F__law_order F_is_picture F__law_same F_order_of_places F_sent_signs F_whole_picture F_view F__law_view F_first_alike [.scr ns, .non, .non, .non, .non, .non, .non, .non, .non, .non, .non, .non, .non, .non, .non, .non, .non, .non, .non, .non, .non] with
  | none => rw [hb] at T0; cases T0
  | some o =>
    rw [hb] at T0
    cases o with
    | rt d ρ => cases T0; exact ⟨_, rfl⟩
    | nx ρ => cases T0
    | bk ρ => cases T0
    | ct ρ => cases T0
end K52

open PySem PySem.W PyProof.Rows
set_option maxHeartbeats 0 in
theorem PySem.Challenge.cw_farcall_k52_pictures_coarse_first_holds : PySem.Challenge.rw_farcall_k52_pictures_coarse_first.Holds := by
  w_on; o_law; k_head; (case hw => w_witness2)
  k_fill
  refine L2.walk_of (l := PySem.Challenge.rw_farcall_k52_pictures_coarse_first) (n := 63) (k := 10) (x := "script") (CX := fun _ => L2.CX0) (sp := fun w => TL.spL _) rfl (by decide) rfl ⟨rfl, by decide, by decide⟩ (fun w h Y => PySem.W.kIn_of Y) ?F (fun _ _ a ns hl _ hS => ⟨a, ns, rfl, hS, hl, fun _ => rfl⟩) (fun _ _ _ _ _ h => h)
  case F =>
    intro w mg fa h KX G hmg
    refine' TL.toL K52.law_true (K52.all_mk KX G hmg ?a0 ?l0 ?c0 ?k0 ?a1 ?l1 ?c1 ?k1 ?a2 ?l2 ?c2 ?k2 ?a3 ?l3 ?c3 ?k3 ?a4 ?l4 ?c4 ?k4 ?a5 ?l5 ?c5 ?k5 ?a6 ?l6 ?c6 ?k6 ?a7 ?l7 ?c7 ?k7 ?a8 ?l8 ?c8 ?k8 ?a9 ?l9 ?c9 ?k9 ?a10 ?l10 ?c10 ?k10 ?a11 ?l11 ?c11 ?k11 ?a12 ?l12 ?c12 ?k12 ?a13 ?l13 ?c13 ?k13 ?a14 ?l14 ?c14 ?k14 ?a15 ?l15 ?c15 ?k15 ?a16 ?l16 ?c16 ?k16 ?a17 ?l17 ?c17 ?k17 ?z0 ?z1 ?z2 ?z3 ?z4 ?z5 ?z6 ?z7 ?z8 ?z9 ?z10 ?z11 ?z12 ?z13 ?m0 ?v0)
    (case a0 => k_is); (case l0 => k_is); (case c0 => k_is); (case k0 => k_is); (case a1 => k_is); (case l1 => k_is); (case c1 => k_is); (case k1 => k_is); (case a2 => k_is); (case l2 => k_is); (case c2 => k_is); (case k2 => k_is); (case a3 => k_is); (case l3 => k_is); (case c3 => k_is); (case k3 => k_is); (case a4 => k_is); (case l4 => k_is); (case c4 => k_is); (case k4 => k_is); (case a5 => k_is); (case l5 => k_is); (case c5 => k_is); (case k5 => k_is); (case a6 => k_is); (case l6 => k_is); (case c6 => k_is); (case k6 => k_is); (case a7 => k_is); (case l7 => k_is); (case c7 => k_is); (case k7 => k_is); (case a8 => k_is); (case l8 => k_is); (case c8 => k_is); (case k8 => k_is); (case a9 => k_is); (case l9 => k_is); (case c9 => k_is); (case k9 => k_is); (case a10 => k_is); (case l10 => k_is); (case c10 => k_is); (case k10 => k_is); (case a11 => k_is); (case l11 => k_is); (case c11 => k_is); (case k11 => k_is); (case a12 => k_is); (case l12 => k_is); (case c12 => k_is); (case k12 => k_is); (case a13 => k_is); (case l13 => k_is); (case c13 => k_is); (case k13 => k_is); (case a14 => k_is); (case l14 => k_is); (case c14 => k_is); (case k14 => k_is); (case a15 => k_is); (case l15 => k_is); (case c15 => k_is); (case k15 => k_is); (case a16 => k_is); (case l16 => k_is); (case c16 => k_is); (case k16 => k_is); (case a17 => k_is); (case l17 => k_is); (case c17 => k_is); (case k17 => k_is); (case z0 => k_is); (case z1 => k_is); (case z2 => k_is); (case z3 => k_is); (case z4 => k_is); (case z5 => k_is); (case z6 => k_is); (case z7 => k_is); (case z8 => k_is); (case z9 => k_is); (case z10 => k_is); (case z11 => k_is); (case z12 => k_is); (case z13 => k_is); (case m0 => k_is); (case v0 => k_is)

