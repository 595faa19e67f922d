import PyProof.Rows.All
import HandS.ForMost
import HandS.TupAny
import HandS.TupLe
import HandS.Deep
import HandS.Style
import HandS.Wide
import HandS.Flow
import HandS.IsInst
import HandS.SortInts
import HandS.TupMul
import HandS.SortRule
import HandS.Zip
import KE.LtData
import KE.SortData
import KE.DataMinMax
import HandS.RepeatKit
import HandS.Conv
import HandS.Sort
import HandS.Records
import KE.GoesEnum
import PySem.Challenge.RW_farcall_k53_tracks_and_marks
set_option Elab.async false
set_option linter.all false
set_option maxRecDepth 100000
set_option maxHeartbeats 4000000
namespace TL
open PySem PySem.Spec PyProof.Rows L2

/-! ### data as trees -/
inductive D where
  | non | bl (b : Bool) | int (i : Int) | str (s : Str)
  | tup (l : List D) | lst (l : List D) | dct (l : List (D × D)) | set (l : List D) | obj (c : Str) (l : List (Str × D)) | scr (ns : List Int)
  deriving Inhabited

def keyD : Key → D
  | .inl i => .int i
  | .inr s => .str s
def keysD (k : List Key) : D := .tup (k.map keyD)

/-! ### what is kept apart -/
def hide (S : List Addr) (H : Hp) : Hp := fun a => if a ∈ S then none else H a
def Le (G G' : Hp) : Prop := ∀ a o, G a = some o → G' a = some o
theorem Le.refl (G : Hp) : Le G G := fun _ _ h => h
theorem Le.trans {A B C : Hp} (h : Le A B) (k : Le B C) : Le A C := fun a o e => k a o (h a o e)
theorem hide_le (S : List Addr) (H : Hp) : Le (hide S H) H := fun a o e => by
  unfold hide at e
  by_cases h : a ∈ S
  · simp [h] at e
  · simpa [h] using e
theorem hide_some {S : List Addr} {H : Hp} {a : Addr} {o : HO} : hide S H a = some o ↔ a ∉ S ∧ H a = some o := by
  unfold hide
  by_cases h : a ∈ S <;> simp [h]
theorem hide_mono {S S' : List Addr} {H H' : Hp} (hS : ∀ a o, a ∉ S → H a = some o → a ∉ S' ∧ H' a = some o) : Le (hide S H) (hide S' H') := fun a o e => by
  rw [hide_some] at e ⊢
  exact hS a o e.1 e.2
theorem Le.seqT {K : PySem.W.Frag} {G G' : Hp} {a : Addr} {xs : List V} (e : Le G G') (h : SqT K G a xs) : SqT K G' a xs := by
  rcases h with (h | ⟨o, h⟩) | h
  · exact .inl (.inl (e _ _ h))
  · exact .inl (.inr ⟨o, e _ _ h⟩)
  · exact .inr h

theorem Le.seqL {K : PySem.W.Frag} {G G' : Hp} {a : Addr} {xs : List V} (e : Le G G') (h : SqL K G a xs) : SqL K G' a xs := by
  rcases h with (h | ⟨o, h⟩) | h
  · exact .inl (.inl (e _ _ h))
  · exact .inl (.inr ⟨o, e _ _ h⟩)
  · exact .inr h

/-! ### frozen trees -/
mutual
inductive Rf (K : PySem.W.Frag) (mg : Str → Option Value) (G : Hp) : D → V → Prop
  | non : Rf K mg G .non .non
  | bl (b : Bool) : Rf K mg G (.bl b) (.bl b)
  | int (i : Int) : Rf K mg G (.int i) (.int i)
  | str (s : Str) : Rf K mg G (.str s) (.str s)
  | tup {a : Addr} {vs : List V} {ds : List D} : SqT K G a vs → Rfs K mg G ds vs → Rf K mg G (.tup ds) (.ref a)
  | lst {a : Addr} {vs : List V} {ds : List D} : G a = some (.lst vs) → Rfs K mg G ds vs → Rf K mg G (.lst ds) (.ref a)
  | dK {a : Addr} {kvs : List (Key × V)} {kds : List (D × D)} : G a = some (.dK kvs) → kds.map (·.1) = kvs.map (fun p => keyD p.1) → Rfs K mg G (kds.map (·.2)) (kvs.map (·.2)) → Rf K mg G (.dct kds) (.ref a)
  | dT {a : Addr} {kvs : List (List Key × V)} {kds : List (D × D)} : G a = some (.dT kvs) → kds.map (·.1) = kvs.map (fun p => keysD p.1) → Rfs K mg G (kds.map (·.2)) (kvs.map (·.2)) → Rf K mg G (.dct kds) (.ref a)
  | obj {a C dx : Addr} {fvs : List (Str × V)} {fds : List (Str × D)} {c : Str} : mg c = some (.ref C) → G a = some (.ins C dx fvs) → fds.map (·.1) = fvs.map (·.1) → Rfs K mg G (fds.map (·.2)) (fvs.map (·.2)) → Rf K mg G (.obj c fds) (.ref a)
  | scr {a : Addr} {ns : List Int} : SqL K G a (ns.map V.int) → Rf K mg G (.scr ns) (.ref a)
inductive Rfs (K : PySem.W.Frag) (mg : Str → Option Value) (G : Hp) : List D → List V → Prop
  | nil : Rfs K mg G [] []
  | cons {d : D} {v : V} {ds : List D} {vs : List V} : Rf K mg G d v → Rfs K mg G ds vs → Rfs K mg G (d :: ds) (v :: vs)
end

section
variable {K : PySem.W.Frag} {mg : Str → Option Value} {G G' : Hp}
mutual
theorem Rf.mono (e : Le G G') : ∀ {d : D} {v : V}, Rf K mg G d v → Rf K mg G' d v
  | _, _, .non => .non
  | _, _, .bl b => .bl b
  | _, _, .int i => .int i
  | _, _, .str s => .str s
  | _, _, .tup h r => .tup (e.seqT h) (Rfs.mono e r)
  | _, _, .lst h r => .lst (e _ _ h) (Rfs.mono e r)
  | _, _, .dK h k r => .dK (e _ _ h) k (Rfs.mono e r)
  | _, _, .dT h k r => .dT (e _ _ h) k (Rfs.mono e r)
  | _, _, .obj m h k r => .obj m (e _ _ h) k (Rfs.mono e r)
  | _, _, .scr h => .scr (e.seqL h)
theorem Rfs.mono (e : Le G G') : ∀ {ds : List D} {vs : List V}, Rfs K mg G ds vs → Rfs K mg G' ds vs
  | _, _, .nil => .nil
  | _, _, .cons h r => .cons (Rf.mono e h) (Rfs.mono e r)
end
theorem Rfs.length : ∀ {ds : List D} {vs : List V}, Rfs K mg G ds vs → ds.length = vs.length
  | _, _, .nil => rfl
  | _, _, .cons _ r => congrArg (· + 1) (Rfs.length r)
theorem Rfs.get : ∀ {ds : List D} {vs : List V} {i : Nat} {d : D}, Rfs K mg G ds vs → ds[i]? = some d → ∃ v, vs[i]? = some v ∧ Rf K mg G d v
  | _, _, 0, _, .cons h _, e => ⟨_, rfl, by simpa using (Option.some.inj e) ▸ h⟩
  | _, _, i + 1, _, .cons _ r, e => Rfs.get (i := i) r (by simpa using e)
  | _, _, _, _, .nil, e => by simp at e
theorem Rfs.get' {ds : List D} {vs : List V} {i : Nat} {v : V} (r : Rfs K mg G ds vs) (e : vs[i]? = some v) : ∃ d, ds[i]? = some d ∧ Rf K mg G d v := by
  have hl := r.length
  have hi : i < ds.length := by
    have := (List.getElem?_eq_some_iff.mp e).1
    omega
  obtain ⟨v', e', q⟩ := Rfs.get r (List.getElem?_eq_getElem hi)
  rw [e] at e'; cases e'
  exact ⟨_, List.getElem?_eq_getElem hi, q⟩
theorem Rfs.append : ∀ {ds es : List D} {vs ws : List V}, Rfs K mg G ds vs → Rfs K mg G es ws → Rfs K mg G (ds ++ es) (vs ++ ws)
  | _, _, _, _, .nil, s => s
  | _, _, _, _, .cons h r, s => .cons h (Rfs.append r s)
theorem Rfs.take : ∀ {ds : List D} {vs : List V} (n : Nat), Rfs K mg G ds vs → Rfs K mg G (ds.take n) (vs.take n)
  | _, _, 0, _ => by simpa using Rfs.nil
  | _, _, _ + 1, .nil => .nil
  | _, _, n + 1, .cons h r => .cons h (Rfs.take n r)
theorem Rfs.drop : ∀ {ds : List D} {vs : List V} (n : Nat), Rfs K mg G ds vs → Rfs K mg G (ds.drop n) (vs.drop n)
  | _, _, 0, r => r
  | _, _, _ + 1, .nil => .nil
  | _, _, n + 1, .cons _ r => Rfs.drop n r
theorem Rfs.set : ∀ {ds : List D} {vs : List V} {d : D} {v : V} (i : Nat), Rfs K mg G ds vs → Rf K mg G d v → Rfs K mg G (ds.set i d) (vs.set i v)
  | _, _, _, _, _, .nil, _ => .nil
  | _, _, _, _, 0, .cons _ r, h => .cons h r
  | _, _, _, _, i + 1, .cons q r, h => .cons q (Rfs.set i r h)
theorem Rfs.one {d : D} {v : V} (h : Rf K mg G d v) : Rfs K mg G [d] [v] := .cons h .nil
theorem Rfs.reverse : ∀ {ds : List D} {vs : List V}, Rfs K mg G ds vs → Rfs K mg G ds.reverse vs.reverse
  | _, _, .nil => .nil
  | _, _, .cons h r => by
    rw [List.reverse_cons, List.reverse_cons]
    exact (Rfs.reverse r).append (.one h)
theorem Rfs.rep {ds : List D} {vs : List V} (h : Rfs K mg G ds vs) : ∀ n : Nat, Rfs K mg G (List.replicate n ds).flatten (List.replicate n vs).flatten
  | 0 => .nil
  | n + 1 => by
    rw [List.replicate_succ, List.replicate_succ, List.flatten_cons, List.flatten_cons]
    exact h.append (Rfs.rep h n)
theorem Rfs.ints : ∀ {ns : List Int} {vs : List V}, Rfs K mg G (ns.map D.int) vs → vs = ns.map V.int
  | [], _, .nil => rfl
  | _ :: _, _, .cons (.int _) r => congrArg _ (Rfs.ints r)
theorem Rfs.of_ints : ∀ (ns : List Int), Rfs K mg G (ns.map D.int) (ns.map V.int)
  | [] => .nil
  | n :: r => .cons (.int n) (Rfs.of_ints r)
theorem Rfs.bls : ∀ {ns : List Bool} {vs : List V}, Rfs K mg G (ns.map D.bl) vs → vs = ns.map V.bl
  | [], _, .nil => rfl
  | _ :: _, _, .cons (.bl _) r => congrArg _ (Rfs.bls r)
end

/-! ### kinds of slots; trees with owned parts -/
inductive Ty where
  | no | sh | oL (t : Ty) | oK (t : Ty) | oT (t : Ty) | oO (c : Str) (l : List Ty)
  deriving Inhabited

mutual
inductive Rp (K : PySem.W.Frag) (mg : Str → Option Value) (H G : Hp) : Ty → D → V → List Addr → Prop
  | sh {d : D} {v : V} : Rf K mg G d v → Rp K mg H G .sh d v []
  | oL {t : Ty} {a : Addr} {vs : List V} {ds : List D} {f : List Addr} : H a = some (.lst vs) → Rps K mg H G (List.replicate ds.length t) ds vs f → Rp K mg H G (.oL t) (.lst ds) (.ref a) (a :: f)
  | oK {t : Ty} {a : Addr} {kvs : List (Key × V)} {kds : List (D × D)} {f : List Addr} : H a = some (.dK kvs) → kds.map (·.1) = kvs.map (fun p => keyD p.1) →
      Rps K mg H G (List.replicate kds.length t) (kds.map (·.2)) (kvs.map (·.2)) f → Rp K mg H G (.oK t) (.dct kds) (.ref a) (a :: f)
  | oT {t : Ty} {a : Addr} {kvs : List (List Key × V)} {kds : List (D × D)} {f : List Addr} : H a = some (.dT kvs) → kds.map (·.1) = kvs.map (fun p => keysD p.1) →
      Rps K mg H G (List.replicate kds.length t) (kds.map (·.2)) (kvs.map (·.2)) f → Rp K mg H G (.oT t) (.dct kds) (.ref a) (a :: f)
  | oO {ts : List Ty} {a C dx : Addr} {fvs : List (Str × V)} {fds : List (Str × D)} {c : Str} {f : List Addr} : mg c = some (.ref C) → H a = some (.ins C dx fvs) → fds.map (·.1) = fvs.map (·.1) →
      Rps K mg H G ts (fds.map (·.2)) (fvs.map (·.2)) f → Rp K mg H G (.oO c ts) (.obj c fds) (.ref a) (a :: f)
inductive Rps (K : PySem.W.Frag) (mg : Str → Option Value) (H G : Hp) : List Ty → List D → List V → List Addr → Prop
  | nil : Rps K mg H G [] [] [] []
  | cons {t : Ty} {d : D} {v : V} {f g : List Addr} {ts : List Ty} {ds : List D} {vs : List V} : Rp K mg H G t d v f → Rps K mg H G ts ds vs g → Rps K mg H G (t :: ts) (d :: ds) (v :: vs) (f ++ g)
end

section
variable {K : PySem.W.Frag} {mg : Str → Option Value} {H H' G G' : Hp}
mutual
theorem Rp.mono (e : Le G G') : ∀ {t : Ty} {d : D} {v : V} {f : List Addr}, (∀ a ∈ f, H' a = H a) → Rp K mg H G t d v f → Rp K mg H' G' t d v f
  | _, _, _, _, _, .sh r => .sh (r.mono e)
  | _, _, _, _, k, .oL h r => .oL ((k _ (by simp)).trans h) (Rps.mono e (fun a ha => k a (List.mem_cons_of_mem _ ha)) r)
  | _, _, _, _, k, .oK h n r => .oK ((k _ (by simp)).trans h) n (Rps.mono e (fun a ha => k a (List.mem_cons_of_mem _ ha)) r)
  | _, _, _, _, k, .oT h n r => .oT ((k _ (by simp)).trans h) n (Rps.mono e (fun a ha => k a (List.mem_cons_of_mem _ ha)) r)
  | _, _, _, _, k, .oO m h n r => .oO m ((k _ (by simp)).trans h) n (Rps.mono e (fun a ha => k a (List.mem_cons_of_mem _ ha)) r)
theorem Rps.mono (e : Le G G') : ∀ {ts : List Ty} {ds : List D} {vs : List V} {f : List Addr}, (∀ a ∈ f, H' a = H a) → Rps K mg H G ts ds vs f → Rps K mg H' G' ts ds vs f
  | _, _, _, _, _, .nil => .nil
  | _, _, _, _, k, .cons h r => .cons (Rp.mono e (fun a ha => k a (List.mem_append_left _ ha)) h) (Rps.mono e (fun a ha => k a (List.mem_append_right _ ha)) r)
end
mutual
/-- the owned parts given away: a frozen tree -/
theorem Rp.frz (e : Le G G') : ∀ {t : Ty} {d : D} {v : V} {f : List Addr}, (∀ a ∈ f, ∀ o, H a = some o → G' a = some o) → Rp K mg H G t d v f → Rf K mg G' d v
  | _, _, _, _, _, .sh r => r.mono e
  | _, _, _, _, k, .oL h r => .lst (k _ (by simp) _ h) (Rps.frz e (fun a ha => k a (List.mem_cons_of_mem _ ha)) r)
  | _, _, _, _, k, .oK h n r => .dK (k _ (by simp) _ h) n (Rps.frz e (fun a ha => k a (List.mem_cons_of_mem _ ha)) r)
  | _, _, _, _, k, .oT h n r => .dT (k _ (by simp) _ h) n (Rps.frz e (fun a ha => k a (List.mem_cons_of_mem _ ha)) r)
  | _, _, _, _, k, .oO m h n r => .obj m (k _ (by simp) _ h) n (Rps.frz e (fun a ha => k a (List.mem_cons_of_mem _ ha)) r)
theorem Rps.frz (e : Le G G') : ∀ {ts : List Ty} {ds : List D} {vs : List V} {f : List Addr}, (∀ a ∈ f, ∀ o, H a = some o → G' a = some o) → Rps K mg H G ts ds vs f → Rfs K mg G' ds vs
  | _, _, _, _, _, .nil => .nil
  | _, _, _, _, k, .cons h r => .cons (Rp.frz e (fun a ha => k a (List.mem_append_left _ ha)) h) (Rps.frz e (fun a ha => k a (List.mem_append_right _ ha)) r)
end
/-- what may stand at an owned address -/
def Own : HO → Prop
  | .lst _ => True
  | .dK _ => True
  | .dT _ => True
  | .ins _ _ _ => True
  | _ => False
mutual
theorem Rp.there : ∀ {t : Ty} {d : D} {v : V} {f : List Addr}, Rp K mg H G t d v f → ∀ a ∈ f, ∃ o, H a = some o ∧ Own o
  | _, _, _, _, .sh _, _, h => nomatch h
  | _, _, _, _, .oL h r, a, ha => (List.mem_cons.mp ha).elim (fun z => by subst z; exact ⟨_, h, trivial⟩) (Rps.there r a)
  | _, _, _, _, .oK h n r, a, ha => (List.mem_cons.mp ha).elim (fun z => by subst z; exact ⟨_, h, trivial⟩) (Rps.there r a)
  | _, _, _, _, .oT h n r, a, ha => (List.mem_cons.mp ha).elim (fun z => by subst z; exact ⟨_, h, trivial⟩) (Rps.there r a)
  | _, _, _, _, .oO m h n r, a, ha => (List.mem_cons.mp ha).elim (fun z => by subst z; exact ⟨_, h, trivial⟩) (Rps.there r a)
theorem Rps.there : ∀ {ts : List Ty} {ds : List D} {vs : List V} {f : List Addr}, Rps K mg H G ts ds vs f → ∀ a ∈ f, ∃ o, H a = some o ∧ Own o
  | _, _, _, _, .nil, _, h => nomatch h
  | _, _, _, _, .cons h r, a, ha => (List.mem_append.mp ha).elim (Rp.there h a) (Rps.there r a)
end
theorem Rps.of_sh : ∀ {ds : List D} {vs : List V}, Rfs K mg G ds vs → Rps K mg H G (List.replicate ds.length .sh) ds vs []
  | _, _, .nil => .nil
  | _, _, .cons h r => by
    have q := Rps.cons (Rp.sh (K := K) (mg := mg) (H := H) h) (Rps.of_sh r)
    exact q
theorem Rps.to_sh : ∀ {n : Nat} {ds : List D} {vs : List V} {f : List Addr}, Rps K mg H G (List.replicate n .sh) ds vs f → Rfs K mg G ds vs ∧ f = []
  | 0, _, _, _, r => by cases r; exact ⟨.nil, rfl⟩
  | n + 1, _, _, _, r => by
    rw [List.replicate_succ] at r
    cases r with
    | cons h r =>
      cases h with
      | sh q =>
        obtain ⟨q2, e⟩ := Rps.to_sh r
        subst e
        exact ⟨.cons q q2, rfl⟩
end

/-! ### the slots -/
inductive Sl (K : PySem.W.Frag) (mg : Str → Option Value) (H G : Hp) : List Ty → List D → L2.St → List Addr → Prop
  | nil : Sl K mg H G [] [] [] []
  | no {d : D} {v : Option V} {ts : List Ty} {ds : List D} {vs : L2.St} {f : List Addr} : Sl K mg H G ts ds vs f → Sl K mg H G (.no :: ts) (d :: ds) (v :: vs) f
  | cons {t : Ty} {d : D} {v : V} {ts : List Ty} {ds : List D} {vs : L2.St} {f g : List Addr} : Rp K mg H G t d v f → Sl K mg H G ts ds vs g → Sl K mg H G (t :: ts) (d :: ds) (some v :: vs) (f ++ g)

section
variable {K : PySem.W.Frag} {mg : Str → Option Value} {H H' G G' : Hp}
theorem Sl.mono (e : Le G G') : ∀ {τ : List Ty} {ρ : List D} {σ : L2.St} {f : List Addr}, (∀ a ∈ f, H' a = H a) → Sl K mg H G τ ρ σ f → Sl K mg H' G' τ ρ σ f
  | _, _, _, _, _, .nil => .nil
  | _, _, _, _, k, .no r => .no (Sl.mono e k r)
  | _, _, _, _, k, .cons h r => .cons (h.mono e fun a ha => k a (List.mem_append_left _ ha)) (Sl.mono e (fun a ha => k a (List.mem_append_right _ ha)) r)
theorem Sl.there : ∀ {τ : List Ty} {ρ : List D} {σ : L2.St} {f : List Addr}, Sl K mg H G τ ρ σ f → ∀ a ∈ f, ∃ o, H a = some o ∧ Own o
  | _, _, _, _, .nil, _, h => nomatch h
  | _, _, _, _, .no r, a, ha => Sl.there r a ha
  | _, _, _, _, .cons h r, a, ha => (List.mem_append.mp ha).elim (h.there a) (Sl.there r a)
theorem Sl.len : ∀ {τ : List Ty} {ρ : List D} {σ : L2.St} {f : List Addr}, Sl K mg H G τ ρ σ f → τ.length = ρ.length ∧ σ.length = ρ.length
  | _, _, _, _, .nil => ⟨rfl, rfl⟩
  | _, _, _, _, .no r => by have := Sl.len r; simp [this.1, this.2]
  | _, _, _, _, .cons h r => by have := Sl.len r; simp [this.1, this.2]
/-- one slot taken out, something else put in, in another heap -/
theorem Sl.split : ∀ {τ : List Ty} {ρ : List D} {σ : L2.St} {f : List Addr} {i : Nat} {t : Ty}, Sl K mg H G τ ρ σ f → τ[i]? = some t →
    ∃ f1 fo f2, f = f1 ++ fo ++ f2 ∧ ((t = .no ∧ fo = []) ∨ ∃ v, σ[i]? = some (some v) ∧ Rp K mg H G t (ρ.getD i .non) v fo) ∧ i < ρ.length ∧
      (∀ {H' G' : Hp} {t' : Ty} {d' : D} {v' : V} {f' : List Addr}, (∀ a ∈ f1 ++ f2, H' a = H a) → Le G G' → Rp K mg H' G' t' d' v' f' → Sl K mg H' G' (τ.set i t') (ρ.set i d') (σ.set i (some v')) (f1 ++ f' ++ f2)) ∧
      (∀ {H' G' : Hp} {t' : Ty} {d' : D} {v' : V} {f' : List Addr}, (∀ a ∈ f1 ++ f2, H' a = H a) → Le G G' → σ[i]? = some (some v') → Rp K mg H' G' t' d' v' f' → Sl K mg H' G' (τ.set i t') (ρ.set i d') σ (f1 ++ f' ++ f2)) ∧
      (∀ {H' G' : Hp} {d' : D}, (∀ a ∈ f1 ++ f2, H' a = H a) → Le G G' → Sl K mg H' G' (τ.set i .no) (ρ.set i d') σ (f1 ++ f2))
  | _, _, _, _, _, _, .nil, e => by simp at e
  | _, _, _, _, 0, t, .no (d := d) (v := v) (f := f) r, e => by
    have e' : Ty.no = t := by simpa using e
    subst e'
    refine ⟨[], [], f, by simp, .inl ⟨rfl, rfl⟩, by simp, fun {H' G' t' d' v' f'} k le h => ?_, fun {H' G' t' d' v' f'} k le ev h => ?_, fun {H' G' d'} k le => ?_⟩
    · exact .cons h (r.mono le fun a ha => k a (by simpa using ha))
    · have : v = some v' := by simpa using ev
      subst this
      exact .cons h (r.mono le fun a ha => k a (by simpa using ha))
    · exact .no (r.mono le fun a ha => k a (by simpa using ha))
  | _, _, _, _, 0, t, .cons (t := t0) (d := d) (v := v) (f := f0) (g := g) h0 r, e => by
    have e' : t0 = t := by simpa using e
    subst e'
    refine ⟨[], f0, g, by simp, .inr ⟨v, rfl, by simpa using h0⟩, by simp, fun {H' G' t' d' v' f'} k le h => ?_, fun {H' G' t' d' v' f'} k le ev h => ?_, fun {H' G' d'} k le => ?_⟩
    · exact .cons h (r.mono le fun a ha => k a (by simpa using ha))
    · have : v = v' := by simpa using ev
      subst this
      exact .cons h (r.mono le fun a ha => k a (by simpa using ha))
    · exact .no (r.mono le fun a ha => k a (by simpa using ha))
  | _, _, _, _, i + 1, t, .no (d := d) (v := v) r, e => by
    obtain ⟨f1, fo, f2, ef, ho, hi, h1, h2, h3⟩ := Sl.split (i := i) r (by simpa using e)
    refine ⟨f1, fo, f2, ef, ?_, by simpa using hi, fun k le h => ?_, fun k le ev h => ?_, fun k le => ?_⟩
    · rcases ho with ho | ⟨v, e1, q⟩
      · exact .inl ho
      · exact .inr ⟨v, by simpa using e1, by simpa using q⟩
    · exact .no (h1 k le h)
    · exact .no (h2 k le (by simpa using ev) h)
    · exact .no (h3 k le)
  | _, _, _, _, i + 1, t, .cons (t := t0) (d := d) (v := v) (f := f0) (g := g) h0 r, e => by
    obtain ⟨f1, fo, f2, ef, ho, hi, h1, h2, h3⟩ := Sl.split (i := i) r (by simpa using e)
    refine ⟨f0 ++ f1, fo, f2, by rw [ef]; simp, ?_, by simpa using hi, fun {H' G' t' d' v' f'} k le h => ?_, fun {H' G' t' d' v' f'} k le ev h => ?_, fun {H' G' d'} k le => ?_⟩
    · rcases ho with ho | ⟨v, e1, q⟩
      · exact .inl ho
      · exact .inr ⟨v, by simpa using e1, by simpa using q⟩
    · have := Sl.cons (h0.mono le fun a ha => k a (by simp [ha])) (h1 (fun a ha => k a (by simp at ha ⊢; rcases ha with h | h <;> simp [h])) le h)
      simpa using this
    · have := Sl.cons (h0.mono le fun a ha => k a (by simp [ha])) (h2 (fun a ha => k a (by simp at ha ⊢; rcases ha with h | h <;> simp [h])) le (by simpa using ev) h)
      simpa using this
    · have := Sl.cons (h0.mono le fun a ha => k a (by simp [ha])) (h3 (fun a ha => k a (by simp at ha ⊢; rcases ha with h | h <;> simp [h])) le (d' := d'))
      simpa using this
end
end TL

namespace TL
open PySem PySem.Spec PyProof.Rows L2

abbrev Rho := List D
/-- a value, or the slot of an owned list that is read where it is used -/
inductive Hd where
  | v (d : D) | x (i : Nat)
def Hd.res (h : Hd) (ρ : Rho) : D := match h with
  | .v d => d
  | .x i => ρ.getD i .non
abbrev Ef := Rho → Option (Hd × Rho)
abbrev Of := Rho → Option (D × Rho)
abbrev Tf := Rho → Option (Bool × Rho)
abbrev Af := Rho → Option (List Hd × Rho)

def Grow (H H' : Hp) : Prop := ∀ a o, H a = some o → H' a = some o
theorem Grow.refl (H : Hp) : Grow H H := fun _ _ h => h
theorem Grow.trans {A B C : Hp} (h : Grow A B) (k : Grow B C) : Grow A C := fun a o e => k a o (h a o e)
theorem Grow.upd {H : Hp} {p : Addr} {o : HO} (h : H p = none) : Grow H (upd H p o) := fun a u e => by
  rw [upd_ne (ne_of_none e h)]; exact e
theorem Grow.free {H H' : Hp} (g : Grow H H') {p : Addr} (h : H' p = none) : H p = none := by
  cases e : H p with
  | none => rfl
  | some o => rw [g _ _ e] at h; cases h

structure Step (H H' : Hp) (fs fs' : List Addr) : Prop where
  ext : ∀ a o, a ∉ fs → H a = some o → H' a = some o
  sub : ∀ a ∈ fs', a ∈ fs ∨ H a = none
  ne : ∀ a o, H a = some o → ∃ o', H' a = some o'
theorem Step.refl (H : Hp) (fs : List Addr) : Step H H fs fs := ⟨fun _ _ _ h => h, fun _ h => .inl h, fun _ o h => ⟨o, h⟩⟩
theorem Step.grow {H H' : Hp} (g : Grow H H') (fs : List Addr) : Step H H' fs fs := ⟨fun a o _ h => g a o h, fun _ h => .inl h, fun a o h => ⟨o, g a o h⟩⟩
theorem Step.trans {A B C : Hp} {f g h : List Addr} (s : Step A B f g) (t : Step B C g h) : Step A C f h where
  ext := fun a o n e => by
    refine t.ext a o (fun z => ?_) (s.ext a o n e)
    rcases s.sub a z with q | q
    · exact n q
    · rw [q] at e; cases e
  sub := fun a ha => by
    rcases t.sub a ha with q | q
    · exact s.sub a q
    · cases e : A a with
      | none => exact .inr rfl
      | some o =>
        obtain ⟨o', e'⟩ := s.ne a o e
        rw [e'] at q; cases q
  ne := fun a o e => by
    obtain ⟨o', e'⟩ := s.ne a o e
    exact t.ne a o' e'
theorem Step.less {H H' : Hp} {f g h : List Addr} (s : Step H H' f g) (k : ∀ a ∈ h, a ∈ g) : Step H H' f h := ⟨s.ext, fun a ha => s.sub a (k a ha), s.ne⟩

/-- the state: R held elsewhere, the slots' owned parts at fs -/
structure SR (K : PySem.W.Frag) (mg : Str → Option Value) (R : List Addr) (τ : List Ty) (ρ : Rho) (σ : L2.St) (H : Hp) (fs : List Addr) : Prop where
  sl : Sl K mg H (hide (R ++ fs) H) τ ρ σ fs
  nd : (R ++ fs).Nodup
  al : ∀ a ∈ R, ∃ o, H a = some o ∧ Own o

section
variable {K : PySem.W.Frag} {mg : Str → Option Value} {R : List Addr} {τ : List Ty} {ρ : Rho} {σ : L2.St} {H H' : Hp} {fs fs' : List Addr}
theorem hide_grow (S : List Addr) (g : Grow H H') : Le (hide S H) (hide S H') := hide_mono fun a o n e => ⟨n, g a o e⟩
theorem SR.own (s : SR K mg R τ ρ σ H fs) : ∀ a ∈ R ++ fs, ∃ o, H a = some o ∧ Own o := fun a ha => (List.mem_append.mp ha).elim (s.al a) (s.sl.there a)
theorem SR.grow (s : SR K mg R τ ρ σ H fs) (g : Grow H H') : SR K mg R τ ρ σ H' fs := by
  refine ⟨s.sl.mono (hide_grow _ g) fun a ha => ?_, s.nd, fun a ha => ?_⟩
  · obtain ⟨o, e, _⟩ := s.sl.there a ha
    rw [e, g a o e]
  · obtain ⟨o, e, q⟩ := s.al a ha
    exact ⟨o, g a o e, q⟩
theorem SR.fresh (s : SR K mg R τ ρ σ H fs) {p : Addr} (h : H p = none) : p ∉ R ++ fs := fun hp => by
  obtain ⟨o, e, _⟩ := s.own p hp
  rw [e] at h; cases h
/-- frozen parts stay behind a step -/
theorem SR.le (s : SR K mg R τ ρ σ H fs) (t : Step H H' fs fs') : Le (hide (R ++ fs) H) (hide (R ++ fs') H') := hide_mono fun a o n e => by
  have n1 : a ∉ R := fun z => n (List.mem_append_left _ z)
  have n2 : a ∉ fs := fun z => n (List.mem_append_right _ z)
  refine ⟨fun z => ?_, t.ext a o n2 e⟩
  rcases List.mem_append.mp z with z | z
  · exact n1 z
  · rcases t.sub a z with q | q
    · exact n2 q
    · rw [q] at e; cases e
/-- a frozen tree, relative to a whole heap; flat owned lists and dicts seen from outside -/
inductive Rv (K : PySem.W.Frag) (mg : Str → Option Value) (S : List Addr) (H : Hp) : D → V → Prop
  | rf {d : D} {v : V} : Rf K mg (hide S H) d v → Rv K mg S H d v
  | lst {a : Addr} {vs : List V} {ds : List D} : H a = some (.lst vs) → Rfs K mg (hide S H) ds vs → Rv K mg S H (.lst ds) (.ref a)
  | dK {a : Addr} {kvs : List (Key × V)} {kds : List (D × D)} : H a = some (.dK kvs) → kds.map (·.1) = kvs.map (fun p => keyD p.1) → Rfs K mg (hide S H) (kds.map (·.2)) (kvs.map (·.2)) → Rv K mg S H (.dct kds) (.ref a)
  | dT {a : Addr} {kvs : List (List Key × V)} {kds : List (D × D)} : H a = some (.dT kvs) → kds.map (·.1) = kvs.map (fun p => keysD p.1) → Rfs K mg (hide S H) (kds.map (·.2)) (kvs.map (·.2)) → Rv K mg S H (.dct kds) (.ref a)
def flatT : Ty → Bool
  | .sh => true
  | .oL .sh => true
  | .oK .sh => true
  | .oT .sh => true
  | _ => false
theorem Rp.rv {S : List Addr} {t : Ty} {d : D} {v : V} {f : List Addr} (ft : flatT t = true) (r : Rp K mg H (hide S H) t d v f) : Rv K mg S H d v := by
  cases r with
  | sh q => exact .rf q
  | @oL t' a vs ds f e q =>
    cases t' <;> simp [flatT] at ft
    exact .lst e q.to_sh.1
  | @oK t' a kvs kds f e n q =>
    cases t' <;> simp [flatT] at ft
    have hl : kds.length = (kds.map (·.2)).length := by simp
    exact .dK e n q.to_sh.1
  | @oT t' a kvs kds f e n q =>
    cases t' <;> simp [flatT] at ft
    exact .dT e n q.to_sh.1
  | oO => simp [flatT] at ft
/-- what a handle is -/
def RH (K : PySem.W.Frag) (mg : Str → Option Value) (S : List Addr) (τ : List Ty) (σ : L2.St) (H : Hp) (h : Hd) (v : V) : Prop := match h with
  | .v d => Rf K mg (hide S H) d v
  | .x i => σ[i]? = some (some v) ∧ ∃ t, τ[i]? = some t ∧ flatT t = true
theorem SR.get (s : SR K mg R τ ρ σ H fs) {i : Nat} {t : Ty} (e : τ[i]? = some t) (n : t ≠ .no) : ∃ v f, σ[i]? = some (some v) ∧ Rp K mg H (hide (R ++ fs) H) t (ρ.getD i .non) v f ∧ ∀ a ∈ f, a ∈ fs := by
  obtain ⟨f1, fo, f2, ef, ho, _⟩ := s.sl.split e
  rcases ho with ⟨rfl, _⟩ | ⟨v, ev, q⟩
  · exact absurd rfl n
  · exact ⟨v, fo, ev, q, fun a ha => by rw [ef]; simp [ha]⟩
theorem SR.res (s : SR K mg R τ ρ σ H fs) {h : Hd} {v : V} (r : RH K mg (R ++ fs) τ σ H h v) : Rv K mg (R ++ fs) H (h.res ρ) v := by
  cases h with
  | v d => exact .rf r
  | x i =>
    obtain ⟨ev, t, et, ft⟩ := r
    obtain ⟨v', f, ev', q, _⟩ := s.get et (by intro z; rw [z] at ft; cases ft)
    rw [ev] at ev'; cases ev'
    exact q.rv ft
theorem SR.holdH (s : SR K mg R τ ρ σ H fs) (t : Step H H' fs fs') {h : Hd} {v : V} (r : RH K mg (R ++ fs) τ σ H h v) : RH K mg (R ++ fs') τ σ H' h v := by
  cases h with
  | v d => exact Rf.mono (s.le t) r
  | x i => exact r
inductive RHs (K : PySem.W.Frag) (mg : Str → Option Value) (S : List Addr) (τ : List Ty) (σ : L2.St) (H : Hp) : List Hd → List V → Prop
  | nil : RHs K mg S τ σ H [] []
  | cons {h : Hd} {v : V} {hs : List Hd} {vs : List V} : RH K mg S τ σ H h v → RHs K mg S τ σ H hs vs → RHs K mg S τ σ H (h :: hs) (v :: vs)
theorem RHs.vals : ∀ {hs : List Hd} {vs : List V} {S : List Addr} {ds : List D}, RHs K mg S τ σ H hs vs → hs = ds.map .v → Rfs K mg (hide S H) ds vs
  | _, _, _, [], .nil, _ => .nil
  | _, _, _, d :: ds, .nil, e => by simp at e
  | _, _, _, [], .cons _ _, e => by simp at e
  | _, _, _, d :: ds, .cons h r, e => by
    simp at e
    obtain ⟨rfl, e⟩ := e
    exact .cons h (RHs.vals r e)
end

/-! ### the judgements -/
def tD (X : Cx) (τ : List Ty) (f : Ef) : TE := fun σ H Q => ∃ R ρ fs h ρ', SR X.K X.mg R τ ρ σ H fs ∧ f ρ = some (h, ρ') ∧
  ∀ v H' fs', Step H H' fs fs' → SR X.K X.mg R τ ρ' σ H' fs' → RH X.K X.mg (R ++ fs') τ σ H' h v → Q v H'
def tO (X : Cx) (τ : List Ty) (f : Of) (t : Ty) : TE := fun σ H Q => ∃ R ρ fs d ρ', SR X.K X.mg R τ ρ σ H fs ∧ f ρ = some (d, ρ') ∧
  ∀ v H' fs' fv, Step H H' fs (fv ++ fs') → SR X.K X.mg (fv ++ R) τ ρ' σ H' fs' → Rp X.K X.mg H' (hide (fv ++ R ++ fs') H') t d v fv → Q v H'
def tT (X : Cx) (τ : List Ty) (f : Tf) : TT := fun σ H Q => ∃ R ρ fs b ρ', SR X.K X.mg R τ ρ σ H fs ∧ f ρ = some (b, ρ') ∧
  ∀ H' fs', Step H H' fs fs' → SR X.K X.mg R τ ρ' σ H' fs' → Q b H'
def tA (X : Cx) (τ : List Ty) (f : Af) : TA := fun σ H Q => ∃ R ρ fs hs ρ', SR X.K X.mg R τ ρ σ H fs ∧ f ρ = some (hs, ρ') ∧
  ∀ vs H' fs', Step H H' fs fs' → SR X.K X.mg R τ ρ' σ H' fs' → RHs X.K X.mg (R ++ fs') τ σ H' hs vs → Q vs H'
abbrev DE (X : Cx) (e : Expr) (τ : List Ty) (f : Ef) : Prop := PE X e (tD X τ f)
abbrev DO (X : Cx) (e : Expr) (τ : List Ty) (f : Of) (t : Ty) : Prop := PE X e (tO X τ f t)
abbrev DT (X : Cx) (e : Expr) (τ : List Ty) (f : Tf) : Prop := PT X e (tT X τ f)
abbrev DA (X : Cx) (es : List Expr) (τ : List Ty) (f : Af) : Prop := PA X es (tA X τ f)

theorem pe_imp {X : Cx} {e : Expr} {t t' : TE} (h : PE X e t) (k : ∀ σ H Q, t' σ H Q → t σ H Q) : PE X e t' := ⟨fun pins s σ H Q I q => h.run pins s σ H Q I (k σ H Q q)⟩
theorem pt_imp {X : Cx} {e : Expr} {t t' : TT} (h : PT X e t) (k : ∀ σ H Q, t' σ H Q → t σ H Q) : PT X e t' := ⟨fun pins s σ H Q I q => h.run pins s σ H Q I (k σ H Q q)⟩
theorem pw_imp {X : Cx} {e : Expr} {t t' : TT} (h : PW X e t) (k : ∀ σ H Q, t' σ H Q → t σ H Q) : PW X e t' := ⟨fun wh pins s σ H Q I q => h.run wh pins s σ H Q I (k σ H Q q)⟩
theorem pa_imp {X : Cx} {es : List Expr} {t t' : TA} (h : PA X es t) (k : ∀ σ H Q, t' σ H Q → t σ H Q) : PA X es t' := ⟨fun pos pins s σ H Q I q => h.run pos pins s σ H Q I (k σ H Q q)⟩

/-! ### names, constants -/
def eC (d : D) : Ef := fun ρ => some (.v d, ρ)
def eVar (i : Nat) : Ef := fun ρ => some (.v (ρ.getD i .non), ρ)
def eOwn (i : Nat) : Ef := fun ρ => some (.x i, ρ)
section
variable {X : Cx} {τ : List Ty} {a b c : Expr} {pos : Pos}
theorem de_C {e : Expr} {d : D} {v : V} (h : PE X e (tC v)) (r : ∀ G, Rf X.K X.mg G d v) : DE X e τ (eC d) := pe_imp h fun σ H Q ⟨R, ρ, fs, h, ρ', s, e, q⟩ => by
  cases e
  exact q v H fs (Step.refl H fs) s (r _)
theorem de_int {i j} : DE X (.Constant (.int i) j pos) τ (eC (.int i)) := de_C pe_int fun _ => .int _
theorem de_bl {i j} : DE X (.Constant (.bool i) j pos) τ (eC (.bl i)) := de_C pe_bl fun _ => .bl _
theorem de_non {j} : DE X (.Constant .none j pos) τ (eC .non) := de_C pe_non fun _ => .non
theorem de_str {i j} : DE X (.Constant (.str i) j pos) τ (eC (.str i)) := de_C pe_str fun _ => .str _
theorem de_var {e : Expr} (i : Nat) (h : PE X e (tVar i)) (ht : τ[i]? = some .sh := by rfl) : DE X e τ (eVar i) := pe_imp h fun σ H Q ⟨R, ρ, fs, h, ρ', s, e, q⟩ => by
  cases e
  obtain ⟨v, f, ev, r, _⟩ := s.get ht (by intro z; cases z)
  cases r with
  | sh r => exact ⟨v, ev, q v H fs (Step.refl H fs) s r⟩
theorem de_own {e : Expr} (i : Nat) {t : Ty} (h : PE X e (tVar i)) (ht : τ[i]? = some t := by rfl) (hf : flatT t = true := by rfl) : DE X e τ (eOwn i) := pe_imp h fun σ H Q ⟨R, ρ, fs, h, ρ', s, e, q⟩ => by
  cases e
  obtain ⟨v, f, ev, r, _⟩ := s.get ht (by intro z; rw [z] at hf; cases hf)
  exact ⟨v, ev, q v H fs (Step.refl H fs) s ⟨ev, t, ht, hf⟩⟩

/-! ### operators by values -/
/-- a rule r of HandS does what g says on trees; the result is frozen -/
def OpD (X : Cx) (r : R2) (g : D → D → Option D) : Prop := ∀ (S : List Addr) (H : Hp) (d1 d2 d : D) (v1 v2 : V) (Q : VK), (∀ a ∈ S, ∃ o, H a = some o ∧ Own o) → Rv X.K X.mg S H d1 v1 → Rv X.K X.mg S H d2 v2 → g d1 d2 = some d →
  (∀ v H', Grow H H' → Rf X.K X.mg (hide S H') d v → Q v H') → r v1 v2 H Q
/-- .. the result is a new list -/
def OpO (X : Cx) (r : R2) (g : D → D → Option (List D)) : Prop := ∀ (S : List Addr) (H : Hp) (d1 d2 : D) (ds : List D) (v1 v2 : V) (Q : VK), (∀ a ∈ S, ∃ o, H a = some o ∧ Own o) → Rv X.K X.mg S H d1 v1 → Rv X.K X.mg S H d2 v2 → g d1 d2 = some ds →
  (∀ p vs, H p = none → Rfs X.K X.mg (hide S H) ds vs → Q (.ref p) (upd H p (.lst vs))) → r v1 v2 H Q
def orG {α β γ : Type} (g g' : α → β → Option γ) : α → β → Option γ := fun a b => (g a b).or (g' a b)
theorem OpD.or {r r' : R2} {g g' : D → D → Option D} (h : OpD X r g) (h' : OpD X r' g') : OpD X (fun x y H Q => r x y H Q ∨ r' x y H Q) (orG g g') := fun S H d1 d2 d v1 v2 Q al r1 r2 e q => by
  unfold orG at e
  cases e1 : g d1 d2 with
  | some z =>
    rw [e1] at e
    exact .inl (h S H d1 d2 d v1 v2 Q al r1 r2 (by rw [e1]; exact e) q)
  | none =>
    rw [e1] at e
    exact .inr (h' S H d1 d2 d v1 v2 Q al r1 r2 (by simpa using e) q)
def eBin (g : D → D → Option D) (f1 f2 : Ef) : Ef := fun ρ => (f1 ρ).bind fun p => (f2 p.2).bind fun q => (g (p.1.res q.2) (q.1.res q.2)).bind fun d => some (.v d, q.2)
def eBinO (g : D → D → Option (List D)) (f1 f2 : Ef) : Of := fun ρ => (f1 ρ).bind fun p => (f2 p.2).bind fun q => (g (p.1.res q.2) (q.1.res q.2)).bind fun d => some (.lst d, q.2)
/-- two operands, one after the other -/
theorem two {f1 f2 : Ef} {R : List Addr} {ρ : Rho} {σ : L2.St} {H : Hp} {fs : List Addr} {p q : Hd × Rho} {k : V → V → Hp → Prop} (s : SR X.K X.mg R τ ρ σ H fs) (e1 : f1 ρ = some p) (e2 : f2 p.2 = some q)
    (h : ∀ v1 v2 H' fs', Step H H' fs fs' → SR X.K X.mg R τ q.2 σ H' fs' → RH X.K X.mg (R ++ fs') τ σ H' p.1 v1 → RH X.K X.mg (R ++ fs') τ σ H' q.1 v2 → k v1 v2 H') :
    tD X τ f1 σ H fun x H1 => tD X τ f2 σ H1 fun y H2 => k x y H2 :=
  ⟨R, ρ, fs, p.1, p.2, s, e1, fun v1 H1 fs1 t1 s1 r1 => ⟨R, p.2, fs1, q.1, q.2, s1, e2, fun v2 H2 fs2 t2 s2 r2 => h v1 v2 H2 fs2 (t1.trans t2) s2 (s1.holdH t2 r1) r2⟩⟩
theorem eBin_inv {g : D → D → Option D} {f1 f2 : Ef} {ρ : Rho} {r : Hd × Rho} (e : eBin g f1 f2 ρ = some r) : ∃ p q d, f1 ρ = some p ∧ f2 p.2 = some q ∧ g (p.1.res q.2) (q.1.res q.2) = some d ∧ r = (.v d, q.2) := by
  unfold eBin at e
  cases h1 : f1 ρ with
  | none => rw [h1] at e; cases e
  | some p =>
    rw [h1] at e
    cases h2 : f2 p.2 with
    | none => simp [h2] at e
    | some q =>
      simp only [Option.bind_some, h2] at e
      cases h3 : g (p.1.res q.2) (q.1.res q.2) with
      | none => simp [h3] at e
      | some d =>
        simp only [h3, Option.bind_some, Option.some.injEq] at e
        exact ⟨p, q, d, rfl, h2, h3, e.symm⟩
theorem eBinO_inv {g : D → D → Option (List D)} {f1 f2 : Ef} {ρ : Rho} {r : D × Rho} (e : eBinO g f1 f2 ρ = some r) : ∃ p q d, f1 ρ = some p ∧ f2 p.2 = some q ∧ g (p.1.res q.2) (q.1.res q.2) = some d ∧ r = (.lst d, q.2) := by
  unfold eBinO at e
  cases h1 : f1 ρ with
  | none => rw [h1] at e; cases e
  | some p =>
    rw [h1] at e
    cases h2 : f2 p.2 with
    | none => simp [h2] at e
    | some q =>
      simp only [Option.bind_some, h2] at e
      cases h3 : g (p.1.res q.2) (q.1.res q.2) with
      | none => simp [h3] at e
      | some d =>
        simp only [h3, Option.bind_some, Option.some.injEq] at e
        exact ⟨p, q, d, rfl, h2, h3, e.symm⟩
/-- the reading of a two-place operation -/
theorem tOp_of {r : R2} {g : D → D → Option D} {f1 f2 : Ef} (o : OpD X r g) : ∀ σ H Q, tD X τ (eBin g f1 f2) σ H Q → tOp r (tD X τ f1) (tD X τ f2) σ H Q := fun σ H Q ⟨R, ρ, fs, h, ρ', s, e, k⟩ => by
  obtain ⟨p, q, d, e1, e2, e3, er⟩ := eBin_inv e
  cases er
  refine two s e1 e2 fun v1 v2 H' fs' t s' r1 r2 => ?_
  refine o (R ++ fs') H' _ _ _ v1 v2 Q s'.own (s'.res r1) (s'.res r2) e3 fun v H2 g2 rf => ?_
  exact k v H2 fs' (t.trans (Step.grow g2 _)) (s'.grow g2) rf
theorem de_bin {op : Operator} {r : R2} {g : D → D → Option D} {f1 f2 : Ef} (ho : OpR X (binaryOp op) r) (o : OpD X r g) (ha : DE X a τ f1) (hb : DE X b τ f2) : DE X (.BinOp a op b pos) τ (eBin g f1 f2) := pe_imp (pe_op ho ha hb) (tOp_of o)
theorem de_cmp {op : CmpOp} {r : R2} {g : D → D → Option D} {f1 f2 : Ef} (ho : OpR X (compareOp op) r) (o : OpD X r g) (ha : DE X a τ f1) (hb : DE X b τ f2) (hm : behindInMarks op b = false) : DE X (.Compare a [op] [b] pos) τ (eBin g f1 f2) := pe_imp (pe_cmpR ho ha hb hm) (tOp_of o)
theorem de_ix {r : R2} {g : D → D → Option D} {f1 f2 : Ef} (hr : IxR X r) (o : OpD X r g) (ha : DE X a τ f1) (hb : DE X b τ f2) (hs : PlainIx b) : DE X (.Subscript a b pos) τ (eBin g f1 f2) := pe_imp (pe_ix hr ha hb hs) (tOp_of o)
theorem hide_upd {S : List Addr} {H : Hp} {p : Addr} {o : HO} (h : H p = none) : Le (hide S H) (hide (p :: S) (upd H p o)) := hide_mono fun a u n e => by
  have ne : a ≠ p := ne_of_none e h
  exact ⟨by simp [ne, n], by rw [upd_ne ne]; exact e⟩
theorem hide_upd' {S S' : List Addr} {H : Hp} {p : Addr} {o : HO} (h : H p = none) (k : ∀ a, a ∈ S' → a = p ∨ a ∈ S) : Le (hide S H) (hide S' (upd H p o)) := hide_mono fun a u n e => by
  have ne : a ≠ p := ne_of_none e h
  exact ⟨fun z => (k a z).elim ne n, by rw [upd_ne ne]; exact e⟩
/-- a new list at p: owned by the value -/
theorem SR.newL {R : List Addr} {ρ : Rho} {σ : L2.St} {H : Hp} {fs : List Addr} {p : Addr} {vs : List V} {ds : List D} (s : SR X.K X.mg R τ ρ σ H fs) (hp : H p = none) (r : Rfs X.K X.mg (hide (R ++ fs) H) ds vs) :
    SR X.K X.mg ([p] ++ R) τ ρ σ (upd H p (.lst vs)) fs ∧ Rp X.K X.mg (upd H p (.lst vs)) (hide ([p] ++ R ++ fs) (upd H p (.lst vs))) (.oL .sh) (.lst ds) (.ref p) [p] ∧ Step H (upd H p (.lst vs)) fs ([p] ++ fs) := by
  have hf := s.fresh hp
  have le : Le (hide (R ++ fs) H) (hide ([p] ++ R ++ fs) (upd H p (.lst vs))) := hide_upd' hp fun a z => by simpa using z
  have np : ∀ a ∈ R ++ fs, a ≠ p := fun a ha e => hf (e ▸ ha)
  refine ⟨⟨s.sl.mono le fun a ha => upd_ne (np a (List.mem_append_right _ ha)), ?_, fun a ha => ?_⟩, ?_, ⟨fun a o _ e => ?_, fun a ha => ?_, fun a o e => ?_⟩⟩
  · have := s.nd
    simpa [hf] using this
  · rcases List.mem_append.mp ha with ha | ha
    · have e : a = p := by simpa using ha
      exact ⟨.lst vs, by rw [e, upd_same], trivial⟩
    · obtain ⟨o, e, w⟩ := s.al a ha
      exact ⟨o, by rw [upd_ne (np a (List.mem_append_left _ ha))]; exact e, w⟩
  · exact Rp.oL upd_same (Rps.of_sh (r.mono le))
  · rw [upd_ne (ne_of_none e hp)]; exact e
  · rcases List.mem_append.mp ha with ha | ha
    · have e : a = p := by simpa using ha
      exact .inr (e ▸ hp)
    · exact .inl ha
  · exact ⟨o, by rw [upd_ne (ne_of_none e hp)]; exact e⟩
theorem tOpO_of {r : R2} {g : D → D → Option (List D)} {f1 f2 : Ef} (o : OpO X r g) : ∀ σ H Q, tO X τ (eBinO g f1 f2) (.oL .sh) σ H Q → tOp r (tD X τ f1) (tD X τ f2) σ H Q := fun σ H Q ⟨R, ρ, fs, h, ρ', s, e, k⟩ => by
  obtain ⟨p, q, d, e1, e2, e3, er⟩ := eBinO_inv e
  cases er
  refine two s e1 e2 fun v1 v2 H' fs' t s' r1 r2 => ?_
  refine o (R ++ fs') H' _ _ _ v1 v2 Q s'.own (s'.res r1) (s'.res r2) e3 fun a vs ha rf => ?_
  obtain ⟨n1, n2, n3⟩ := s'.newL ha rf
  exact k _ _ fs' [a] (t.trans n3) n1 n2
theorem do_bin {op : Operator} {r : R2} {g : D → D → Option (List D)} {f1 f2 : Ef} (ho : OpR X (binaryOp op) r) (o : OpO X r g) (ha : DE X a τ f1) (hb : DE X b τ f2) : DO X (.BinOp a op b pos) τ (eBinO g f1 f2) (.oL .sh) := pe_imp (pe_op ho ha hb) (tOpO_of o)

/-! ### an owned result given away -/
def eF (f : Of) : Ef := fun ρ => (f ρ).bind fun p => some (.v p.1, p.2)
theorem SR.drop {K : PySem.W.Frag} {mg : Str → Option Value} {fv R : List Addr} {ρ : Rho} {σ : L2.St} {H : Hp} {fs : List Addr} (s : SR K mg (fv ++ R) τ ρ σ H fs) : SR K mg R τ ρ σ H fs := by
  refine ⟨s.sl.mono (hide_mono fun a o n e => ⟨fun z => n ?_, e⟩) fun _ _ => rfl, ?_, fun a ha => s.al a (List.mem_append_right _ ha)⟩
  · rw [List.append_assoc]; exact List.mem_append_right _ z
  · have := s.nd
    rw [List.append_assoc] at this
    exact (List.nodup_append.mp this).2.1
theorem Rp.give {K : PySem.W.Frag} {mg : Str → Option Value} {fv R : List Addr} {ρ : Rho} {σ : L2.St} {H : Hp} {fs : List Addr} {t : Ty} {d : D} {v : V} (s : SR K mg (fv ++ R) τ ρ σ H fs) (r : Rp K mg H (hide (fv ++ R ++ fs) H) t d v fv) : Rf K mg (hide (R ++ fs) H) d v := by
  refine r.frz (hide_mono fun a o n e => ⟨fun z => n ?_, e⟩) fun a ha o e => hide_some.mpr ⟨fun z => ?_, e⟩
  · rw [List.append_assoc]; exact List.mem_append_right _ z
  · have := s.nd
    rw [List.append_assoc] at this
    exact (List.nodup_append.mp this).2.2 a ha a z rfl
theorem de_F {e : Expr} {f : Of} {t : Ty} (h : DO X e τ f t) : DE X e τ (eF f) := pe_imp h fun σ H Q ⟨R, ρ, fs, hd, ρ', s, e, k⟩ => by
  unfold eF at e
  cases h1 : f ρ with
  | none => rw [h1] at e; cases e
  | some p =>
    rw [h1] at e
    cases e
    exact ⟨R, ρ, fs, p.1, p.2, s, h1, fun v H' fs' fv t s' r => k v H' fs' (t.less fun a ha => List.mem_append_right _ ha) s'.drop (r.give s')⟩
end
end TL

namespace TL
open PySem PySem.Spec PyProof.Rows L2

def okLen (n : Nat) : Bool := Nat.ble n 16777216
theorem okLen_le {n : Nat} (h : okLen n = true) : n ≤ sizeLine := Nat.le_of_ble_eq_true h

section
variable {K : PySem.W.Frag} {mg : Str → Option Value} {S : List Addr} {H : Hp}
/-! ### what a seen tree is -/
theorem Rv.int_inv {i : Int} {v : V} (r : Rv K mg S H (.int i) v) : v = .int i := by
  cases r with
  | rf r => cases r; rfl
theorem Rv.bl_inv {i : Bool} {v : V} (r : Rv K mg S H (.bl i) v) : v = .bl i := by
  cases r with
  | rf r => cases r; rfl
theorem Rv.non_inv {v : V} (r : Rv K mg S H .non v) : v = .non := by
  cases r with
  | rf r => cases r; rfl
theorem Rv.str_inv {i : Str} {v : V} (r : Rv K mg S H (.str i) v) : v = .str i := by
  cases r with
  | rf r => cases r; rfl
theorem Rv.lst_inv {ds : List D} {v : V} (r : Rv K mg S H (.lst ds) v) : ∃ a vs, v = .ref a ∧ H a = some (.lst vs) ∧ Rfs K mg (hide S H) ds vs := by
  cases r with
  | rf r =>
    cases r with
    | lst h r => exact ⟨_, _, rfl, hide_le _ _ _ _ h, r⟩
  | lst h r => exact ⟨_, _, rfl, h, r⟩
theorem Rv.tup_inv {ds : List D} {v : V} (r : Rv K mg S H (.tup ds) v) : ∃ a vs, v = .ref a ∧ SqT K H a vs ∧ SqT K (hide S H) a vs ∧ Rfs K mg (hide S H) ds vs := by
  cases r with
  | rf r =>
    cases r with
    | tup h r => exact ⟨_, _, rfl, (hide_le _ _).seqT h, h, r⟩
theorem ifSome' {α : Type} {c : Bool} {x r : α} (e : (if c then some x else none) = some r) : c = true ∧ x = r := by
  cases c with
  | true => exact ⟨rfl, by simpa using e⟩
  | false => cases e
def truthD : D → Option Bool
  | .non => some false
  | .bl b => some b
  | .int i => some (i != 0)
  | .str s => if okLen s.length then some ((s.length : Int) != 0) else none
  | .tup l => some (!l.isEmpty)
  | .lst l => some (!l.isEmpty)
  | _ => none
theorem Rfs.isEmpty {G : Hp} {ds : List D} {vs : List V} (r : Rfs K mg G ds vs) : ds.isEmpty = vs.isEmpty := by
  cases r <;> rfl
theorem Rv.tru {d : D} {v : V} {k : Bool} (r : Rv K mg S H d v) (e : truthD d = some k) : TruV K v H k := by
  cases d with
  | non => rw [r.non_inv]; cases e; rfl
  | bl b => rw [r.bl_inv]; cases e; rfl
  | int i => rw [r.int_inv]; cases e; rfl
  | str s =>
    rw [r.str_inv]
    obtain ⟨h, e⟩ := ifSome' e
    subst e
    exact ⟨okLen_le h, rfl⟩
  | tup l =>
    obtain ⟨a, vs, rfl, h, _, q⟩ := r.tup_inv
    cases e
    exact .inr (.inl ⟨vs, h, by rw [q.isEmpty]⟩)
  | lst l =>
    obtain ⟨a, vs, rfl, h, q⟩ := r.lst_inv
    cases e
    exact .inl ⟨vs, .of h, by rw [q.isEmpty]⟩
  | dct l => cases e
  | set l => cases e
  | obj c l => cases e
  | scr l => cases e
end

section
variable {X : Cx} {τ : List Ty} {a b c e : Expr} {es : List Expr} {pos : Pos}
/-! ### tests -/
def tB (f : Ef) : Tf := fun ρ => (f ρ).bind fun p => (truthD (p.1.res p.2)).bind fun k => some (k, p.2)
theorem tB_inv {f : Ef} {ρ : Rho} {r : Bool × Rho} (e : tB f ρ = some r) : ∃ p k, f ρ = some p ∧ truthD (p.1.res p.2) = some k ∧ r = (k, p.2) := by
  unfold tB at e
  cases h1 : f ρ with
  | none => rw [h1] at e; cases e
  | some p =>
    rw [h1] at e
    simp only [Option.bind_some] at e
    cases h2 : truthD (p.1.res p.2) with
    | none => rw [h2] at e; cases e
    | some k => rw [h2] at e; cases e; exact ⟨p, k, rfl, h2, rfl⟩
theorem dt_truth {f : Ef} (h : DE X e τ f) (he : ∀ whole, isTrue e X.env whole = (do let v ← whole; standAt e.pos; holding [v] (truthy v)) := by intro _; rfl) : DT X e τ (tB f) := pt_imp (pt_truth h he) fun σ H Q ⟨R, ρ, fs, b, ρ', s, e, k⟩ => by
  obtain ⟨p, kk, e1, e2, er⟩ := tB_inv e
  cases er
  exact ⟨R, ρ, fs, p.1, p.2, s, e1, fun v H' fs' t s' r => ⟨_, (s'.res r).tru e2, k H' fs' t s'⟩⟩
/-- a comparison as a test -/
def tBl (f : Ef) : Tf := fun ρ => (f ρ).bind fun p => match p.1 with
  | .v (.bl k) => some (k, p.2)
  | _ => none
theorem tBl_inv {f : Ef} {ρ : Rho} {r : Bool × Rho} (e : tBl f ρ = some r) : ∃ k ρ', f ρ = some (.v (.bl k), ρ') ∧ r = (k, ρ') := by
  unfold tBl at e
  cases h1 : f ρ with
  | none => rw [h1] at e; cases e
  | some p =>
    rw [h1] at e
    obtain ⟨p1, p2⟩ := p
    cases p1 with
    | x i => cases e
    | v d => cases d <;> first | (cases e; done) | (cases e; exact ⟨_, _, rfl, rfl⟩)
theorem tTest_of {t : TE} {f : Ef} (h : ∀ σ H Q, tD X τ f σ H Q → t σ H Q) : ∀ σ H Q, tT X τ (tBl f) σ H Q → tTest t σ H Q := fun σ H Q ⟨R, ρ, fs, b, ρ', s, e, k⟩ => by
  obtain ⟨k1, ρ1, e1, er⟩ := tBl_inv e
  cases er
  refine h σ H _ ⟨R, ρ, fs, _, _, s, e1, fun v H' fs' t s' r => ?_⟩
  cases r
  exact ⟨_, rfl, k H' fs' t s'⟩
theorem dt_cmp {op : CmpOp} {r : R2} {g : D → D → Option D} {f1 f2 : Ef} (ho : OpR X (compareOp op) r) (o : OpD X r g) (ha : DE X a τ f1) (hb : DE X b τ f2) (hm : behindInMarks op b = false) : DT X (.Compare a [op] [b] pos) τ (tBl (eBin g f1 f2)) :=
  pt_imp (pt_cmpR ho ha hb hm) (tTest_of (tOp_of o))
/-! a op1 b op2 c -/
def eChain (g g' : D → D → Option D) (f1 f2 f3 : Ef) : Ef := fun ρ => (f1 ρ).bind fun p => (f2 p.2).bind fun q => (g (p.1.res q.2) (q.1.res q.2)).bind fun d => match d with
  | .bl true => (f3 q.2).bind fun r => (g' (q.1.res r.2) (r.1.res r.2)).bind fun d' => some (.v d', r.2)
  | .bl false => some (.v (.bl false), q.2)
  | _ => none
theorem tChain_of {r r' : R2} {g g' : D → D → Option D} {f1 f2 f3 : Ef} (o : OpD X r g) (o' : OpD X r' g') : ∀ σ H Q, tD X τ (eChain g g' f1 f2 f3) σ H Q → tChain r r' (tD X τ f1) (tD X τ f2) (tD X τ f3) σ H Q := fun σ H Q ⟨R, ρ, fs, h, ρ', s, e, k⟩ => by
  unfold eChain at e
  cases h1 : f1 ρ with
  | none => rw [h1] at e; cases e
  | some p =>
    rw [h1] at e
    simp only [Option.bind_some] at e
    cases h2 : f2 p.2 with
    | none => rw [h2] at e; cases e
    | some q =>
      rw [h2] at e
      simp only [Option.bind_some] at e
      cases h3 : g (p.1.res q.2) (q.1.res q.2) with
      | none => rw [h3] at e; cases e
      | some d =>
        rw [h3] at e
        simp only [Option.bind_some] at e
        refine two s h1 h2 fun v1 v2 H' fs' t s' r1 r2 => ?_
        refine o (R ++ fs') H' _ _ _ v1 v2 _ s'.own (s'.res r1) (s'.res r2) h3 fun v H2 g2 rf => ?_
        cases d with
        | bl kk =>
          cases rf
          cases kk with
          | false =>
            cases e
            exact ⟨false, rfl, iteF (k _ H2 fs' (t.trans (Step.grow g2 _)) (s'.grow g2) (.bl _))⟩
          | true =>
            simp only at e
            cases h4 : f3 q.2 with
            | none => rw [h4] at e; cases e
            | some w =>
              rw [h4] at e
              simp only [Option.bind_some] at e
              cases h5 : g' (q.1.res w.2) (w.1.res w.2) with
              | none => rw [h5] at e; cases e
              | some d' =>
                rw [h5] at e
                cases e
                refine ⟨true, rfl, iteT ⟨R, q.2, fs', w.1, w.2, s'.grow g2, h4, fun v3 H3 fs3 t3 s3 r3 => ?_⟩⟩
                have r2' := s3.res ((s'.grow g2).holdH t3 (s'.holdH (Step.grow g2 fs') r2))
                refine o' (R ++ fs3) H3 _ _ _ v2 v3 Q s3.own r2' (s3.res r3) h5 fun v4 H4 g4 rf4 => ?_
                exact k v4 H4 fs3 ((t.trans (Step.grow g2 _)).trans (t3.trans (Step.grow g4 _))) (s3.grow g4) rf4
        | _ => cases e
theorem de_chain {op op' : CmpOp} {r r' : R2} {g g' : D → D → Option D} {f1 f2 f3 : Ef} (ho : OpR X (compareOp op) r) (o : OpD X r g) (ho' : OpR X (compareOp op') r') (o' : OpD X r' g') (ha : DE X a τ f1) (hb : DE X b τ f2) (hc : DE X c τ f3)
    (hm : lastMarks [op, op'] [b, c] = false := by with_unfolding_all rfl) : DE X (.Compare a [op, op'] [b, c] pos) τ (eChain g g' f1 f2 f3) := pe_imp (pe_chain ho ho' ha hb hc hm) (tChain_of o o')
theorem dt_chain {op op' : CmpOp} {r r' : R2} {g g' : D → D → Option D} {f1 f2 f3 : Ef} (ho : OpR X (compareOp op) r) (o : OpD X r g) (ho' : OpR X (compareOp op') r') (o' : OpD X r' g') (ha : DE X a τ f1) (hb : DE X b τ f2) (hc : DE X c τ f3)
    (hm : lastMarks [op, op'] [b, c] = false := by with_unfolding_all rfl) : DT X (.Compare a [op, op'] [b, c] pos) τ (tBl (eChain g g' f1 f2 f3)) := pt_imp (pt_chain ho ho' ha hb hc hm) (tTest_of (tChain_of o o'))

/-! ### and, or, not as tests -/
def tAnd' (f g : Tf) : Tf := fun ρ => (f ρ).bind fun p => if p.1 then g p.2 else some (false, p.2)
def tOr' (f g : Tf) : Tf := fun ρ => (f ρ).bind fun p => if p.1 then some (true, p.2) else g p.2
def tNot' (f : Tf) : Tf := fun ρ => (f ρ).bind fun p => some (!p.1, p.2)
abbrev DW (X : Cx) (e : Expr) (τ : List Ty) (f : Tf) : Prop := PW X e (tT X τ f)
theorem dw_and1 {f : Tf} (h : DT X a τ f) : DW X (.BoolOp .And [a] pos) τ f := pw_and1 h
theorem dw_or1 {f : Tf} (h : DT X a τ f) : DW X (.BoolOp .Or [a] pos) τ f := pw_or1 h
theorem bindT {f : Tf} {ρ : Rho} {β : Type} {k : Bool × Rho → Option β} {r : β} (e : (f ρ).bind k = some r) : ∃ p, f ρ = some p ∧ k p = some r := by
  cases h : f ρ with
  | none => rw [h] at e; cases e
  | some p => rw [h] at e; exact ⟨p, rfl, e⟩
theorem bindO {α β : Type} {x : Option α} {k : α → Option β} {r : β} (e : x.bind k = some r) : ∃ p, x = some p ∧ k p = some r := by
  cases h : x with
  | none => rw [h] at e; cases e
  | some p => rw [h] at e; exact ⟨p, rfl, e⟩
theorem dw_and {f g : Tf} {rest : List Expr} (ha : DT X a τ f) (hb : DW X (.BoolOp .And (b :: rest) pos) τ g) : DW X (.BoolOp .And (a :: b :: rest) pos) τ (tAnd' f g) := pw_imp (pw_and ha hb) fun σ H Q ⟨R, ρ, fs, k, ρ', s, e, q⟩ => by
  obtain ⟨p, e1, e2⟩ := bindO e
  refine ⟨R, ρ, fs, p.1, p.2, s, e1, fun H' fs' t s' => ?_⟩
  cases hp : p.1 with
  | true =>
    rw [hp] at e2
    exact iteT ⟨R, p.2, fs', k, ρ', s', e2, fun H2 fs2 t2 s2 => q H2 fs2 (t.trans t2) s2⟩
  | false =>
    rw [hp] at e2
    cases e2
    exact iteF (q H' fs' t s')
theorem dw_or {f g : Tf} {rest : List Expr} (ha : DT X a τ f) (hb : DW X (.BoolOp .Or (b :: rest) pos) τ g) : DW X (.BoolOp .Or (a :: b :: rest) pos) τ (tOr' f g) := pw_imp (pw_or ha hb) fun σ H Q ⟨R, ρ, fs, k, ρ', s, e, q⟩ => by
  obtain ⟨p, e1, e2⟩ := bindO e
  refine ⟨R, ρ, fs, p.1, p.2, s, e1, fun H' fs' t s' => ?_⟩
  cases hp : p.1 with
  | false =>
    rw [hp] at e2
    exact iteF ⟨R, p.2, fs', k, ρ', s', e2, fun H2 fs2 t2 s2 => q H2 fs2 (t.trans t2) s2⟩
  | true =>
    rw [hp] at e2
    cases e2
    exact iteT (q H' fs' t s')
theorem dt_w {f : Tf} (h : DW X e τ f) : DT X e τ f := h.pt
theorem dt_not {f : Tf} (h : DT X a τ f) : DT X (.UnaryOp .Not a pos) τ (tNot' f) := pt_imp (pt_not h) fun σ H Q ⟨R, ρ, fs, k, ρ', s, e, q⟩ => by
  obtain ⟨p, e1, e2⟩ := bindO e
  cases e2
  exact ⟨R, ρ, fs, p.1, p.2, s, e1, fun H' fs' t s' => q H' fs' t s'⟩
/-! ### and, or, not, if as values -/
def eAnd (f g : Ef) : Ef := fun ρ => (f ρ).bind fun p => (truthD (p.1.res p.2)).bind fun k => if k then g p.2 else some p
def eOr (f g : Ef) : Ef := fun ρ => (f ρ).bind fun p => (truthD (p.1.res p.2)).bind fun k => if k then some p else g p.2
def eNot (f : Ef) : Ef := fun ρ => (f ρ).bind fun p => (truthD (p.1.res p.2)).bind fun k => some (.v (.bl (!k)), p.2)
def eIf (t : Tf) (f g : Ef) : Ef := fun ρ => (t ρ).bind fun p => if p.1 then f p.2 else g p.2
theorem de_one {op} {f : Ef} (h : DE X a τ f) : DE X (.BoolOp op [a] pos) τ f := pe_one h
theorem de_and {f g : Ef} {rest : List Expr} (ha : DE X a τ f) (hb : DE X (.BoolOp .And (b :: rest) pos) τ g) : DE X (.BoolOp .And (a :: b :: rest) pos) τ (eAnd f g) := pe_imp (pe_andT ha hb) fun σ H Q ⟨R, ρ, fs, h, ρ', s, e, q⟩ => by
  obtain ⟨p, e1, e2⟩ := bindO e
  obtain ⟨k, e3, e4⟩ := bindO e2
  refine ⟨R, ρ, fs, p.1, p.2, s, e1, fun v H' fs' t s' r => ⟨k, (s'.res r).tru e3, ?_⟩⟩
  cases k with
  | true => exact iteT ⟨R, p.2, fs', h, ρ', s', e4, fun v H2 fs2 t2 s2 r2 => q v H2 fs2 (t.trans t2) s2 r2⟩
  | false => cases e4; exact iteF (q v H' fs' t s' r)
theorem de_or {f g : Ef} {rest : List Expr} (ha : DE X a τ f) (hb : DE X (.BoolOp .Or (b :: rest) pos) τ g) : DE X (.BoolOp .Or (a :: b :: rest) pos) τ (eOr f g) := pe_imp (pe_orT ha hb) fun σ H Q ⟨R, ρ, fs, h, ρ', s, e, q⟩ => by
  obtain ⟨p, e1, e2⟩ := bindO e
  obtain ⟨k, e3, e4⟩ := bindO e2
  refine ⟨R, ρ, fs, p.1, p.2, s, e1, fun v H' fs' t s' r => ⟨k, (s'.res r).tru e3, ?_⟩⟩
  cases k with
  | false => exact iteF ⟨R, p.2, fs', h, ρ', s', e4, fun v H2 fs2 t2 s2 r2 => q v H2 fs2 (t.trans t2) s2 r2⟩
  | true => cases e4; exact iteT (q v H' fs' t s' r)
theorem de_not {f : Ef} (ha : DE X a τ f) : DE X (.UnaryOp .Not a pos) τ (eNot f) := pe_imp (pe_notT ha) fun σ H Q ⟨R, ρ, fs, h, ρ', s, e, q⟩ => by
  obtain ⟨p, e1, e2⟩ := bindO e
  obtain ⟨k, e3, e4⟩ := bindO e2
  cases e4
  exact ⟨R, ρ, fs, p.1, p.2, s, e1, fun v H' fs' t s' r => ⟨k, (s'.res r).tru e3, q _ H' fs' t s' (.bl _)⟩⟩
theorem de_if {t : Tf} {f g : Ef} (hc : DT X c τ t) (ha : DE X a τ f) (hb : DE X b τ g) : DE X (.IfExp c a b pos) τ (eIf t f g) := pe_imp (pe_ifExp hc ha hb) fun σ H Q ⟨R, ρ, fs, h, ρ', s, e, q⟩ => by
  obtain ⟨p, e1, e2⟩ := bindO e
  refine ⟨R, ρ, fs, p.1, p.2, s, e1, fun H' fs' t s' => ?_⟩
  cases hp : p.1 with
  | true => rw [hp] at e2; exact iteT ⟨R, p.2, fs', h, ρ', s', e2, fun v H2 fs2 t2 s2 r2 => q v H2 fs2 (t.trans t2) s2 r2⟩
  | false => rw [hp] at e2; exact iteF ⟨R, p.2, fs', h, ρ', s', e2, fun v H2 fs2 t2 s2 r2 => q v H2 fs2 (t.trans t2) s2 r2⟩

/-! ### argument lists: handles -/
def aNil : Af := fun ρ => some ([], ρ)
def aCons (f : Ef) (g : Af) : Af := fun ρ => (f ρ).bind fun p => (g p.2).bind fun q => some (p.1 :: q.1, q.2)
theorem SR.holdHs {K : PySem.W.Frag} {mg : Str → Option Value} {R : List Addr} {ρ : Rho} {σ : L2.St} {H H' : Hp} {fs fs' : List Addr} (s : SR K mg R τ ρ σ H fs) (t : Step H H' fs fs') : ∀ {hs : List Hd} {vs : List V}, RHs K mg (R ++ fs) τ σ H hs vs → RHs K mg (R ++ fs') τ σ H' hs vs
  | _, _, .nil => .nil
  | _, _, .cons h r => .cons (s.holdH t h) (SR.holdHs s t r)
theorem da_nil : DA X [] τ aNil := pa_imp pa_nil fun σ H Q ⟨R, ρ, fs, h, ρ', s, e, q⟩ => by
  cases e
  exact q [] H fs (Step.refl H fs) s .nil
theorem da_cons {f : Ef} {g : Af} (ha : DE X e τ f) (hr : DA X es τ g) (hs : starEach (e :: es) X.env = (false, eval e X.env) :: starEach es X.env := by rfl) : DA X (e :: es) τ (aCons f g) := pa_imp (pa_cons ha hr hs) fun σ H Q ⟨R, ρ, fs, h, ρ', s, e, q⟩ => by
  obtain ⟨p, e1, e2⟩ := bindO e
  obtain ⟨w, e3, e4⟩ := bindO e2
  cases e4
  exact ⟨R, ρ, fs, p.1, p.2, s, e1, fun v H' fs' t s' r => ⟨R, p.2, fs', w.1, w.2, s', e3, fun vs H2 fs2 t2 s2 r2 => q (v :: vs) H2 fs2 (t.trans t2) s2 (.cons (s'.holdH t2 r) r2)⟩⟩
def hvals : List Hd → Option (List D)
  | [] => some []
  | .v d :: r => (hvals r).bind fun ds => some (d :: ds)
  | .x _ :: _ => none
theorem RHs.valsOf {K : PySem.W.Frag} {mg : Str → Option Value} {S : List Addr} {σ : L2.St} {H : Hp} : ∀ {hs : List Hd} {vs : List V} {ds : List D}, RHs K mg S τ σ H hs vs → hvals hs = some ds → Rfs K mg (hide S H) ds vs
  | _, _, _, .nil, e => by cases e; exact .nil
  | _, _, _, .cons (h := h) (hs := hs) r rs, e => by
    cases h with
    | x i => cases e
    | v d =>
      unfold hvals at e
      obtain ⟨ds', e1, e2⟩ := bindO e
      cases e2
      exact .cons r (RHs.valsOf rs e1)
/-! ### displays -/
def eTup (f : Af) : Ef := fun ρ => (f ρ).bind fun p => (hvals p.1).bind fun ds => if okLen ds.length then some (.v (.tup ds), p.2) else none
def oLst (f : Af) : Of := fun ρ => (f ρ).bind fun p => (hvals p.1).bind fun ds => if okLen ds.length then some (.lst ds, p.2) else none
theorem SR.newT {R : List Addr} {ρ : Rho} {σ : L2.St} {H : Hp} {fs : List Addr} {p : Addr} {vs : List V} {ds : List D} (s : SR X.K X.mg R τ ρ σ H fs) (hp : H p = none) (r : Rfs X.K X.mg (hide (R ++ fs) H) ds vs) :
    Rf X.K X.mg (hide (R ++ fs) (upd H p (.tup vs))) (.tup ds) (.ref p) := by
  have hf := s.fresh hp
  refine .tup (.of (hide_some.mpr ⟨hf, upd_same⟩)) (r.mono (hide_grow _ (Grow.upd hp)))
theorem ifSome {α : Type} {c : Bool} {x r : α} (e : (if c then some x else none) = some r) : c = true ∧ x = r := by
  cases c with
  | true => exact ⟨rfl, by simpa using e⟩
  | false => cases e
theorem de_tup {f : Af} {x1} (h : DA X es τ f) : DE X (.Tuple es x1 pos) τ (eTup f) := pe_imp (pe_tup h) fun σ H Q ⟨R, ρ, fs, hh, ρ', s, e, q⟩ => by
  obtain ⟨p, e1, e2⟩ := bindO e
  obtain ⟨ds, e3, e4⟩ := bindO e2
  obtain ⟨e5, e6⟩ := ifSome e4
  cases e6
  refine ⟨R, ρ, fs, p.1, p.2, s, e1, fun vs H' fs' t s' r => ?_⟩
  have rf := r.valsOf e3
  refine ⟨by rw [← rf.length]; exact okLen_le e5, fun a ha => ?_⟩
  exact q _ _ fs' (t.trans (Step.grow (Grow.upd ha) _)) (s'.grow (Grow.upd ha)) (s'.newT ha rf)
theorem do_lst {f : Af} (h : DA X es τ f) : DO X (.List es pos) τ (oLst f) (.oL .sh) := pe_imp (pe_lst h) fun σ H Q ⟨R, ρ, fs, hh, ρ', s, e, q⟩ => by
  obtain ⟨p, e1, e2⟩ := bindO e
  obtain ⟨ds, e3, e4⟩ := bindO e2
  obtain ⟨e5, e6⟩ := ifSome e4
  cases e6
  refine ⟨R, ρ, fs, p.1, p.2, s, e1, fun vs H' fs' t s' r => ?_⟩
  have rf := r.valsOf e3
  refine ⟨by rw [← rf.length]; exact okLen_le e5, fun a ha => ?_⟩
  obtain ⟨n1, n2, n3⟩ := s'.newL ha rf
  exact q _ _ fs' [a] (t.trans n3) n1 n2

/-! ### one-place operators -/
def UnD (X : Cx) (r : V → Hp → VK → Prop) (g : D → Option D) : Prop := ∀ (S : List Addr) (H : Hp) (d1 d : D) (v1 : V) (Q : VK), (∀ a ∈ S, ∃ o, H a = some o ∧ Own o) → Rv X.K X.mg S H d1 v1 → g d1 = some d →
  (∀ v H', Grow H H' → Rf X.K X.mg (hide S H') d v → Q v H') → r v1 H Q
def eUn (g : D → Option D) (f : Ef) : Ef := fun ρ => (f ρ).bind fun p => (g (p.1.res p.2)).bind fun d => some (.v d, p.2)
theorem de_un {op : UnaryOp} {r : V → Hp → VK → Prop} {g : D → Option D} {f : Ef} (ho : UnR X (unaryOp op) r) (o : UnD X r g) (ha : DE X a τ f) : DE X (.UnaryOp op a pos) τ (eUn g f) := pe_imp (pe_un ho ha) fun σ H Q ⟨R, ρ, fs, h, ρ', s, e, q⟩ => by
  obtain ⟨p, e1, e2⟩ := bindO e
  obtain ⟨d, e3, e4⟩ := bindO e2
  cases e4
  exact ⟨R, ρ, fs, p.1, p.2, s, e1, fun v H' fs' t s' r => o (R ++ fs') H' _ _ v Q s'.own (s'.res r) e3 fun v2 H2 g2 rf => q v2 H2 fs' (t.trans (Step.grow g2 _)) (s'.grow g2) rf⟩
/-! ### calls of built-ins -/
inductive Rvs (K : PySem.W.Frag) (mg : Str → Option Value) (S : List Addr) (H : Hp) : List D → List V → Prop
  | nil : Rvs K mg S H [] []
  | cons {d : D} {v : V} {ds : List D} {vs : List V} : Rv K mg S H d v → Rvs K mg S H ds vs → Rvs K mg S H (d :: ds) (v :: vs)
theorem SR.ress {K : PySem.W.Frag} {mg : Str → Option Value} {R : List Addr} {ρ : Rho} {σ : L2.St} {H : Hp} {fs : List Addr} (s : SR K mg R τ ρ σ H fs) : ∀ {hs : List Hd} {vs : List V}, RHs K mg (R ++ fs) τ σ H hs vs → Rvs K mg (R ++ fs) H (hs.map fun h => h.res ρ) vs
  | _, _, .nil => .nil
  | _, _, .cons h r => .cons (s.res h) (SR.ress s r)
def CaD (X : Cx) (r : List V → Hp → VK → Prop) (g : List D → Option D) : Prop := ∀ (S : List Addr) (H : Hp) (ds : List D) (d : D) (vs : List V) (Q : VK), (∀ a ∈ S, ∃ o, H a = some o ∧ Own o) → Rvs X.K X.mg S H ds vs → g ds = some d →
  (∀ v H', Grow H H' → Rf X.K X.mg (hide S H') d v → Q v H') → r vs H Q
def CaO (X : Cx) (r : List V → Hp → VK → Prop) (g : List D → Option (List D)) : Prop := ∀ (S : List Addr) (H : Hp) (ds : List D) (d : List D) (vs : List V) (Q : VK), (∀ a ∈ S, ∃ o, H a = some o ∧ Own o) → Rvs X.K X.mg S H ds vs → g ds = some d →
  (∀ p H1 vs, Grow H H1 → H1 p = none → Rfs X.K X.mg (hide S H1) d vs → Q (.ref p) (upd H1 p (.lst vs))) → r vs H Q
theorem CaD.or {r r' : List V → Hp → VK → Prop} {g g' : List D → Option D} (h : CaD X r g) (h' : CaD X r' g') : CaD X (fun x H Q => r x H Q ∨ r' x H Q) (fun ds => (g ds).or (g' ds)) := fun S H ds d vs Q al r1 e q => by
  cases e1 : g ds with
  | some z => simp only [e1] at e; exact .inl (h S H ds d vs Q al r1 (by rw [e1]; exact e) q)
  | none => simp only [e1] at e; exact .inr (h' S H ds d vs Q al r1 (by simpa using e) q)
def eCa (g : List D → Option D) (f : Af) : Ef := fun ρ => (f ρ).bind fun p => (g (p.1.map fun h => h.res p.2)).bind fun d => some (.v d, p.2)
def oCa (g : List D → Option (List D)) (f : Af) : Of := fun ρ => (f ρ).bind fun p => (g (p.1.map fun h => h.res p.2)).bind fun d => some (.lst d, p.2)
theorem tCB_of {r : List V → Hp → VK → Prop} {g : List D → Option D} {f : Af} (o : CaD X r g) : ∀ σ H Q, tD X τ (eCa g f) σ H Q → tCB r (tA X τ f) σ H Q := fun σ H Q ⟨R, ρ, fs, h, ρ', s, e, q⟩ => by
  obtain ⟨p, e1, e2⟩ := bindO e
  obtain ⟨d, e3, e4⟩ := bindO e2
  cases e4
  exact ⟨R, ρ, fs, p.1, p.2, s, e1, fun v H' fs' t s' r => o (R ++ fs') H' _ _ v Q s'.own (s'.ress r) e3 fun v2 H2 g2 rf => q v2 H2 fs' (t.trans (Step.grow g2 _)) (s'.grow g2) rf⟩
theorem tCBO_of {r : List V → Hp → VK → Prop} {g : List D → Option (List D)} {f : Af} (o : CaO X r g) : ∀ σ H Q, tO X τ (oCa g f) (.oL .sh) σ H Q → tCB r (tA X τ f) σ H Q := fun σ H Q ⟨R, ρ, fs, h, ρ', s, e, q⟩ => by
  obtain ⟨p, e1, e2⟩ := bindO e
  obtain ⟨d, e3, e4⟩ := bindO e2
  cases e4
  refine ⟨R, ρ, fs, p.1, p.2, s, e1, fun v H' fs' t s' r => o (R ++ fs') H' _ _ v Q s'.own (s'.ress r) e3 fun a H1 vs g1 ha rf => ?_⟩
  obtain ⟨n1, n2, n3⟩ := (s'.grow g1).newL ha rf
  exact q _ _ fs' [a] (t.trans ((Step.grow g1 _).trans n3)) n1 n2
variable {x : Str} {p : Pos} {id T : String}
theorem de_callB {r : List V → Hp → VK → Prop} {g : List D → Option D} {f : Af} (hc : CallR X (.builtin id) r) (o : CaD X r g) (hg : Gl X x) (hm : X.mg x = none) (hv : bootBuiltins x = some (.builtin id)) (ha : DA X (e :: es) τ f) (hn : x ≠ "__name__" := by decide) (hdb : (x == ("__debug__" : Str)) = false := by decide)
    (he : starEach (e :: es) X.env = (false, eval e X.env) :: starEach es X.env := by rfl) (hpl : (backTo pos (starEach es X.env)).any (·.1) = false := by rfl) : DE X (.Call (.Name x p) (e :: es) [] pos) τ (eCa g f) := pe_imp (pe_callB hc hg hm hv ha hn hdb he hpl) (tCB_of o)
theorem de_callTy {r : List V → Hp → VK → Prop} {g : List D → Option D} {f : Af} (hc : CallR X (.type T) r) (o : CaD X r g) (hg : Gl X x) (hm : X.mg x = none) (hv : bootBuiltins x = some (.type T)) (ha : DA X (e :: es) τ f) (hn : x ≠ "__name__" := by decide) (hdb : (x == ("__debug__" : Str)) = false := by decide)
    (he : starEach (e :: es) X.env = (false, eval e X.env) :: starEach es X.env := by rfl) (hpl : (backTo pos (starEach es X.env)).any (·.1) = false := by rfl) : DE X (.Call (.Name x p) (e :: es) [] pos) τ (eCa g f) := pe_imp (pe_callTy hc hg hm hv ha hn hdb he hpl) (tCB_of o)
theorem do_callB {r : List V → Hp → VK → Prop} {g : List D → Option (List D)} {f : Af} (hc : CallR X (.builtin id) r) (o : CaO X r g) (hg : Gl X x) (hm : X.mg x = none) (hv : bootBuiltins x = some (.builtin id)) (ha : DA X (e :: es) τ f) (hn : x ≠ "__name__" := by decide) (hdb : (x == ("__debug__" : Str)) = false := by decide)
    (he : starEach (e :: es) X.env = (false, eval e X.env) :: starEach es X.env := by rfl) (hpl : (backTo pos (starEach es X.env)).any (·.1) = false := by rfl) : DO X (.Call (.Name x p) (e :: es) [] pos) τ (oCa g f) (.oL .sh) := pe_imp (pe_callB hc hg hm hv ha hn hdb he hpl) (tCBO_of o)
theorem do_callTy {r : List V → Hp → VK → Prop} {g : List D → Option (List D)} {f : Af} (hc : CallR X (.type T) r) (o : CaO X r g) (hg : Gl X x) (hm : X.mg x = none) (hv : bootBuiltins x = some (.type T)) (ha : DA X (e :: es) τ f) (hn : x ≠ "__name__" := by decide) (hdb : (x == ("__debug__" : Str)) = false := by decide)
    (he : starEach (e :: es) X.env = (false, eval e X.env) :: starEach es X.env := by rfl) (hpl : (backTo pos (starEach es X.env)).any (·.1) = false := by rfl) : DO X (.Call (.Name x p) (e :: es) [] pos) τ (oCa g f) (.oL .sh) := pe_imp (pe_callTy hc hg hm hv ha hn hdb he hpl) (tCBO_of o)
/-! ### slices -/
def SlD (X : Cx) (r : V → Option Int → Option Int → Hp → VK → Prop) (g : D → Option Int → Option Int → Option D) : Prop := ∀ (S : List Addr) (H : Hp) (d1 d : D) (lo hi : Option Int) (v1 : V) (Q : VK), (∀ a ∈ S, ∃ o, H a = some o ∧ Own o) → Rv X.K X.mg S H d1 v1 → g d1 lo hi = some d →
  (∀ v H', Grow H H' → Rf X.K X.mg (hide S H') d v → Q v H') → r v1 lo hi H Q
def SlO (X : Cx) (r : V → Option Int → Option Int → Hp → VK → Prop) (g : D → Option Int → Option Int → Option (List D)) : Prop := ∀ (S : List Addr) (H : Hp) (d1 : D) (d : List D) (lo hi : Option Int) (v1 : V) (Q : VK), (∀ a ∈ S, ∃ o, H a = some o ∧ Own o) → Rv X.K X.mg S H d1 v1 → g d1 lo hi = some d →
  (∀ p vs, H p = none → Rfs X.K X.mg (hide S H) d vs → Q (.ref p) (upd H p (.lst vs))) → r v1 lo hi H Q
abbrev Pf := Rho → Option (Option Int × Rho)
def tP (X : Cx) (τ : List Ty) (f : Pf) : TO := fun σ H Q => ∃ R ρ fs b ρ', SR X.K X.mg R τ ρ σ H fs ∧ f ρ = some (b, ρ') ∧ ∀ H' fs', Step H H' fs fs' → SR X.K X.mg R τ ρ' σ H' fs' → Q b H'
abbrev DP (X : Cx) (e : Option Expr) (τ : List Ty) (f : Pf) : Prop := PO X e (tP X τ f)
theorem po_imp {X : Cx} {e : Option Expr} {t t' : TO} (h : PO X e t) (k : ∀ σ H Q, t' σ H Q → t σ H Q) : PO X e t' := ⟨fun pins s σ H Q I q => h.run pins s σ H Q I (k σ H Q q)⟩
def pNo : Pf := fun ρ => some (none, ρ)
def pSome (f : Ef) : Pf := fun ρ => (f ρ).bind fun p => match p.1 with
  | .v (.int i) => some (some i, p.2)
  | _ => none
theorem dp_no : DP X none τ pNo := po_imp po_none fun σ H Q ⟨R, ρ, fs, h, ρ', s, e, q⟩ => by
  cases e
  exact q H fs (Step.refl H fs) s
theorem dp_some {f : Ef} (h : DE X e τ f) : DP X (some e) τ (pSome f) := po_imp (po_some h) fun σ H Q ⟨R, ρ, fs, h, ρ', s, e, q⟩ => by
  obtain ⟨p, e1, e2⟩ := bindO e
  obtain ⟨p1, p2⟩ := p
  cases p1 with
  | x i => cases e2
  | v d =>
    cases d with
    | int i =>
      cases e2
      refine ⟨R, ρ, fs, _, _, s, e1, fun v H' fs' t s' r => ?_⟩
      cases r
      exact ⟨i, rfl, q H' fs' t s'⟩
    | _ => cases e2
def eSl (g : D → Option Int → Option Int → Option D) (f : Ef) (lo hi : Pf) : Ef := fun ρ => (f ρ).bind fun p => (lo p.2).bind fun l => (hi l.2).bind fun h => (g (p.1.res h.2) l.1 h.1).bind fun d => some (.v d, h.2)
def oSl (g : D → Option Int → Option Int → Option (List D)) (f : Ef) (lo hi : Pf) : Of := fun ρ => (f ρ).bind fun p => (lo p.2).bind fun l => (hi l.2).bind fun h => (g (p.1.res h.2) l.1 h.1).bind fun d => some (.lst d, h.2)
theorem de_slice {r : V → Option Int → Option Int → Hp → VK → Prop} {g : D → Option Int → Option Int → Option D} {f : Ef} {lo hi : Pf} {l u : Option Expr} {p2 : Pos} (hr : SlR X r) (o : SlD X r g) (he : DE X e τ f) (hl : DP X l τ lo) (hu : DP X u τ hi) :
    DE X (.Subscript e (.Slice l u none p2) pos) τ (eSl g f lo hi) := pe_imp (pe_slice hr he hl hu) fun σ H Q ⟨R, ρ, fs, h, ρ', s, e, q⟩ => by
  obtain ⟨p, e1, e2⟩ := bindO e
  obtain ⟨w, e3, e4⟩ := bindO e2
  obtain ⟨z, e5, e6⟩ := bindO e4
  obtain ⟨d, e7, e8⟩ := bindO e6
  cases e8
  refine ⟨R, ρ, fs, p.1, p.2, s, e1, fun v H' fs' t s' r => ⟨R, p.2, fs', w.1, w.2, s', e3, fun H2 fs2 t2 s2 => ⟨R, w.2, fs2, z.1, z.2, s2, e5, fun H3 fs3 t3 s3 => ?_⟩⟩⟩
  exact o (R ++ fs3) H3 _ _ _ _ v Q s3.own (s3.res (s2.holdH t3 (s'.holdH t2 r))) e7 fun v4 H4 g4 rf => q v4 H4 fs3 ((t.trans t2).trans (t3.trans (Step.grow g4 _))) (s3.grow g4) rf
theorem do_slice {r : V → Option Int → Option Int → Hp → VK → Prop} {g : D → Option Int → Option Int → Option (List D)} {f : Ef} {lo hi : Pf} {l u : Option Expr} {p2 : Pos} (hr : SlR X r) (o : SlO X r g) (he : DE X e τ f) (hl : DP X l τ lo) (hu : DP X u τ hi) :
    DO X (.Subscript e (.Slice l u none p2) pos) τ (oSl g f lo hi) (.oL .sh) := pe_imp (pe_slice hr he hl hu) fun σ H Q ⟨R, ρ, fs, h, ρ', s, e, q⟩ => by
  obtain ⟨p, e1, e2⟩ := bindO e
  obtain ⟨w, e3, e4⟩ := bindO e2
  obtain ⟨z, e5, e6⟩ := bindO e4
  obtain ⟨d, e7, e8⟩ := bindO e6
  cases e8
  refine ⟨R, ρ, fs, p.1, p.2, s, e1, fun v H' fs' t s' r => ⟨R, p.2, fs', w.1, w.2, s', e3, fun H2 fs2 t2 s2 => ⟨R, w.2, fs2, z.1, z.2, s2, e5, fun H3 fs3 t3 s3 => ?_⟩⟩⟩
  refine o (R ++ fs3) H3 _ _ _ _ v Q s3.own (s3.res (s2.holdH t3 (s'.holdH t2 r))) e7 fun a vs ha rf => ?_
  obtain ⟨n1, n2, n3⟩ := s3.newL ha rf
  exact q _ _ fs3 [a] (((t.trans t2).trans t3).trans n3) n1 n2
/-! ### methods of built-in types that change nothing -/
def MtD (X : Cx) (T : String) (r : V → List V → Hp → VK → Prop) (g : D → List D → Option D) : Prop := ∀ (S : List Addr) (H : Hp) (d1 : D) (ds : List D) (d : D) (v1 : V) (vs : List V) (Q : VK), (∀ a ∈ S, ∃ o, H a = some o ∧ Own o) → Rv X.K X.mg S H d1 v1 → Rvs X.K X.mg S H ds vs → g d1 ds = some d →
  (∀ v H', Grow H H' → Rf X.K X.mg (hide S H') d v → Q v H') → r v1 vs H Q
end
end TL

namespace TL
open PySem PySem.Spec PyProof.Rows L2

/-! ### slots changed -/
def kill (ks : List Nat) (ρ : Rho) : Rho := ks.foldl (fun r i => r.set i .non) ρ
def killT (ks : List Nat) (τ : List Ty) : List Ty := ks.foldl (fun r i => r.set i .no) τ
section
variable {K : PySem.W.Frag} {mg : Str → Option Value} {R : List Addr} {τ : List Ty} {ρ : Rho} {σ : L2.St} {H H' : Hp} {fs fs' : List Addr}
theorem hide_sub {S S' : List Addr} {H : Hp} (k : ∀ a ∈ S', a ∈ S) : Le (hide S H) (hide S' H) := hide_mono fun a o n e => ⟨fun z => n (k a z), e⟩
theorem nodup_mid {A f1 fo f2 f' : List Addr} (h : (A ++ (f1 ++ fo ++ f2)).Nodup) (k : ∀ a ∈ f', a ∉ A ++ (f1 ++ f2)) (n : f'.Nodup) : (A ++ (f1 ++ f' ++ f2)).Nodup := by
  simp only [List.nodup_append, List.mem_append, not_or] at h k ⊢
  obtain ⟨hA, ⟨⟨h1, ho, h1o⟩, h2, h12⟩, hx⟩ := h
  refine ⟨hA, ⟨⟨h1, n, fun a ha b hb e => ?_⟩, h2, fun a ha b hb e => ?_⟩, fun a ha b hb e => ?_⟩
  · subst e; exact (k _ hb).2.1 ha
  · subst e
    rcases ha with ha | ha
    · exact h12 _ (.inl ha) _ hb rfl
    · exact (k _ ha).2.2 hb
  · subst e
    rcases hb with (hb | hb) | hb
    · exact hx _ ha _ (.inl (.inl hb)) rfl
    · exact (k _ hb).1 ha
    · exact hx _ ha _ (.inr hb) rfl
/-- a value goes into a slot -/
theorem SR.put {fv : List Addr} {i : Nat} {t : Ty} {d : D} {v : V} (s : SR K mg (fv ++ R) τ ρ σ H fs) (hi : i < τ.length) (r : Rp K mg H (hide (fv ++ R ++ fs) H) t d v fv) :
    ∃ fs', SR K mg R (τ.set i t) (ρ.set i d) (σ.set i (some v)) H fs' ∧ ∀ a ∈ fs', a ∈ fv ++ fs := by
  obtain ⟨f1, fo, f2, ef, ho, hl, h1, h2, h3⟩ := s.sl.split (List.getElem?_eq_getElem hi)
  have nd := s.nd
  subst ef
  have sub : ∀ a ∈ R ++ (f1 ++ fv ++ f2), a ∈ fv ++ R ++ (f1 ++ fo ++ f2) := by
    intro a ha
    simp only [List.mem_append] at ha ⊢
    rcases ha with h | (h | h) | h <;> simp [h]
  have le : Le (hide (fv ++ R ++ (f1 ++ fo ++ f2)) H) (hide (R ++ (f1 ++ fv ++ f2)) H) := hide_sub sub
  refine ⟨f1 ++ fv ++ f2, ⟨h1 (fun _ _ => rfl) le (r.mono le fun _ _ => rfl), ?_, fun a ha => s.al a (List.mem_append_right _ ha)⟩, fun a ha => ?_⟩
  · have nd' : (R ++ (f1 ++ fo ++ f2)).Nodup := by
      rw [List.append_assoc] at nd
      exact (List.nodup_append.mp nd).2.1
    refine nodup_mid nd' (fun a ha z => ?_) ?_
    · rw [List.append_assoc] at nd
      exact (List.nodup_append.mp nd).2.2 a ha a (by
        simp only [List.mem_append] at z ⊢
        rcases z with h | h | h <;> simp [h]) rfl
    · rw [List.append_assoc] at nd
      exact (List.nodup_append.mp nd).1
  · simp only [List.mem_append] at ha ⊢
    rcases ha with (h | h) | h <;> simp [h]
theorem set_getD {α : Type} (d : α) : ∀ (l : List α) (i : Nat), l.set i (l.getD i d) = l
  | [], _ => rfl
  | a :: r, 0 => rfl
  | a :: r, i + 1 => by simpa using set_getD d r i
theorem set_at {α : Type} : ∀ {l : List α} {i : Nat} {t : α}, l[i]? = some t → l.set i t = l
  | [], _, _, e => by simp at e
  | a :: r, 0, t, e => by simp at e; simp [e]
  | a :: r, i + 1, t, e => by simpa using set_at (l := r) (i := i) (by simpa using e)
theorem SR.frz {i : Nat} {t : Ty} (s : SR K mg R τ ρ σ H fs) (e : τ[i]? = some t) (n : t ≠ .no) : ∃ fs', SR K mg R (τ.set i .sh) ρ σ H fs' ∧ ∀ a ∈ fs', a ∈ fs := by
  obtain ⟨f1, fo, f2, ef, ho, hl, h1, h2, h3⟩ := s.sl.split e
  subst ef
  rcases ho with ⟨z, _⟩ | ⟨v, ev, r⟩
  · exact absurd z n
  · have le : Le (hide (R ++ (f1 ++ fo ++ f2)) H) (hide (R ++ (f1 ++ [] ++ f2)) H) := hide_sub fun a ha => by
      simp only [List.mem_append] at ha ⊢
      rcases ha with h | (h | h) | h
      · simp [h]
      · simp [h]
      · simp at h
      · simp [h]
    have nd := s.nd
    have rf : Rf K mg (hide (R ++ (f1 ++ [] ++ f2)) H) (ρ.getD i .non) v := r.frz le fun a ha o eo => hide_some.mpr ⟨fun z => ?_, eo⟩
    · have q := h2 (fun _ _ => rfl) le ev (.sh rf)
      rw [set_getD] at q
      refine ⟨f1 ++ [] ++ f2, ⟨q, nodup_mid nd (fun a ha => nomatch ha) List.nodup_nil, s.al⟩, fun a ha => ?_⟩
      simp only [List.mem_append] at ha ⊢
      rcases ha with (h | h) | h
      · simp [h]
      · simp at h
      · simp [h]
    · simp only [List.nodup_append, List.mem_append] at nd
      simp only [List.mem_append] at z
      rcases z with z | (z | z) | z
      · exact nd.2.2 a z a (.inl (.inr ha)) rfl
      · exact nd.2.1.1.2.2 a z a ha rfl
      · simp at z
      · exact nd.2.1.2.2 a (.inr ha) a z rfl
theorem SR.kill1 (s : SR K mg R τ ρ σ H fs) (i : Nat) (d : D) : ∃ fs', SR K mg R (τ.set i .no) (ρ.set i d) σ H fs' ∧ ∀ a ∈ fs', a ∈ fs := by
  by_cases hi : i < τ.length
  · obtain ⟨f1, fo, f2, ef, ho, hl, h1, h2, h3⟩ := s.sl.split (List.getElem?_eq_getElem hi)
    subst ef
    have nd := s.nd
    refine ⟨f1 ++ f2, ⟨h3 (fun _ _ => rfl) (hide_sub fun a ha => ?_), ?_, s.al⟩, fun a ha => ?_⟩
    · simp only [List.mem_append] at ha ⊢
      rcases ha with h | h | h <;> simp [h]
    · have := nodup_mid nd (f' := []) (fun a ha => nomatch ha) List.nodup_nil
      simpa using this
    · simp only [List.mem_append] at ha ⊢
      rcases ha with h | h <;> simp [h]
  · have hl := s.sl.len
    rw [List.set_eq_of_length_le (by omega), List.set_eq_of_length_le (by omega)]
    exact ⟨fs, s, fun _ h => h⟩
theorem SR.killS : ∀ (ks : List Nat) {τ : List Ty} {ρ : Rho} {fs : List Addr}, SR K mg R τ ρ σ H fs → ∃ fs', SR K mg R (killT ks τ) (kill ks ρ) σ H fs' ∧ ∀ a ∈ fs', a ∈ fs
  | [], _, _, fs, s => ⟨fs, s, fun _ h => h⟩
  | i :: ks, _, _, _, s => by
    obtain ⟨f1, s1, k1⟩ := s.kill1 i .non
    obtain ⟨f2, s2, k2⟩ := SR.killS ks s1
    exact ⟨f2, s2, fun a ha => k1 a (k2 a ha)⟩
end

/-! ### a def's promise -/
structure Sg where
  ps : List Ty
  ret : Ty
def Ty.io : Ty → Ty
  | .sh => .no
  | t => t
/-- the result, and the parameters' trees behind the call -/
abbrev Fm := List D → Option (D × List D)
def spD (K : PySem.W.Frag) (mg : Str → Option Value) (sg : Sg) (F : Fm) : Sp := fun vs H Q _ => ∃ R ds fs d ds', SR K mg R sg.ps ds (vs.map some) H fs ∧ F ds = some (d, ds') ∧
  ∀ v H' fs' fv, Step H H' fs (fv ++ fs') → SR K mg (fv ++ R) (sg.ps.map Ty.io) ds' (vs.map some) H' fs' → Rp K mg H' (hide (fv ++ R ++ fs') H') sg.ret d v fv → Q v H'
abbrev FnD (P : Program) (w : World) (K : PySem.W.Frag) (mg : Str → Option Value) (base : Heap) (k : Nat) (f : Addr) (fd : FuncData) (ps : List Str) (sg : Sg) (F : Fm) : Prop := FnOk P w K mg base CX0 k f fd ps (spD K mg sg F)
theorem Sl.of_sh {K : PySem.W.Frag} {mg : Str → Option Value} {H G : Hp} : ∀ {ds : List D} {vs : List V}, Rfs K mg G ds vs → Sl K mg H G (List.replicate ds.length .sh) ds (vs.map some) []
  | _, _, .nil => .nil
  | _, _, .cons h r => by
    have q := Sl.cons (Rp.sh (K := K) (mg := mg) (H := H) h) (Sl.of_sh r)
    exact q
theorem SR.args {K : PySem.W.Frag} {mg : Str → Option Value} {S : List Addr} {H : Hp} {ds : List D} {vs : List V} (r : Rfs K mg (hide S H) ds vs) (nd : S.Nodup) (al : ∀ a ∈ S, ∃ o, H a = some o ∧ Own o) : SR K mg S (List.replicate ds.length .sh) ds (vs.map some) H [] := by
  refine ⟨?_, by simpa using nd, al⟩
  rw [List.append_nil]
  exact Sl.of_sh r

section
variable {X : Cx} {τ : List Ty} {a b c e : Expr} {es : List Expr} {pos p : Pos} {x : Str} {k : Nat} {f : Addr} {fd : FuncData} {ps : List Str} {sg : Sg} {F : Fm}
/-! ### a call: all arguments frozen -/
def oCall (F : Fm) (g : Af) : Of := fun ρ => (g ρ).bind fun p => (hvals p.1).bind fun ds => (F ds).bind fun r => some (r.1, p.2)
theorem hvals_len : ∀ {hs : List Hd} {ds : List D}, hvals hs = some ds → ds.length = hs.length
  | [], _, e => by cases e; rfl
  | .v d :: r, _, e => by
    obtain ⟨ds, e1, e2⟩ := bindO (show (hvals r).bind _ = _ from e)
    cases e2
    simp [hvals_len e1]
  | .x i :: r, _, e => by cases e
theorem do_call {g : Af} (Fo : FnD X.prog X.w X.K X.mg X.base k f fd ps sg F) (hr : Room k X.A) (hg : Gl X x) (hm : X.mg x = some (.ref f)) (hk : PySem.W.keepIn X.K (.ref f) = true) (hb : Binds X.K fd ps [])
    (ha : DA X (e :: es) τ g) (n : Nat) (hps : sg.ps = List.replicate n .sh) (hn : ∀ ds r, F ds = some r → ds.length = n) (hdb : (x == ("__debug__" : Str)) = false := by decide) (he : starEach (e :: es) X.env = (false, eval e X.env) :: starEach es X.env := by rfl) (hpl : (backTo pos (starEach es X.env)).any (·.1) = false := by rfl) :
    DO X (.Call (.Name x p) (e :: es) [] pos) τ (oCall F g) sg.ret := pe_imp (pe_call Fo hr hg hm hk hb .nil (pass0 (X := X)) ha hdb he hpl) fun σ H Q ⟨R, ρ, fs, d, ρ', s, eq, q⟩ => by
  obtain ⟨w, e1, e2⟩ := bindO eq
  obtain ⟨ds, e3, e4⟩ := bindO e2
  obtain ⟨r, e5, e6⟩ := bindO e4
  cases e6
  refine ⟨R, ρ, fs, w.1, w.2, s, e1, fun vs H1 fs1 t1 s1 r1 => ?_⟩
  have rf := r1.valsOf e3
  show spD X.K X.mg sg F (vs ++ []) H1 Q E0
  rw [List.append_nil]
  have sa := SR.args rf s1.nd s1.own
  rw [hn _ _ e5, ← hps] at sa
  refine ⟨R ++ fs1, ds, [], r.1, r.2, sa, e5, fun v H2 fs2 fv t2 s2 rp => ?_⟩
  have gr : Grow H1 H2 := fun a o e => t2.ext a o (by simp) e
  have fr : ∀ a ∈ fv, H1 a = none := fun a ha => (t2.sub a (List.mem_append_left _ ha)).elim (fun z => by simp at z) id
  have nd2 := s2.nd
  refine q v H2 fs1 fv (t1.trans ⟨fun a o _ e => gr a o e, fun a ha => (List.mem_append.mp ha).elim (fun z => .inr (fr a z)) .inl, fun a o e => ⟨o, gr a o e⟩⟩) ⟨s1.sl.mono ?_ ?_, ?_, fun a ha => ?_⟩ (rp.mono ?_ fun _ _ => rfl)
  · refine hide_mono fun a o n e => ⟨fun z => ?_, gr a o e⟩
    simp only [List.mem_append] at z n
    rcases z with (z | z) | z
    · rw [fr a z] at e; cases e
    · exact n (.inl z)
    · exact n (.inr z)
  · intro a ha
    obtain ⟨o, e, _⟩ := s1.sl.there a ha
    rw [e, gr a o e]
  · rw [List.append_assoc] at nd2
    have := List.nodup_append.mp nd2
    rw [List.append_assoc, List.nodup_append]
    refine ⟨this.1, s1.nd, fun a ha b hb => this.2.2 a ha b (List.mem_append_left _ hb)⟩
  · rcases List.mem_append.mp ha with z | z
    · exact s2.own a (List.mem_append_left _ (List.mem_append_left _ z))
    · obtain ⟨o, e, w⟩ := s1.al a z
      exact ⟨o, gr a o e, w⟩
  · exact hide_sub fun a ha => by
      simp only [List.mem_append] at ha ⊢
      rcases ha with (z | z) | z <;> simp [z]

/-! ### a call with borrowed lists: what comes back holds none -/
def immL (l : List D) (f : D → Bool) : Bool := l.all f
mutual
def imm : D → Bool
  | .tup l => imms l
  | .lst _ => false
  | .dct _ => false
  | .set _ => false
  | .obj _ _ => false
  | .scr _ => false
  | _ => true
def imms : List D → Bool
  | [] => true
  | d :: r => imm d && imms r
end
def immR : Ty → D → Bool
  | .sh, d => imm d
  | .oL .sh, .lst l => imms l
  | _, _ => false
mutual
theorem Rf.imm {K : PySem.W.Frag} {mg : Str → Option Value} {G G' : Hp} (h : ∀ a xs, G a = some (.tup xs) → G' a = some (.tup xs)) (hf : ∀ a o u, G a = some (.frz o u) → G' a = some (.frz o u)) : ∀ {d : D} {v : V}, imm d = true → Rf K mg G d v → Rf K mg G' d v
  | _, _, _, .non => .non
  | _, _, _, .bl b => .bl b
  | _, _, _, .int i => .int i
  | _, _, _, .str s => .str s
  | _, _, e, .tup q r => .tup (by
      rcases q with (q | ⟨o, q⟩) | q
      · exact .inl (.inl (h _ _ q))
      · exact .inl (.inr ⟨o, hf _ _ _ q⟩)
      · exact .inr q) (Rfs.imm h hf (by simpa [TL.imm] using e) r)
  | _, _, e, .lst _ _ => by simp [TL.imm] at e
  | _, _, e, .dK _ _ _ => by simp [TL.imm] at e
  | _, _, e, .dT _ _ _ => by simp [TL.imm] at e
  | _, _, e, .obj _ _ _ _ => by simp [TL.imm] at e
  | _, _, e, .scr _ => by simp [TL.imm] at e
theorem Rfs.imm {K : PySem.W.Frag} {mg : Str → Option Value} {G G' : Hp} (h : ∀ a xs, G a = some (.tup xs) → G' a = some (.tup xs)) (hf : ∀ a o u, G a = some (.frz o u) → G' a = some (.frz o u)) : ∀ {d : List D} {v : List V}, imms d = true → Rfs K mg G d v → Rfs K mg G' d v
  | _, _, _, .nil => .nil
  | _, _, e, .cons q r => .cons (Rf.imm h hf (by simp [imms] at e; exact e.1) q) (Rfs.imm h hf (by simp [imms] at e; exact e.2) r)
end
theorem Rv.whole {K : PySem.W.Frag} {mg : Str → Option Value} {S : List Addr} {H : Hp} {d : D} {v : V} (r : Rv K mg S H d v) : Rf K mg (hide [] H) d v := by
  have le : Le (hide S H) (hide [] H) := hide_sub fun a ha => by simp at ha
  have eq : hide [] H = H := by funext a; simp [hide]
  rw [eq] at le ⊢
  cases r with
  | rf r => exact r.mono le
  | lst h r => exact .lst h (r.mono le)
  | dK h n r => exact .dK h n (r.mono le)
  | dT h n r => exact .dT h n (r.mono le)
theorem Rvs.whole {K : PySem.W.Frag} {mg : Str → Option Value} {S : List Addr} {H : Hp} : ∀ {d : List D} {v : List V}, Rvs K mg S H d v → Rfs K mg (hide [] H) d v
  | _, _, .nil => .nil
  | _, _, .cons h r => .cons h.whole (Rvs.whole r)
def oCallB (t : Ty) (F : Fm) (g : Af) : Of := fun ρ => (g ρ).bind fun p => (F (p.1.map fun h => h.res p.2)).bind fun r => if immR t r.1 then some (r.1, p.2) else none
theorem do_callB' {g : Af} (Fo : FnD X.prog X.w X.K X.mg X.base k f fd ps sg F) (hr : Room k X.A) (hg : Gl X x) (hm : X.mg x = some (.ref f)) (hk : PySem.W.keepIn X.K (.ref f) = true) (hb : Binds X.K fd ps [])
    (ha : DA X (e :: es) τ g) (n : Nat) (hps : sg.ps = List.replicate n .sh) (hn : ∀ ds r, F ds = some r → ds.length = n) (hdb : (x == ("__debug__" : Str)) = false := by decide) (he : starEach (e :: es) X.env = (false, eval e X.env) :: starEach es X.env := by rfl) (hpl : (backTo pos (starEach es X.env)).any (·.1) = false := by rfl) :
    DO X (.Call (.Name x p) (e :: es) [] pos) τ (oCallB sg.ret F g) sg.ret := pe_imp (pe_call Fo hr hg hm hk hb .nil (pass0 (X := X)) ha hdb he hpl) fun σ H Q ⟨R, ρ, fs, d, ρ', s, eq, q⟩ => by
  obtain ⟨w, e1, e2⟩ := bindO eq
  obtain ⟨r, e5, e6⟩ := bindO e2
  obtain ⟨e7, e8⟩ := ifSome e6
  cases e8
  refine ⟨R, ρ, fs, w.1, w.2, s, e1, fun vs H1 fs1 t1 s1 r1 => ?_⟩
  have rf := (s1.ress r1).whole
  show spD X.K X.mg sg F (vs ++ []) H1 Q E0
  rw [List.append_nil]
  have sa := SR.args rf List.nodup_nil (fun a ha => nomatch ha)
  rw [hn _ _ e5, ← hps] at sa
  refine ⟨[], _, [], r.1, r.2, sa, e5, fun v H2 fs2 fv t2 s2 rp => ?_⟩
  have gr : Grow H1 H2 := fun a o e => t2.ext a o (by simp) e
  have fr : ∀ a ∈ fv, H1 a = none := fun a ha => (t2.sub a (List.mem_append_left _ ha)).elim (fun z => by simp at z) id
  have nd2 := s2.nd
  have nfv : fv.Nodup := by
    simp only [List.append_nil] at nd2
    exact (List.nodup_append.mp nd2).1
  have own2 : ∀ a ∈ R ++ fs1, ∃ o, H2 a = some o ∧ Own o := fun a ha => by
    obtain ⟨o, e, w⟩ := s1.own a ha
    exact ⟨o, gr a o e, w⟩
  have dis : ∀ a ∈ fv, a ∉ R ++ fs1 := fun a ha z => by
    obtain ⟨o, e, _⟩ := s1.own a z
    rw [fr a ha] at e; cases e
  have immk : ∀ a xs, hide (fv ++ [] ++ fs2) H2 a = some (.tup xs) → hide (fv ++ R ++ fs1) H2 a = some (.tup xs) := fun a xs e => by
    rw [hide_some] at e ⊢
    refine ⟨fun z => ?_, e.2⟩
    rw [List.append_assoc] at z
    rcases List.mem_append.mp z with z | z
    · exact e.1 (by simp [z])
    · obtain ⟨o, e', w⟩ := own2 a z
      rw [e.2] at e'; cases e'; exact w
  have immf : ∀ a o u, hide (fv ++ [] ++ fs2) H2 a = some (.frz o u) → hide (fv ++ R ++ fs1) H2 a = some (.frz o u) := fun a o u e => by
    rw [hide_some] at e ⊢
    refine ⟨fun z => ?_, e.2⟩
    rw [List.append_assoc] at z
    rcases List.mem_append.mp z with z | z
    · exact e.1 (by simp [z])
    · obtain ⟨o, e', w⟩ := own2 a z
      rw [e.2] at e'; cases e'; exact w
  refine q v H2 fs1 fv (t1.trans ⟨fun a o _ e => gr a o e, fun a ha => (List.mem_append.mp ha).elim (fun z => .inr (fr a z)) .inl, fun a o e => ⟨o, gr a o e⟩⟩) ⟨s1.sl.mono ?_ ?_, ?_, fun a ha => ?_⟩ ?_
  · refine hide_mono fun a o n e => ⟨fun z => ?_, gr a o e⟩
    simp only [List.mem_append] at z n
    rcases z with (z | z) | z
    · rw [fr a z] at e; cases e
    · exact n (.inl z)
    · exact n (.inr z)
  · intro a ha
    obtain ⟨o, e, _⟩ := s1.sl.there a ha
    rw [e, gr a o e]
  · rw [List.append_assoc, List.nodup_append]
    exact ⟨nfv, s1.nd, fun a ha b hb e => dis a ha (e ▸ hb)⟩
  · rcases List.mem_append.mp ha with z | z
    · exact s2.own a (by simp [z])
    · obtain ⟨o, e, w⟩ := s1.al a z
      exact ⟨o, gr a o e, w⟩
  · revert rp e7
    cases hret : sg.ret with
    | sh =>
      intro e7 rp
      cases rp with
      | sh rp => exact .sh (rp.imm immk immf e7)
    | oL t =>
      cases t with
      | sh =>
        intro e7 rp
        generalize r.1 = dd at e7 rp
        cases rp with
        | oL h rp =>
          have z := rp.to_sh
          have z2 := z.2
          subst z2
          exact .oL h (Rps.of_sh (z.1.imm immk immf e7))
      | _ => intro e7; simp [immR] at e7
    | _ => intro e7; simp [immR] at e7

/-! ### a call that changes one of its arguments -/
inductive RHi (K : PySem.W.Frag) (mg : Str → Option Value) (S : List Addr) (τ : List Ty) (σ : L2.St) (H : Hp) : Hd → V → Prop
  | rh {h : Hd} {v : V} : RH K mg S τ σ H h v → RHi K mg S τ σ H h v
  | io {i : Nat} {v : V} : σ[i]? = some (some v) → RHi K mg S τ σ H (.x i) v
inductive RHis (K : PySem.W.Frag) (mg : Str → Option Value) (S : List Addr) (τ : List Ty) (σ : L2.St) (H : Hp) : List Hd → List V → Prop
  | nil : RHis K mg S τ σ H [] []
  | cons {h : Hd} {v : V} {hs : List Hd} {vs : List V} : RHi K mg S τ σ H h v → RHis K mg S τ σ H hs vs → RHis K mg S τ σ H (h :: hs) (v :: vs)
def tAi (X : Cx) (τ : List Ty) (f : Af) : TA := fun σ H Q => ∃ R ρ fs hs ρ', SR X.K X.mg R τ ρ σ H fs ∧ f ρ = some (hs, ρ') ∧
  ∀ vs H' fs', Step H H' fs fs' → SR X.K X.mg R τ ρ' σ H' fs' → RHis X.K X.mg (R ++ fs') τ σ H' hs vs → Q vs H'
abbrev DAi (X : Cx) (es : List Expr) (τ : List Ty) (f : Af) : Prop := PA X es (tAi X τ f)
theorem SR.holdHi {K : PySem.W.Frag} {mg : Str → Option Value} {R : List Addr} {ρ : Rho} {σ : L2.St} {H H' : Hp} {fs fs' : List Addr} (s : SR K mg R τ ρ σ H fs) (t : Step H H' fs fs') {h : Hd} {v : V} (r : RHi K mg (R ++ fs) τ σ H h v) : RHi K mg (R ++ fs') τ σ H' h v := by
  cases r with
  | rh r => exact .rh (s.holdH t r)
  | io e => exact .io e
theorem dai_nil : DAi X [] τ aNil := pa_imp pa_nil fun σ H Q ⟨R, ρ, fs, h, ρ', s, e, q⟩ => by
  cases e
  exact q [] H fs (Step.refl H fs) s .nil
theorem dai_cons {f : Ef} {g : Af} (ha : DE X e τ f) (hr : DAi X es τ g) (hs : starEach (e :: es) X.env = (false, eval e X.env) :: starEach es X.env := by rfl) : DAi X (e :: es) τ (aCons f g) := pa_imp (pa_cons ha hr hs) fun σ H Q ⟨R, ρ, fs, h, ρ', s, e, q⟩ => by
  obtain ⟨p, e1, e2⟩ := bindO e
  obtain ⟨w, e3, e4⟩ := bindO e2
  cases e4
  exact ⟨R, ρ, fs, p.1, p.2, s, e1, fun v H' fs' t s' r => ⟨R, p.2, fs', w.1, w.2, s', e3, fun vs H2 fs2 t2 s2 r2 => q (v :: vs) H2 fs2 (t.trans t2) s2 (.cons (s'.holdHi t2 (.rh r)) r2)⟩⟩
theorem dai_io {g : Af} (i : Nat) {t : Ty} (ha : PE X e (tVar i)) (hr : DAi X es τ g) (ht : τ[i]? = some t := by rfl) (hn : t ≠ .no := by intro z; cases z) (hs : starEach (e :: es) X.env = (false, eval e X.env) :: starEach es X.env := by rfl) : DAi X (e :: es) τ (aCons (eOwn i) g) := pa_imp (pa_cons ha hr hs) fun σ H Q ⟨R, ρ, fs, h, ρ', s, e, q⟩ => by
  obtain ⟨p, e1, e2⟩ := bindO e
  obtain ⟨w, e3, e4⟩ := bindO e2
  cases e4
  cases e1
  obtain ⟨v, f, ev, _, _⟩ := s.get ht hn
  exact ⟨v, ev, R, ρ, fs, w.1, w.2, s, e3, fun vs H2 fs2 t2 s2 r2 => q (v :: vs) H2 fs2 t2 s2 (.cons (.io ev) r2)⟩
/-- the parameters' kinds: all frozen but the j-th -/
def ioPs (n j : Nat) (t : Ty) : List Ty := (List.replicate n .sh).set j t
/-- the handles: all values but the j-th, which is the slot i -/
def hvI (i : Nat) : List Hd → Nat → Rho → Option (List D)
  | [], _, _ => none
  | .x m :: r, 0, ρ => if m == i then (hvals r).bind fun ds => some (ρ.getD i .non :: ds) else none
  | .v _ :: _, 0, _ => none
  | .v d :: r, j + 1, ρ => (hvI i r j ρ).bind fun ds => some (d :: ds)
  | .x _ :: _, _ + 1, _ => none
def oCallI (F : Fm) (i j : Nat) (g : Af) : Of := fun ρ => (g ρ).bind fun p => (hvI i p.1 j p.2).bind fun ds => (F ds).bind fun r => some (r.1, p.2.set i (r.2.getD j .non))
theorem RHis.valsOf {K : PySem.W.Frag} {mg : Str → Option Value} {S : List Addr} {σ : L2.St} {H : Hp} : ∀ {hs : List Hd} {vs : List V} {ds : List D}, RHis K mg S τ σ H hs vs → hvals hs = some ds → Rfs K mg (hide S H) ds vs
  | _, _, _, .nil, e => by cases e; exact .nil
  | _, _, _, .cons (h := h) (hs := hs) r rs, e => by
    cases h with
    | x i => cases e
    | v d =>
      obtain ⟨ds', e1, e2⟩ := bindO (show (hvals hs).bind _ = _ from e)
      cases e2
      cases r with
      | rh r => exact .cons r (RHis.valsOf rs e1)
theorem RHis.argsI {K : PySem.W.Frag} {mg : Str → Option Value} {S : List Addr} {σ : L2.St} {H : Hp} {ρ : Rho} {t : Ty} {v : V} {fo : List Addr} {i : Nat} (ev : σ[i]? = some (some v)) (rp : Rp K mg H (hide S H) t (ρ.getD i .non) v fo) : ∀ {hs : List Hd} {vs : List V} {ds : List D} {j : Nat}, RHis K mg S τ σ H hs vs → hvI i hs j ρ = some ds →
    Sl K mg H (hide S H) (ioPs ds.length j t) ds (vs.map some) fo ∧ vs[j]? = some v ∧ j < ds.length
  | _, _, _, _, .nil, e => by cases e
  | _, _, _, 0, .cons (h := h) (v := v0) (hs := hs) r rs, e => by
    cases h with
    | v d => cases e
    | x m =>
      obtain ⟨e1, e2⟩ := ifSome' (x := ()) (r := ()) (c := m == i) (by
        unfold hvI at e
        by_cases q : (m == i) = true
        · simp [q]
        · rw [if_neg q] at e; cases e)
      have em : m = i := by simpa using e1
      subst em
      unfold hvI at e
      rw [if_pos e1] at e
      obtain ⟨ds', e3, e4⟩ := bindO e
      cases e4
      have ev' : σ[m]? = some (some v0) := by
        cases r with
        | rh r => exact r.1
        | io r => exact r
      rw [ev] at ev'; cases ev'
      have q := Sl.cons rp (Sl.of_sh (H := H) (rs.valsOf e3))
      rw [List.append_nil] at q
      exact ⟨q, rfl, by simp⟩
  | _, _, _, j + 1, .cons (h := h) (hs := hs) r rs, e => by
    cases h with
    | x i => cases e
    | v d =>
      obtain ⟨ds', e1, e2⟩ := bindO (show (hvI i hs j ρ).bind _ = _ from e)
      cases e2
      obtain ⟨q, q2, q3⟩ := RHis.argsI ev rp rs e1
      cases r with
      | rh r =>
        exact ⟨Sl.cons (Rp.sh (H := H) r) q, by simpa using q2, by simpa using q3⟩
theorem do_callI {g : Af} {t : Ty} (i j n : Nat) (Fo : FnD X.prog X.w X.K X.mg X.base k f fd ps sg F) (hr : Room k X.A) (hg : Gl X x) (hm : X.mg x = some (.ref f)) (hk : PySem.W.keepIn X.K (.ref f) = true) (hb : Binds X.K fd ps [])
    (ha : DAi X (e :: es) τ g) (hps : sg.ps = ioPs n j t) (hn : ∀ ds r, F ds = some r → ds.length = n) (ht : τ[i]? = some t := by rfl) (hno : t ≠ .no := by intro z; cases z) (hsh : t.io = t := by rfl) (hdb : (x == ("__debug__" : Str)) = false := by decide) (he : starEach (e :: es) X.env = (false, eval e X.env) :: starEach es X.env := by rfl) (hpl : (backTo pos (starEach es X.env)).any (·.1) = false := by rfl) :
    DO X (.Call (.Name x p) (e :: es) [] pos) τ (oCallI F i j g) sg.ret := pe_imp (pe_call Fo hr hg hm hk hb .nil (pass0 (X := X)) ha hdb he hpl) fun σ H Q ⟨R, ρ, fs, d, ρ', s, eq, q⟩ => by
  obtain ⟨w, e1, e2⟩ := bindO eq
  obtain ⟨ds, e3, e4⟩ := bindO e2
  obtain ⟨r, e5, e6⟩ := bindO e4
  cases e6
  refine ⟨R, ρ, fs, w.1, w.2, s, e1, fun vs H1 fs1 t1 s1 r1 => ?_⟩
  show spD X.K X.mg sg F (vs ++ []) H1 Q E0
  rw [List.append_nil]
  obtain ⟨f1, fo, f2, ef, ho, hl, h1, h2, h3⟩ := s1.sl.split ht
  rcases ho with ⟨z, _⟩ | ⟨vi, evi, rp⟩
  · exact absurd z hno
  subst ef
  obtain ⟨sa, ej, hj⟩ := r1.argsI evi rp e3
  rw [hn _ _ e5, ← hps] at sa
  have nd1 := s1.nd
  have mem1 : ∀ a, a ∈ (R ++ (f1 ++ f2)) ++ fo ↔ a ∈ R ++ (f1 ++ fo ++ f2) := fun a => by
    simp only [List.mem_append]
    constructor
    · rintro ((h | h | h) | h) <;> simp [h]
    · rintro (h | (h | h) | h) <;> simp [h]
  have ndm : ((R ++ (f1 ++ f2)) ++ fo).Nodup := by
    have pm : ((R ++ (f1 ++ f2)) ++ fo).Perm (R ++ (f1 ++ fo ++ f2)) := by
      rw [List.append_assoc]
      refine List.Perm.append_left R ?_
      rw [List.append_assoc, List.append_assoc]
      exact List.Perm.append_left f1 List.perm_append_comm
    exact pm.nodup_iff.mpr nd1
  have sA : SR X.K X.mg (R ++ (f1 ++ f2)) sg.ps ds (vs.map some) H1 fo := ⟨sa.mono (hide_sub fun a ha => (mem1 a).mp ha) fun _ _ => rfl, ndm, fun a ha => s1.own a ((mem1 a).mp (List.mem_append_left _ ha))⟩
  refine ⟨R ++ (f1 ++ f2), ds, fo, r.1, r.2, sA, e5, fun v H2 fs2 fv t2 s2 rp2 => ?_⟩
  have hjn : j < n := by rw [← hn _ _ e5]; exact hj
  have tj : (sg.ps.map Ty.io)[j]? = some t := by
    rw [hps, List.getElem?_map]
    unfold ioPs
    rw [List.getElem?_set_self (by simpa using hjn)]
    simp [hsh]
  obtain ⟨g1, f', g2, eg, ho2, _⟩ := s2.sl.split tj
  rcases ho2 with ⟨z, _⟩ | ⟨v', ev', rpj⟩
  · exact absurd z hno
  have hf' : ∀ a ∈ f', a ∈ fs2 := fun a ha => by rw [eg]; simp [ha]
  have evv : v' = vi := by
    rw [List.getElem?_map, ej] at ev'
    simpa using ev'.symm
  subst evv
  have nd2 := s2.nd
  have H12 : ∀ a ∈ R ++ (f1 ++ f2), ∀ o, H1 a = some o → H2 a = some o := fun a ha o e => t2.ext a o (fun z => (List.nodup_append.mp ndm).2.2 a ha a z rfl) e
  have key : ∀ a, a ∈ fv ++ R ++ (f1 ++ f' ++ f2) → a ∈ fv ++ (R ++ (f1 ++ f2)) ++ fs2 := fun a ha => by
    simp only [List.mem_append] at ha ⊢
    rcases ha with (h | h) | (h | h) | h
    · simp [h]
    · simp [h]
    · simp [h]
    · simp [hf' a h]
    · simp [h]
  have le1 : Le (hide (R ++ (f1 ++ fo ++ f2)) H1) (hide (fv ++ R ++ (f1 ++ f' ++ f2)) H2) := hide_mono fun a o n e => by
    have nfo : a ∉ fo := fun z => n (by simp [z])
    refine ⟨fun z => ?_, t2.ext a o nfo e⟩
    have z := key a z
    have nR : a ∉ R ++ (f1 ++ f2) := fun z => n ((mem1 a).mp (List.mem_append_left _ z))
    rcases List.mem_append.mp z with z | z
    · rcases List.mem_append.mp z with z | z
      · rcases t2.sub a (List.mem_append_left _ z) with q | q
        · exact nfo q
        · rw [q] at e; cases e
      · exact nR z
    · rcases t2.sub a (List.mem_append_right _ z) with q | q
      · exact nfo q
      · rw [q] at e; cases e
  have rpj' : Rp X.K X.mg H2 (hide (fv ++ R ++ (f1 ++ f' ++ f2)) H2) t (r.2.getD j .non) v' f' := rpj.mono (hide_sub key) fun _ _ => rfl
  have sl' := h2 (H' := H2) (G' := hide (fv ++ R ++ (f1 ++ f' ++ f2)) H2) (t' := t) (d' := r.2.getD j .non) (v' := v') (f' := f') (fun a ha => by
      obtain ⟨o, e, _⟩ := s1.own a (by
        simp only [List.mem_append] at ha ⊢
        rcases ha with h | h <;> simp [h])
      rw [e, H12 a (List.mem_append_right _ ha) o e]) le1 evi rpj'
  rw [set_at ht] at sl'
  have nfs2 : fs2.Nodup := (List.nodup_append.mp nd2).2.1
  have nf' : f'.Nodup := by
    rw [eg] at nfs2
    exact (List.nodup_append.mp (List.nodup_append.mp nfs2).1).2.1
  have ndA : (fv ++ (R ++ (f1 ++ f2))).Nodup := (List.nodup_append.mp nd2).1
  have nd3 : (fv ++ R ++ (f1 ++ f' ++ f2)).Nodup := by
    refine nodup_mid (fo := []) ?_ (fun a ha z => ?_) nf'
    · simp only [List.append_nil]
      rw [List.append_assoc]; exact ndA
    · refine (List.nodup_append.mp nd2).2.2 a ?_ a (hf' a ha) rfl
      rw [List.append_assoc] at z
      exact z
  refine q v H2 (f1 ++ f' ++ f2) fv (t1.trans ⟨fun a o n e => t2.ext a o (fun z => n (by simp [z])) e, fun a ha => ?_, t2.ne⟩) ⟨sl', nd3, fun a ha => ?_⟩ (rp2.mono (hide_sub key) fun _ _ => rfl)
  · rcases List.mem_append.mp ha with z | z
    · rcases t2.sub a (List.mem_append_left _ z) with q | q
      · exact .inl (by simp [q])
      · exact .inr q
    · simp only [List.mem_append] at z
      rcases z with (z | z) | z
      · exact .inl (by simp [z])
      · rcases t2.sub a (List.mem_append_right _ (hf' a z)) with q | q
        · exact .inl (by simp [q])
        · exact .inr q
      · exact .inl (by simp [z])
  · rcases List.mem_append.mp ha with z | z
    · exact s2.own a (by simp [z])
    · obtain ⟨o, e, w⟩ := s1.al a z
      exact ⟨o, H12 a (List.mem_append_left _ z) o e, w⟩
end
end TL

namespace TL
open PySem PySem.Spec PyProof.Rows L2

inductive Out where
  | nx (ρ : Rho) | bk (ρ : Rho) | ct (ρ : Rho) | rt (d : D) (ρ : Rho)
abbrev Sf := Rho → Option Out
/-- what holds throughout a def: the slots that stay (its changed parameters), the result's kind, the slots' kinds at a return; at a break, at a continue -/
structure Gm where
  io : List Nat
  ret : Ty
  rty : List Ty
  bk : List Ty := []
  ct : List Ty := []
def Kp (io : List Nat) (σ σ' : L2.St) : Prop := ∀ i ∈ io, σ'[i]? = σ[i]?
theorem Kp.refl (io : List Nat) (σ : L2.St) : Kp io σ σ := fun _ _ => rfl
theorem Kp.trans {io : List Nat} {a b c : L2.St} (h : Kp io a b) (k : Kp io b c) : Kp io a c := fun i hi => (k i hi).trans (h i hi)
/-- the end of a statement, seen from the state (σ0, H0, fs0) -/
def Post (X : Cx) (γ : Gm) (D : Ends) (R : List Addr) (σ0 : L2.St) (H0 : Hp) (fs0 : List Addr) (τ' : List Ty) : Out → Prop
  | .nx ρ' => ∀ σ' H' fs', Step H0 H' fs0 fs' → Kp γ.io σ0 σ' → SR X.K X.mg R τ' ρ' σ' H' fs' → D.nx σ' H'
  | .bk ρ' => ∀ σ' H' fs', Step H0 H' fs0 fs' → Kp γ.io σ0 σ' → SR X.K X.mg R γ.bk ρ' σ' H' fs' → D.bk σ' H'
  | .ct ρ' => ∀ σ' H' fs', Step H0 H' fs0 fs' → Kp γ.io σ0 σ' → SR X.K X.mg R γ.ct ρ' σ' H' fs' → D.ct σ' H'
  | .rt d ρ' => ∀ v σ' H' fs' fv, Step H0 H' fs0 (fv ++ fs') → Kp γ.io σ0 σ' → SR X.K X.mg (fv ++ R) γ.rty ρ' σ' H' fs' → Rp X.K X.mg H' (hide (fv ++ R ++ fs') H') γ.ret d v fv → D.rt v H'
def tS (X : Cx) (γ : Gm) (τ : List Ty) (f : Sf) (τ' : List Ty) : TS := fun D σ H => ∃ R ρ fs out, SR X.K X.mg R τ ρ σ H fs ∧ f ρ = some out ∧ Post X γ D R σ H fs τ' out
abbrev DS (X : Cx) (γ : Gm) (st : Stmt) (τ : List Ty) (f : Sf) (τ' : List Ty) : Prop := PS X st (tS X γ τ f τ')
abbrev DSs (X : Cx) (γ : Gm) (st : List Stmt) (τ : List Ty) (f : Sf) (τ' : List Ty) : Prop := PSs X st (tS X γ τ f τ')
theorem ps_imp {X : Cx} {e : Stmt} {t t' : TS} (h : PS X e t) (k : ∀ D σ H, t' D σ H → t D σ H) : PS X e t' := ⟨fun pins s σ H D I q => h.run pins s σ H D I (k D σ H q)⟩
theorem pss_imp {X : Cx} {e : List Stmt} {t t' : TS} (h : PSs X e t) (k : ∀ D σ H, t' D σ H → t D σ H) : PSs X e t' := ⟨fun pins s σ H D I q => h.run pins s σ H D I (k D σ H q)⟩
theorem Post.mono {X : Cx} {γ : Gm} {D D' : Ends} {R : List Addr} {σ0 σ1 : L2.St} {H0 H1 : Hp} {fs0 fs1 : List Addr} {τ' τ'' : List Ty} {o : Out} (t : Step H0 H1 fs0 fs1) (k : Kp γ.io σ0 σ1) (p : Post X γ D R σ0 H0 fs0 τ' o)
    (hn : ∀ ρ' σ' H' fs', o = .nx ρ' → Step H0 H' fs0 fs' → Kp γ.io σ0 σ' → SR X.K X.mg R τ'' ρ' σ' H' fs' → D'.nx σ' H') (hb : D'.bk = D.bk) (hc : D'.ct = D.ct) (hr : D'.rt = D.rt) : Post X γ D' R σ1 H1 fs1 τ'' o := by
  cases o with
  | nx ρ' => exact fun σ' H' fs' t' k' s' => hn ρ' σ' H' fs' rfl (t.trans t') (k.trans k') s'
  | bk ρ' => exact fun σ' H' fs' t' k' s' => by rw [hb]; exact p σ' H' fs' (t.trans t') (k.trans k') s'
  | ct ρ' => exact fun σ' H' fs' t' k' s' => by rw [hc]; exact p σ' H' fs' (t.trans t') (k.trans k') s'
  | rt d ρ' => exact fun v σ' H' fs' fv t' k' s' r => by rw [hr]; exact p v σ' H' fs' fv (t.trans t') (k.trans k') s' r

def sNil : Sf := fun ρ => some (.nx ρ)
def sSeq (f g : Sf) : Sf := fun ρ => (f ρ).bind fun o => match o with
  | .nx ρ' => g ρ'
  | o => some o
/-- slots forgotten behind a block -/
def sKl (ks : List Nat) (f : Sf) : Sf := fun ρ => (f ρ).bind fun o => match o with
  | .nx ρ' => some (.nx (kill ks ρ'))
  | o => some o
section
variable {X : Cx} {γ : Gm} {τ τ1 τ' : List Ty} {st : Stmt} {rest : List Stmt} {a b c e : Expr} {es : List Expr} {pos p : Pos}
theorem dss_nil : DSs X γ [] τ sNil τ := pss_imp pss_nil fun D σ H ⟨R, ρ, fs, o, s, e, q⟩ => by
  cases e
  exact q σ H fs (Step.refl H fs) (Kp.refl _ _) s
theorem dss_cons {f g : Sf} (h1 : DS X γ st τ f τ1) (h2 : DSs X γ rest τ1 g τ') : DSs X γ (st :: rest) τ (sSeq f g) τ' := pss_imp (pss_cons h1 h2) fun D σ H ⟨R, ρ, fs, o, s, e, q⟩ => by
  obtain ⟨o1, e1, e2⟩ := bindO e
  refine ⟨R, ρ, fs, o1, s, e1, ?_⟩
  cases o1 with
  | nx ρ1 => exact fun σ1 H1 fs1 t1 k1 s1 => ⟨R, ρ1, fs1, o, s1, e2, q.mono t1 k1 (fun ρ' σ' H' fs' eo t' k' s' => by subst eo; exact q σ' H' fs' t' k' s') rfl rfl rfl⟩
  | bk ρ1 => cases e2; exact q
  | ct ρ1 => cases e2; exact q
  | rt d ρ1 => cases e2; exact q
theorem dss_one {f : Sf} (h1 : DS X γ st τ f τ') : DSs X γ [st] τ f τ' := pss_imp (pss_one h1) fun D σ H q => q
theorem dss_kill {sts : List Stmt} {f : Sf} (ks : List Nat) (h : DSs X γ sts τ f τ1) (ht : killT ks τ1 = τ' := by rfl) : DSs X γ sts τ (sKl ks f) τ' := pss_imp h fun D σ H ⟨R, ρ, fs, o, s, e, q⟩ => by
  obtain ⟨o1, e1, e2⟩ := bindO e
  refine ⟨R, ρ, fs, o1, s, e1, ?_⟩
  cases o1 with
  | nx ρ1 =>
    cases e2
    intro σ1 H1 fs1 t1 k1 s1
    obtain ⟨fs2, s2, sub⟩ := s1.killS ks
    rw [ht] at s2
    exact q σ1 H1 fs2 (t1.less sub) k1 s2
  | bk ρ1 => cases e2; exact q
  | ct ρ1 => cases e2; exact q
  | rt d ρ1 => cases e2; exact q
/-- an owned slot given away ahead of a block -/
theorem dss_frz {sts : List Stmt} {f : Sf} (i : Nat) {t : Ty} (h : DSs X γ sts (τ.set i .sh) f τ') (ht : τ[i]? = some t := by rfl) (hn : t ≠ .no := by intro z; cases z) : DSs X γ sts τ f τ' := pss_imp h fun D σ H ⟨R, ρ, fs, o, s, e, q⟩ => by
  obtain ⟨fs1, s1, sub⟩ := s.frz ht hn
  exact ⟨R, ρ, fs1, o, s1, e, q.mono ((Step.refl H fs).less sub) (Kp.refl _ _) (fun ρ' σ' H' fs' eo t' k' s' => by subst eo; exact q σ' H' fs' t' k' s') rfl rfl rfl⟩
theorem ds_frz {f : Sf} (i : Nat) {t : Ty} (h : DS X γ st (τ.set i .sh) f τ') (ht : τ[i]? = some t := by rfl) (hn : t ≠ .no := by intro z; cases z) : DS X γ st τ f τ' := ps_imp h fun D σ H ⟨R, ρ, fs, o, s, e, q⟩ => by
  obtain ⟨fs1, s1, sub⟩ := s.frz ht hn
  exact ⟨R, ρ, fs1, o, s1, e, q.mono ((Step.refl H fs).less sub) (Kp.refl _ _) (fun ρ' σ' H' fs' eo t' k' s' => by subst eo; exact q σ' H' fs' t' k' s') rfl rfl rfl⟩

/-! ### small statements -/
def sPass : Sf := fun ρ => some (.nx ρ)
def sBrk : Sf := fun ρ => some (.bk ρ)
def sCont : Sf := fun ρ => some (.ct ρ)
theorem ds_pass : DS X γ (.Pass pos) τ sPass τ := ps_imp ps_pass fun D σ H ⟨R, ρ, fs, o, s, e, q⟩ => by
  cases e
  exact q σ H fs (Step.refl H fs) (Kp.refl _ _) s
theorem ds_brk (h : γ.bk = τ := by rfl) : DS X γ (.Break pos) τ sBrk τ' := ps_imp ps_break fun D σ H ⟨R, ρ, fs, o, s, e, q⟩ => by
  cases e
  exact q σ H fs (Step.refl H fs) (Kp.refl _ _) (by rw [h]; exact s)
theorem ds_cont (h : γ.ct = τ := by rfl) : DS X γ (.Continue pos) τ sCont τ' := ps_imp ps_continue fun D σ H ⟨R, ρ, fs, o, s, e, q⟩ => by
  cases e
  exact q σ H fs (Step.refl H fs) (Kp.refl _ _) (by rw [h]; exact s)
/-- what a return needs: the changed parameters are still owned -/
def LeT : List Ty → List Ty → Prop
  | [], [] => True
  | .no :: r, _ :: s => LeT r s
  | t :: r, u :: s => t = u ∧ LeT r s
  | _, _ => False
mutual
def tyEq : Ty → Ty → Bool
  | .no, .no => true
  | .sh, .sh => true
  | .oL a, .oL b => tyEq a b
  | .oK a, .oK b => tyEq a b
  | .oT a, .oT b => tyEq a b
  | .oO c l, .oO d m => c == d && tyEqs l m
  | _, _ => false
def tyEqs : List Ty → List Ty → Bool
  | [], [] => true
  | a :: l, b :: m => tyEq a b && tyEqs l m
  | _, _ => false
end
mutual
theorem tyEq_ok : ∀ {a b : Ty}, tyEq a b = true → a = b
  | .no, .no, _ => rfl
  | .sh, .sh, _ => rfl
  | .oL a, .oL b, h => by rw [tyEq_ok (a := a) (b := b) (by simpa [tyEq] using h)]
  | .oK a, .oK b, h => by rw [tyEq_ok (a := a) (b := b) (by simpa [tyEq] using h)]
  | .oT a, .oT b, h => by rw [tyEq_ok (a := a) (b := b) (by simpa [tyEq] using h)]
  | .oO c l, .oO d m, h => by
    have h' : (c == d) = true ∧ tyEqs l m = true := by simpa [tyEq] using h
    rw [tyEqs_ok h'.2, eq_of_beq h'.1]
  | .no, .sh, h | .no, .oL _, h | .no, .oK _, h | .no, .oT _, h | .no, .oO _ _, h => by simp [tyEq] at h
  | .sh, .no, h | .sh, .oL _, h | .sh, .oK _, h | .sh, .oT _, h | .sh, .oO _ _, h => by simp [tyEq] at h
  | .oL _, .no, h | .oL _, .sh, h | .oL _, .oK _, h | .oL _, .oT _, h | .oL _, .oO _ _, h => by simp [tyEq] at h
  | .oK _, .no, h | .oK _, .sh, h | .oK _, .oL _, h | .oK _, .oT _, h | .oK _, .oO _ _, h => by simp [tyEq] at h
  | .oT _, .no, h | .oT _, .sh, h | .oT _, .oL _, h | .oT _, .oK _, h | .oT _, .oO _ _, h => by simp [tyEq] at h
  | .oO _ _, .no, h | .oO _ _, .sh, h | .oO _ _, .oL _, h | .oO _ _, .oK _, h | .oO _ _, .oT _, h => by simp [tyEq] at h
theorem tyEqs_ok : ∀ {a b : List Ty}, tyEqs a b = true → a = b
  | [], [], _ => rfl
  | a :: l, b :: m, h => by
    have h' : tyEq a b = true ∧ tyEqs l m = true := by simpa [tyEqs] using h
    rw [tyEq_ok h'.1, tyEqs_ok h'.2]
  | [], _ :: _, h | _ :: _, [], h => by simp [tyEqs] at h
end
def leTb : List Ty → List Ty → Bool
  | [], [] => true
  | .no :: r, _ :: s => leTb r s
  | t :: r, u :: s => tyEq t u && leTb r s
  | _, _ => false
theorem leTb_ok : ∀ {a b : List Ty}, leTb a b = true → LeT a b
  | [], [], _ => trivial
  | [], _ :: _, h => by cases h
  | t :: r, [], h => by cases t <;> cases h
  | .no :: r, _ :: s, h => leTb_ok (a := r) (b := s) h
  | .sh :: r, u :: s, h => by
    have h' : tyEq .sh u = true ∧ leTb r s = true := by simpa [leTb] using h
    exact ⟨tyEq_ok h'.1, leTb_ok h'.2⟩
  | .oL t :: r, u :: s, h => by
    have h' : tyEq (.oL t) u = true ∧ leTb r s = true := by simpa [leTb] using h
    exact ⟨tyEq_ok h'.1, leTb_ok h'.2⟩
  | .oK t :: r, u :: s, h => by
    have h' : tyEq (.oK t) u = true ∧ leTb r s = true := by simpa [leTb] using h
    exact ⟨tyEq_ok h'.1, leTb_ok h'.2⟩
  | .oT t :: r, u :: s, h => by
    have h' : tyEq (.oT t) u = true ∧ leTb r s = true := by simpa [leTb] using h
    exact ⟨tyEq_ok h'.1, leTb_ok h'.2⟩
  | .oO c t :: r, u :: s, h => by
    have h' : tyEq (.oO c t) u = true ∧ leTb r s = true := by simpa [leTb] using h
    exact ⟨tyEq_ok h'.1, leTb_ok h'.2⟩
theorem SR.leT {K : PySem.W.Frag} {mg : Str → Option Value} {R : List Addr} : ∀ {τ τ' : List Ty} {ρ : Rho} {σ : L2.St} {H : Hp} {fs : List Addr}, SR K mg R τ ρ σ H fs → LeT τ' τ → ∃ fs', SR K mg R τ' ρ σ H fs' ∧ ∀ a ∈ fs', a ∈ fs := by
  intro τ τ' ρ σ H fs s l
  have main : ∀ {τ τ' : List Ty} {ρ : Rho} {σ : L2.St} {f : List Addr} {G : Hp}, Sl K mg H G τ ρ σ f → LeT τ' τ → ∃ f', f'.Sublist f ∧ ∀ {G' : Hp}, Le G G' → Sl K mg H G' τ' ρ σ f' := by
    intro τ τ' ρ σ f G s
    induction s generalizing τ' with
    | nil =>
      intro l
      cases τ' with
      | nil => exact ⟨[], .slnil, fun _ => .nil⟩
      | cons t r => cases t <;> exact l.elim
    | no _ ih =>
      intro l
      cases τ' with
      | nil => exact l.elim
      | cons t r =>
        cases t with
        | no =>
          obtain ⟨f', sb, k⟩ := ih l
          exact ⟨f', sb, fun le => .no (k le)⟩
        | _ => cases l.1
    | cons h _ ih =>
      intro l
      cases τ' with
      | nil => exact l.elim
      | cons t r =>
        cases t with
        | no =>
          obtain ⟨f', sb, k⟩ := ih l
          exact ⟨f', sb.trans (List.sublist_append_right _ _), fun le => .no (k le)⟩
        | _ =>
          obtain ⟨e, l⟩ := l
          subst e
          obtain ⟨f', sb, k⟩ := ih l
          exact ⟨_ ++ f', (List.Sublist.refl _).append sb, fun le => .cons (h.mono le fun _ _ => rfl) (k le)⟩
  obtain ⟨f', sb, k⟩ := main s.sl l
  refine ⟨f', ⟨k (hide_sub fun a ha => ?_), ((List.Sublist.refl R).append sb).nodup s.nd, s.al⟩, fun a ha => sb.subset ha⟩
  rcases List.mem_append.mp ha with z | z
  · exact List.mem_append_left _ z
  · exact List.mem_append_right _ (sb.subset z)
def sRet (f : Ef) : Sf := fun ρ => (f ρ).bind fun p => match p.1 with
  | .v d => some (.rt d p.2)
  | _ => none
def sRetO (f : Of) : Sf := fun ρ => (f ρ).bind fun p => some (.rt p.1 p.2)
theorem ds_ret {f : Ef} (h : DE X e τ f) (hr : γ.ret = .sh := by rfl) (hl : leTb γ.rty τ = true := by rfl) : DS X γ (.Return (some e) pos) τ (sRet f) τ' := ps_imp (ps_ret h) fun D σ H ⟨R, ρ, fs, o, s, e, q⟩ => by
  obtain ⟨p, e1, e2⟩ := bindO e
  obtain ⟨p1, p2⟩ := p
  cases p1 with
  | x i => cases e2
  | v d =>
    cases e2
    refine ⟨R, ρ, fs, _, _, s, e1, fun v H1 fs1 t1 s1 r => ?_⟩
    obtain ⟨fs2, s2, sub⟩ := s1.leT (leTb_ok hl)
    refine q v σ H1 fs2 [] (t1.less sub) (Kp.refl _ _) s2 ?_
    rw [hr]
    exact .sh (Rf.mono (hide_sub fun a ha => by
      simp only [List.nil_append, List.mem_append] at ha ⊢
      exact ha.imp id (sub a)) r)
theorem ds_retO {f : Of} {t : Ty} (h : DO X e τ f t) (hr : γ.ret = t := by rfl) (hl : leTb γ.rty τ = true := by rfl) : DS X γ (.Return (some e) pos) τ (sRetO f) τ' := ps_imp (ps_ret h) fun D σ H ⟨R, ρ, fs, o, s, e, q⟩ => by
  obtain ⟨p, e1, e2⟩ := bindO e
  cases e2
  refine ⟨R, ρ, fs, p.1, p.2, s, e1, fun v H1 fs1 fv t1 s1 r => ?_⟩
  obtain ⟨fs2, s2, sub⟩ := s1.leT (leTb_ok hl)
  refine q v σ H1 fs2 fv (t1.less fun a ha => (List.mem_append.mp ha).elim (fun z => by simp [z]) fun z => by simp [sub a z]) (Kp.refl _ _) s2 ?_
  rw [hr]
  exact r.mono (hide_sub fun a ha => by
    simp only [List.mem_append] at ha ⊢
    exact ha.imp id (sub a)) fun _ _ => rfl
/-- an owned slot is the result -/
def sRetX (i : Nat) : Sf := fun ρ => some (.rt (ρ.getD i .non) ρ)
theorem ds_retX (i : Nat) {t : Ty} (h : PE X e (tVar i)) (ht : τ[i]? = some t := by rfl) (hn : t ≠ .no := by intro z; cases z) (hr : γ.ret = t := by rfl) (hl : leTb γ.rty (τ.set i .no) = true := by rfl) : DS X γ (.Return (some e) pos) τ (sRetX i) τ' := ps_imp (ps_ret h) fun D σ H ⟨R, ρ, fs, o, s, e, q⟩ => by
  cases e
  obtain ⟨f1, fo, f2, ef, ho, hl2, h1, h2, h3⟩ := s.sl.split ht
  rcases ho with ⟨z, _⟩ | ⟨v, ev, r⟩
  · exact absurd z hn
  subst ef
  refine ⟨v, ev, ?_⟩
  have nd := s.nd
  have mem : ∀ a, a ∈ fo ++ R ++ (f1 ++ f2) → a ∈ R ++ (f1 ++ fo ++ f2) := fun a ha => by
    simp only [List.mem_append] at ha ⊢
    rcases ha with (h | h) | h | h <;> simp [h]
  have sK := h3 (H' := H) (G' := hide (fo ++ R ++ (f1 ++ f2)) H) (d' := ρ.getD i .non) (fun _ _ => rfl) (hide_sub mem)
  rw [set_getD] at sK
  have pm : (fo ++ R ++ (f1 ++ f2)).Perm (R ++ (f1 ++ fo ++ f2)) := by
    rw [List.append_assoc, List.append_assoc, ← List.append_assoc R f1, ← List.append_assoc R f1, ← List.append_assoc (R ++ f1) fo f2]
    refine (List.perm_append_comm (l₁ := fo) (l₂ := R ++ f1 ++ f2)).trans ?_
    rw [List.append_assoc (R ++ f1) f2 fo, List.append_assoc (R ++ f1) fo f2]
    exact List.Perm.append_left _ List.perm_append_comm
  have s' : SR X.K X.mg (fo ++ R) (τ.set i .no) ρ σ H (f1 ++ f2) := ⟨sK, pm.nodup_iff.mpr nd, fun a ha => s.own a (mem a (List.mem_append_left _ ha))⟩
  obtain ⟨fs2, s2, sub⟩ := s'.leT (leTb_ok hl)
  refine q v σ H fs2 fo ((Step.refl H _).less fun a ha => ?_) (Kp.refl _ _) s2 ?_
  · rcases List.mem_append.mp ha with z | z
    · simp [z]
    · have := sub a z
      simp only [List.mem_append] at this ⊢
      rcases this with h | h <;> simp [h]
  · rw [hr]
    exact r.mono (hide_sub fun a ha => mem a (by
      rcases List.mem_append.mp ha with z | z
      · exact List.mem_append_left _ z
      · exact List.mem_append_right _ (sub a z))) fun _ _ => rfl
def sRetN : Sf := fun ρ => some (.rt .non ρ)
theorem ds_retN (hr : γ.ret = .sh := by rfl) (hl : leTb γ.rty τ = true := by rfl) : DS X γ (.Return none pos) τ sRetN τ' := ps_imp ps_retN fun D σ H ⟨R, ρ, fs, o, s, e, q⟩ => by
  cases e
  obtain ⟨fs2, s2, sub⟩ := s.leT (leTb_ok hl)
  refine q .non σ H fs2 [] ((Step.refl H fs).less sub) (Kp.refl _ _) s2 ?_
  rw [hr]
  exact .sh .non
/-! an expression whose value is dropped -/
def sDrop (f : Ef) : Sf := fun ρ => (f ρ).bind fun p => some (.nx p.2)
theorem ds_drop {f : Ef} (h : DE X e τ f) (hs : swapsWith e none pos.line X.env = pure false := by rfl) : DS X γ (.Expr e pos) τ (sDrop f) τ := ps_imp (ps_expr h hs) fun D σ H ⟨R, ρ, fs, o, s, e, q⟩ => by
  obtain ⟨p, e1, e2⟩ := bindO e
  cases e2
  exact ⟨R, ρ, fs, p.1, p.2, s, e1, fun v H1 fs1 t1 s1 r => q σ H1 fs1 t1 (Kp.refl _ _) s1⟩
/-! if -/
def sIf (t : Tf) (f g : Sf) : Sf := fun ρ => (t ρ).bind fun p => if p.1 then f p.2 else g p.2
theorem ds_if {t : Tf} {f g : Sf} {sa sb : List Stmt} (hc : DT X c τ t) (ha : DSs X γ sa τ f τ') (hb : DSs X γ sb τ g τ') : DS X γ (.If c sa sb pos) τ (sIf t f g) τ' := ps_imp (ps_if hc ha hb) fun D σ H ⟨R, ρ, fs, o, s, e, q⟩ => by
  obtain ⟨p, e1, e2⟩ := bindO e
  refine ⟨R, ρ, fs, p.1, p.2, s, e1, fun H1 fs1 t1 s1 => ?_⟩
  have q1 : Post X γ D R σ H1 fs1 τ' o := q.mono t1 (Kp.refl _ _) (fun ρ' σ' H' fs' eo t' k' s' => by subst eo; exact q σ' H' fs' t' k' s') rfl rfl rfl
  cases hp : p.1 with
  | true => rw [hp] at e2; exact iteT ⟨R, p.2, fs1, o, s1, e2, q1⟩
  | false => rw [hp] at e2; exact iteF ⟨R, p.2, fs1, o, s1, e2, q1⟩

/-! ### targets -/
abbrev Gf := D → Rho → Option Rho
def tG (X : Cx) (io : List Nat) (τ : List Ty) (g : Gf) (τ' : List Ty) : TG := fun v σ H Q => ∃ R ρ fs d ρ', SR X.K X.mg R τ ρ σ H fs ∧ Rf X.K X.mg (hide (R ++ fs) H) d v ∧ g d ρ = some ρ' ∧
  ∀ σ' fs', (∀ a ∈ fs', a ∈ fs) → Kp io σ σ' → SR X.K X.mg R τ' ρ' σ' H fs' → Q σ' H
abbrev DG (X : Cx) (io : List Nat) (target : Expr) (τ : List Ty) (g : Gf) (τ' : List Ty) : Prop := PG X target (tG X io τ g τ')
theorem pg_imp {X : Cx} {e : Expr} {t t' : TG} (h : PG X e t) (k : ∀ v σ H Q, t' v σ H Q → t v σ H Q) : PG X e t' := ⟨fun pins s σ H v u Q I r q => h.run pins s σ H v u Q I r (k v σ H Q q)⟩
def gNm (i : Nat) : Gf := fun d ρ => some (ρ.set i d)
theorem dg_name {io : List Nat} (i : Nat) {x : Str} (hN : X.N.Nodup) (hi : X.N[i]? = some x) (hx : Loc X.env.scope x) (ht : i < τ.length := by decide) (hio : i ∉ io := by decide) (hf : X.fn x = true ∨ X.env.scope.names.lookup x = some .local := by first | exact .inl rfl | exact .inr rfl | assumption) : DG X io (.Name x pos) τ (gNm i) (τ.set i .sh) := pg_imp (pg_name hN hi hx hf) fun v σ H Q ⟨R, ρ, fs, d, ρ', s, r, e, q⟩ => by
  cases e
  obtain ⟨fs', s', sub⟩ := SR.put (fv := []) (t := .sh) (d := d) (v := v) (i := i) s ht (.sh r)
  refine q _ fs' (fun a ha => by simpa using sub a ha) (fun j hj => ?_) s'
  exact List.getElem?_set_ne (i := i) (j := j) (fun z => hio (by rw [z]; exact hj))
def tGs (X : Cx) (io : List Nat) (τ : List Ty) (g : List D → Rho → Option Rho) (τ' : List Ty) : TGs := fun vs σ H Q => ∃ R ρ fs ds ρ', SR X.K X.mg R τ ρ σ H fs ∧ Rfs X.K X.mg (hide (R ++ fs) H) ds vs ∧ g ds ρ = some ρ' ∧
  ∀ σ' fs', (∀ a ∈ fs', a ∈ fs) → Kp io σ σ' → SR X.K X.mg R τ' ρ' σ' H fs' → Q σ' H
abbrev DGs (X : Cx) (io : List Nat) (ts : List Expr) (τ : List Ty) (g : List D → Rho → Option Rho) (τ' : List Ty) : Prop := PGs X ts (tGs X io τ g τ')
theorem pgs_imp {X : Cx} {e : List Expr} {t t' : TGs} (h : PGs X e t) (k : ∀ v σ H Q, t' v σ H Q → t v σ H Q) : PGs X e t' := ⟨fun pins s σ H v u Q I r q => h.run pins s σ H v u Q I r (k v σ H Q q)⟩
def gsNil : List D → Rho → Option Rho := fun ds ρ => match ds with
  | [] => some ρ
  | _ => none
def gsCons (g : Gf) (h : List D → Rho → Option Rho) : List D → Rho → Option Rho := fun ds ρ => match ds with
  | d :: r => (g d ρ).bind fun ρ' => h r ρ'
  | [] => none
theorem dgs_nil {io : List Nat} : DGs X io [] τ gsNil τ := pgs_imp pgs_nil fun v σ H Q ⟨R, ρ, fs, ds, ρ', s, r, e, q⟩ => by
  cases r with
  | nil => cases e; exact ⟨rfl, q σ fs (fun _ h => h) (Kp.refl _ _) s⟩
  | cons _ _ => cases e
theorem dgs_cons {io : List Nat} {g : Gf} {h : List D → Rho → Option Rho} (h1 : DG X io e τ g τ1) (h2 : DGs X io es τ1 h τ') (hs : (assignEach (e :: es) X.env).map (·.2) = assign e X.env :: (assignEach es X.env).map (·.2) := by rfl) : DGs X io (e :: es) τ (gsCons g h) τ' := pgs_imp (pgs_cons h1 h2 hs) fun v σ H Q ⟨R, ρ, fs, ds, ρ', s, r, e, q⟩ => by
  cases r with
  | nil => cases e
  | cons r rs =>
    obtain ⟨ρ1, e1, e2⟩ := bindO e
    refine ⟨_, _, rfl, R, ρ, fs, _, ρ1, s, r, e1, fun σ1 fs1 sub1 k1 s1 => ⟨R, ρ1, fs1, _, ρ', s1, rs.mono (hide_sub fun a ha => ?_), e2, fun σ2 fs2 sub2 k2 s2 => q σ2 fs2 (fun a ha => sub1 a (sub2 a ha)) (k1.trans k2) s2⟩⟩
    rcases List.mem_append.mp ha with z | z
    · exact List.mem_append_left _ z
    · exact List.mem_append_right _ (sub1 a z)
def gTp (g : List D → Rho → Option Rho) : Gf := fun d ρ => match d with
  | .tup ds => g ds ρ
  | _ => none
theorem gs_len {n : Nat} {io : List Nat} {g : List D → Rho → Option Rho} (hn : ∀ ds ρ ρ', g ds ρ = some ρ' → ds.length = n) {ds : List D} {ρ ρ' : Rho} (e : g ds ρ = some ρ') : ds.length = n := hn ds ρ ρ' e
theorem gsNil_len : ∀ ds ρ ρ', gsNil ds ρ = some ρ' → ds.length = 0 := fun ds ρ ρ' e => by
  cases ds with
  | nil => rfl
  | cons _ _ => cases e
theorem gsCons_len {g : Gf} {h : List D → Rho → Option Rho} {n : Nat} (k : ∀ ds ρ ρ', h ds ρ = some ρ' → ds.length = n) : ∀ ds ρ ρ', gsCons g h ds ρ = some ρ' → ds.length = n + 1 := fun ds ρ ρ' e => by
  cases ds with
  | nil => cases e
  | cons d r =>
    obtain ⟨ρ1, _, e2⟩ := bindO e
    simp [k _ _ _ e2]
theorem dg_tup {io : List Nat} {g : List D → Rho → Option Rho} {kk : Nat} {n : Nat} (hc : X.calm = true) (h : DGs X io es τ g τ') (hl : ∀ ds ρ ρ', g ds ρ = some ρ' → ds.length = n)
    (hn : (assignEach es X.env).length = n := by rfl) (hst : (assignEach es X.env).findIdx? (·.1) = none := by rfl) : DG X io (.Tuple es kk pos) τ (gTp g) τ' := pg_imp (pg_tup hc h hn hst) fun v σ H Q ⟨R, ρ, fs, d, ρ', s, r, e, q⟩ => by
  cases d with
  | tup ds =>
    cases r with
    | tup hT r => exact ⟨_, _, rfl, (hide_le _ _).seqT hT, by rw [← r.length]; exact hl _ _ _ e, R, ρ, fs, ds, ρ', s, r, e, q⟩
  | _ => cases e
/-! ### assignments -/
def sAsg (f : Ef) (g : Gf) : Sf := fun ρ => (f ρ).bind fun p => match p.1 with
  | .v d => (g d p.2).bind fun ρ' => some (.nx ρ')
  | _ => none
theorem sAsg_inv {f : Ef} {g : Gf} {ρ : Rho} {o : Out} (e : sAsg f g ρ = some o) : ∃ d ρ1 ρ', f ρ = some (.v d, ρ1) ∧ g d ρ1 = some ρ' ∧ o = .nx ρ' := by
  obtain ⟨p, e1, e2⟩ := bindO e
  obtain ⟨p1, p2⟩ := p
  cases p1 with
  | x i => cases e2
  | v d =>
    obtain ⟨ρ', e3, e4⟩ := bindO e2
    cases e4
    exact ⟨d, p2, ρ', e1, e3, rfl⟩
theorem tAsg_of {f : Ef} {g : Gf} : ∀ D σ H, tS X γ τ (sAsg f g) τ' D σ H → tAsg (tD X τ f) (tG X γ.io τ g τ') D σ H := fun D σ H ⟨R, ρ, fs, o, s, e, q⟩ => by
  obtain ⟨d, ρ1, ρ', e1, e2, rfl⟩ := sAsg_inv e
  exact ⟨R, ρ, fs, _, _, s, e1, fun v H1 fs1 t1 s1 r => ⟨R, ρ1, fs1, d, ρ', s1, r, e2, fun σ' fs' sub k s' => q σ' H1 fs' (t1.less sub) k s'⟩⟩
theorem ds_asg {f : Ef} {g : Gf} {tg : Expr} (he : DE X e τ f) (hg : DG X γ.io tg τ g τ') (hs : swapsWithSole [tg] e pos.line X.env = pure false := by rfl) (hw : swappedStores [tg] e X.env = pure none := by rfl)
    (h1 : (assignEach [tg] X.env).map (·.2) = [assign tg X.env] := by rfl) : DS X γ (.Assign [tg] e pos) τ (sAsg f g) τ' := ps_imp (ps_asg he hg hs hw h1) tAsg_of
theorem ds_set {f : Ef} {x : Str} {pos' : Pos} (i : Nat) (hN : X.N.Nodup) (hi : X.N[i]? = some x) (hx : Loc X.env.scope x) (he : DE X e τ f) (hs : swapsWith e (some (.Name x pos')) pos.line X.env = pure false := by rfl) (ht : i < τ.length := by decide) (hio : i ∉ γ.io := by decide) (hf : X.fn x = true ∨ X.env.scope.names.lookup x = some .local := by first | exact .inl rfl | exact .inr rfl | assumption) :
    DS X γ (.Assign [.Name x pos'] e pos) τ (sAsg f (gNm i)) (τ.set i .sh) := ps_imp (ps_set hN hi hx he hs hf) fun D σ H ⟨R, ρ, fs, o, s, e, q⟩ => by
  obtain ⟨d, ρ1, ρ', e1, e2, rfl⟩ := sAsg_inv e
  cases e2
  refine ⟨R, ρ, fs, _, _, s, e1, fun v H1 fs1 t1 s1 r => ?_⟩
  obtain ⟨fs', s', sub⟩ := SR.put (fv := []) (t := .sh) (d := d) (v := v) (i := i) s1 ht (.sh r)
  exact q _ H1 fs' (t1.less fun a ha => by simpa using sub a ha) (fun j hj => List.getElem?_set_ne (i := i) (j := j) (fun z => hio (by rw [z]; exact hj))) s'
/-! an owned value into a slot -/
def sSetO (i : Nat) (f : Of) : Sf := fun ρ => (f ρ).bind fun p => some (.nx (p.2.set i p.1))
theorem setO_of {f : Of} {t : Ty} (i : Nat) (ht : i < τ.length) (hio : i ∉ γ.io) : ∀ D σ H, tS X γ τ (sSetO i f) (τ.set i t) D σ H → tAsg (tO X τ f t) (gName i) D σ H := fun D σ H ⟨R, ρ, fs, o, s, e, q⟩ => by
  obtain ⟨p, e1, e2⟩ := bindO e
  cases e2
  refine ⟨R, ρ, fs, p.1, p.2, s, e1, fun v H1 fs1 fv t1 s1 r => ?_⟩
  obtain ⟨fs', s', sub⟩ := SR.put s1 ht r
  exact q _ H1 fs' (t1.less sub) (fun j hj => List.getElem?_set_ne (i := i) (j := j) (fun z => hio (by rw [z]; exact hj))) s'
theorem ds_setO {f : Of} {t : Ty} {x : Str} {pos' : Pos} (i : Nat) (hN : X.N.Nodup) (hi : X.N[i]? = some x) (hx : Loc X.env.scope x) (he : DO X e τ f t) (hs : swapsWith e (some (.Name x pos')) pos.line X.env = pure false := by rfl) (ht : i < τ.length := by decide) (hio : i ∉ γ.io := by decide) (hf : X.fn x = true ∨ X.env.scope.names.lookup x = some .local := by first | exact .inl rfl | exact .inr rfl | assumption) :
    DS X γ (.Assign [.Name x pos'] e pos) τ (sSetO i f) (τ.set i t) := ps_imp (ps_set hN hi hx he hs hf) (setO_of i ht hio)
/-! ### a list grows, an item is stored -/
def sApp (i : Nat) (f : Ef) : Sf := fun ρ => (f ρ).bind fun p => match p.1, p.2.getD i .non with
  | .v d, .lst l => if okLen (l.length + 1) then some (.nx (p.2.set i (.lst (l ++ [d])))) else none
  | _, _ => none
theorem SR.write {K : PySem.W.Frag} {mg : Str → Option Value} {R : List Addr} {ρ : Rho} {σ : L2.St} {H : Hp} {fs : List Addr} {i : Nat} {v : V} (s : SR K mg R τ ρ σ H fs) {t : Ty} (ht : τ[i]? = some t) {a0 : Addr} {f : List Addr} (ev : σ[i]? = some (some v)) {d : D} {f1 fo f2 : List Addr} (ef : fs = f1 ++ (a0 :: fo) ++ f2)
    {o : HO} {d' : D} (w : Own o) (h2 : ∀ {H' G' : Hp} {t' : Ty} {d' : D} {v' : V} {f' : List Addr}, (∀ a ∈ f1 ++ f2, H' a = H a) → Le (hide (R ++ fs) H) G' → σ[i]? = some (some v') → Rp K mg H' G' t' d' v' f' → Sl K mg H' G' (τ.set i t') (ρ.set i d') σ (f1 ++ f' ++ f2))
    (rp : Rp K mg (upd H a0 o) (hide (R ++ fs) (upd H a0 o)) t d' v (a0 :: fo)) : SR K mg R τ (ρ.set i d') σ (upd H a0 o) fs ∧ Step H (upd H a0 o) fs fs := by
  have nd := s.nd
  have ia : a0 ∈ fs := by rw [ef]; simp
  have nf : ∀ a ∈ f1 ++ f2, a ≠ a0 := fun a ha z => by
    subst z
    rw [ef] at nd
    simp only [List.nodup_append, List.mem_append, List.mem_cons] at nd
    rcases List.mem_append.mp ha with h | h
    · exact nd.2.1.1.2.2 a h a (.inl rfl) rfl
    · exact nd.2.1.2.2 a (.inr (.inl rfl)) a h rfl
  have nR : ∀ a ∈ R, a ≠ a0 := fun a ha z => by
    subst z
    exact (List.nodup_append.mp nd).2.2 a ha a ia rfl
  have le : Le (hide (R ++ fs) H) (hide (R ++ fs) (upd H a0 o)) := hide_mono fun a u n e => ⟨n, by
    rw [upd_ne fun z => n (by rw [z]; exact List.mem_append_right _ ia)]; exact e⟩
  have q := h2 (fun a ha => upd_ne (nf a ha)) le ev rp
  rw [set_at ht, ← ef] at q
  refine ⟨⟨q, nd, fun a ha => ?_⟩, ⟨fun a u n e => ?_, fun a ha => .inl ha, fun a u e => ?_⟩⟩
  · obtain ⟨u, e, w⟩ := s.al a ha
    exact ⟨u, by rw [upd_ne (nR a ha)]; exact e, w⟩
  · rw [upd_ne fun z => n (by rw [z]; exact ia)]; exact e
  · by_cases z : a = a0
    · exact ⟨o, by rw [z, upd_same]⟩
    · exact ⟨u, by rw [upd_ne z]; exact e⟩
theorem ds_app {f : Ef} {o : Expr} {apos cpos : Pos} (i : Nat) (ho : PE X o (tVar i)) (he : DE X e τ f) (ht : τ[i]? = some (.oL .sh) := by rfl) (hbase : attributeBase o "append" X.env (eval o X.env) = eval o X.env := by rfl)
    (hfew : ((backTo cpos (starEach [e] X.env)).all (fun x => !x.1) && (backToKw cpos (keywordEach [] X.env)).all (fun x => x.1.isSome)
      && decide ([e].length + ([] : List Keyword).length + (if ([] : List Keyword).isEmpty then 0 else 1) < 30)) = true := by rfl)
    (hline : (apos.endLine == cpos.line) = true := by rfl) (hs : starEach [e] X.env = (false, eval e X.env) :: starEach [] X.env := by rfl) :
    DS X γ (.Expr (.Call (.Attribute o "append" apos) [e] [] cpos) pos) τ (sApp i f) τ :=
  ps_imp (ps_expr (pe_bm PySem.F.plainAttrs_list PySem.F.slot_list_append PySem.F.type_list_append mt_append ho (pa_cons he pa_nil hs) hbase hfew hline hs rfl) rfl) fun D σ H ⟨R, ρ, fs, out, s, e, q⟩ => by
    obtain ⟨p, e1, e2⟩ := bindO e
    obtain ⟨p1, p2⟩ := p
    cases p1 with
    | x i => cases e2
    | v d =>
      obtain ⟨v0, f0, ev0, r0, _⟩ := s.get ht (by intro z; cases z)
      refine ⟨v0, ev0, ?_, R, ρ, fs, _, _, s, e1, fun v H1 fs1 t1 s1 r => ?_⟩
      · generalize ρ.getD i .non = d0 at r0
        cases r0 with
        | oL h _ => exact .inl ⟨rfl, _, .of h⟩
      · obtain ⟨f1, fo, f2, ef, hos, hl, _, h2, _⟩ := s1.sl.split ht
        rcases hos with ⟨z, _⟩ | ⟨v1, ev1, r1⟩
        · cases z
        rw [ev0] at ev1; cases ev1
        have e3 : (match p2.getD i .non with | .lst l => if okLen (l.length + 1) then some (Out.nx (p2.set i (.lst (l ++ [d])))) else none | _ => none) = some out := by
          revert e2
          cases p2.getD i .non <;> exact id
        clear e2
        revert r1 e3
        generalize p2.getD i .non = d0
        intro r1 e3
        cases r1 with
        | @oL t a vs ds g h rs =>
          obtain ⟨e4, e5⟩ := ifSome' e3
          cases e5
          obtain ⟨rf, eg⟩ := rs.to_sh
          subst eg
          have hl : vs.length < sizeLine := by
            rw [← rf.length]
            have := okLen_le e4
            omega
          refine ⟨a, vs, v, rfl, rfl, h, hl, ?_⟩
          have le : Le (hide (R ++ fs1) H1) (hide (R ++ fs1) (upd H1 a (.lst (vs ++ [v])))) := hide_mono fun b u n e => ⟨n, by
            rw [upd_ne fun z => n (by rw [z, ef]; simp)]; exact e⟩
          obtain ⟨sn, tn⟩ := s1.write ht (f := []) ev0 (d := d) ef (o := .lst (vs ++ [v])) (d' := .lst (ds ++ [d])) trivial h2 (.oL upd_same (Rps.of_sh ((rf.append (.one r)).mono le)))
          exact q σ _ fs1 (t1.trans tn) (Kp.refl _ _) sn
end
end TL

namespace TL
open PySem PySem.Spec PyProof.Rows L2

/-! ### walks -/
abbrev Itf := Rho → Option (List D × Rho)
def Walks (K : PySem.W.Frag) (mg : Str → Option Value) (J : It) (ds : List D) (G : Hp) : Prop := ∀ (i : Nat) (S : List Addr) (H : Hp), (∀ a ∈ S, ∃ o, H a = some o ∧ Own o) → Le G (hide S H) →
  (∀ d, ds[i]? = some d → J.go i H ∧ ∀ x H', J.yld i H x H' → Grow H H' ∧ Rf K mg (hide S H') d x) ∧ (ds.length ≤ i → J.stop i H)
def tI (X : Cx) (τ : List Ty) (it : Itf) : TI := fun σ H Q => ∃ R ρ fs ds ρ', SR X.K X.mg R τ ρ σ H fs ∧ it ρ = some (ds, ρ') ∧
  ∀ J H' fs', Step H H' fs fs' → SR X.K X.mg R τ ρ' σ H' fs' → Walks X.K X.mg J ds (hide (R ++ fs') H') → Q J H'
abbrev DI (X : Cx) (tg iter : Expr) (τ : List Ty) (it : Itf) : Prop := PI X tg iter (tI X τ it)
theorem pi_imp {X : Cx} {tg e : Expr} {t t' : TI} (h : PI X tg e t) (k : ∀ σ H Q, t' σ H Q → t σ H Q) : PI X tg e t' := ⟨fun pins s σ H R I q => h.run pins s σ H R I (k σ H R q)⟩
theorem pi_or {X : Cx} {tg e : Expr} {t t' : TI} (h : PI X tg e t) (h' : PI X tg e t') : PI X tg e (fun σ H Q => t σ H Q ∨ t' σ H Q) := ⟨fun pins s σ H R I q => q.elim (h.run pins s σ H R I) (h'.run pins s σ H R I)⟩
theorem walks_list {K : PySem.W.Frag} {mg : Str → Option Value} {G : Hp} {a : Addr} {vs : List V} {ds : List D} (h : G a = some (.lst vs)) (r : Rfs K mg G ds vs) : Walks K mg (Itl K a) ds G := fun i S H al le => by
  have hH : H a = some (.lst vs) := hide_le _ _ _ _ (le _ _ h)
  refine ⟨fun d e => ?_, fun e => ⟨vs, .of hH, by rw [← r.length]; exact e⟩⟩
  obtain ⟨v, ev, rv⟩ := r.get e
  refine ⟨⟨vs, v, .of hH, ev⟩, fun x H' ⟨e1, e2⟩ => ?_⟩
  subst e1
  have := e2 vs (.of hH)
  rw [ev] at this; cases this
  exact ⟨Grow.refl _, rv.mono le⟩
theorem walks_tup {K : PySem.W.Frag} {mg : Str → Option Value} {G : Hp} {a : Addr} {vs : List V} {ds : List D} (h : SqT K G a vs) (r : Rfs K mg G ds vs) : Walks K mg (Itt K a) ds G := fun i S H al le => by
  have hH : SqT K H a vs := (hide_le S H).seqT (le.seqT h)
  refine ⟨fun d e => ?_, fun e => ⟨vs, hH, by rw [← r.length]; exact e⟩⟩
  obtain ⟨v, ev, rv⟩ := r.get e
  refine ⟨⟨vs, v, hH, ev⟩, fun x H' ⟨e1, e2⟩ => ?_⟩
  subst e1
  have := e2 vs hH
  rw [ev] at this; cases this
  exact ⟨Grow.refl _, rv.mono le⟩
def seqD : Hd → Option (List D)
  | .v (.lst l) => some l
  | .v (.tup l) => some l
  | _ => none
def iSeq (f : Ef) : Itf := fun ρ => (f ρ).bind fun p => (seqD p.1).bind fun l => some (l, p.2)
section
variable {X : Cx} {γ : Gm} {τ τ1 τ' : List Ty} {tg a b c e : Expr} {es : List Expr} {pos p : Pos}
theorem di_seq {f : Ef} (h : DE X e τ f) : DI X tg e τ (iSeq f) := pi_imp (pi_or (pi_list h) (pi_tup h)) fun σ H Q ⟨R, ρ, fs, ds, ρ', s, e, q⟩ => by
  obtain ⟨p, e1, e2⟩ := bindO e
  obtain ⟨l, e3, e4⟩ := bindO e2
  cases e4
  obtain ⟨p1, p2⟩ := p
  cases p1 with
  | x i => cases e3
  | v d =>
    cases d with
    | lst l =>
      cases e3
      refine .inl ⟨R, ρ, fs, _, _, s, e1, fun v H' fs' t s' r => ?_⟩
      cases r with
      | lst h r => exact ⟨_, rfl, ⟨_, .of (hide_le _ _ _ _ h)⟩, q _ H' fs' t s' (walks_list h r)⟩
    | tup l =>
      cases e3
      refine .inr ⟨R, ρ, fs, _, _, s, e1, fun v H' fs' t s' r => ?_⟩
      cases r with
      | tup h r => exact ⟨_, rfl, ⟨_, (hide_le _ _).seqT h⟩, q _ H' fs' t s' (walks_tup h r)⟩
    | _ => cases e3
def intsD (lo : Int) (n : Nat) : List D := (List.range n).map fun i => D.int (lo + (i : Nat))
def small62 (i : Int) : Bool := Nat.ble i.natAbs 4611686018427387903
theorem walks_range {K : PySem.W.Frag} {mg : Str → Option Value} {G : Hp} (lo : Int) (n : Nat) : Walks K mg (Itr lo n) (intsD lo n) G := fun i S H al le => by
  refine ⟨fun d e => ?_, fun e => show n ≤ i by simpa [intsD] using e⟩
  unfold intsD at e
  rw [List.getElem?_map] at e
  by_cases hi : i < n
  · rw [List.getElem?_range hi] at e
    cases e
    refine ⟨hi, fun x H' ⟨e1, e2⟩ => ?_⟩
    subst e1; subst e2
    exact ⟨Grow.refl _, .int _⟩
  · rw [List.getElem?_eq_none (by simpa using hi)] at e
    cases e
def iRng1 (f : Af) : Itf := fun ρ => (f ρ).bind fun p => match p.1 with
  | [.v (.int j)] => if small62 j then some (intsD 0 j.toNat, p.2) else none
  | _ => none
def iRng2 (f : Af) : Itf := fun ρ => (f ρ).bind fun p => match p.1 with
  | [.v (.int i), .v (.int j)] => if small62 i && small62 j then some (intsD i (j - i).toNat, p.2) else none
  | _ => none
theorem small62_of {i : Int} (h : small62 i = true) : -(2 ^ 62) ≤ i ∧ i < 2 ^ 62 := by
  have h1 : i.natAbs ≤ 4611686018427387903 := Nat.le_of_ble_eq_true h
  have e : (2 : Int) ^ 62 = 4611686018427387904 := by decide
  rw [e]
  omega
theorem di_range1 {f : Af} (hg : Gl X "range") (hm : X.mg "range" = none) (ha : DA X [a] τ f) (hs : starEach [a] X.env = [(false, eval a X.env)] := by rfl) : DI X tg (.Call (.Name "range" p) [a] [] pos) τ (TL.iRng1 f) := pi_imp (pi_range1 hg hm ha hs) fun σ H Q ⟨R, ρ, fs, ds, ρ', s, e, q⟩ => by
  obtain ⟨w, e1, e2⟩ := bindO e
  obtain ⟨w1, w2⟩ := w
  simp only at e2
  split at e2
  · obtain ⟨e3, e4⟩ := ifSome' e2
    cases e4
    refine ⟨R, ρ, fs, _, _, s, e1, fun vs H' fs' t s' r => ?_⟩
    cases r with
    | cons r rs =>
      cases r
      cases rs
      exact ⟨_, rfl, (small62_of e3).1, (small62_of e3).2, q _ H' fs' t s' (walks_range 0 _)⟩
  · cases e2
theorem di_range2 {f : Af} (hg : Gl X "range") (hm : X.mg "range" = none) (ha : DA X [a, b] τ f) (hs : starEach [a, b] X.env = [(false, eval a X.env), (false, eval b X.env)] := by rfl) (hs2 : starEach [b] X.env = [(false, eval b X.env)] := by rfl) : DI X tg (.Call (.Name "range" p) [a, b] [] pos) τ (TL.iRng2 f) := pi_imp (pi_range2 hg hm ha hs hs2) fun σ H Q ⟨R, ρ, fs, ds, ρ', s, e, q⟩ => by
  obtain ⟨w, e1, e2⟩ := bindO e
  obtain ⟨w1, w2⟩ := w
  simp only at e2
  split at e2
  · obtain ⟨e3, e4⟩ := ifSome' e2
    cases e4
    rw [Bool.and_eq_true] at e3
    refine ⟨R, ρ, fs, _, _, s, e1, fun vs H' fs' t s' r => ?_⟩
    cases r with
    | cons r rs =>
      cases r
      cases rs with
      | cons r rs =>
        cases r
        cases rs
        exact ⟨_, _, rfl, ⟨(small62_of e3.1).1, (small62_of e3.1).2, (small62_of e3.2).1, (small62_of e3.2).2⟩, q _ H' fs' t s' (walks_range _ _)⟩
  · cases e2

/-! ### for -/
def loopF (b : D → Rho → Option Out) (ks : List Nat) : List D → Rho → Option Out
  | [], ρ => some (.nx ρ)
  | d :: ds, ρ => (b d ρ).bind fun o => match o with
    | .nx ρ' => loopF b ks ds (kill ks ρ')
    | .ct ρ' => loopF b ks ds (kill ks ρ')
    | .bk ρ' => some (.nx (kill ks ρ'))
    | .rt d ρ' => some (.rt d ρ')
def sFor (ks : List Nat) (it : Itf) (g : Gf) (b : Sf) : Sf := fun ρ => (it ρ).bind fun p => loopF (fun d ρ => (g d ρ).bind b) ks p.1 (kill ks p.2)
theorem drop_get {α : Type} {l : List α} {i : Nat} {a : α} (h : l[i]? = some a) : l.drop i = a :: l.drop (i + 1) := by
  obtain ⟨hi, e⟩ := List.getElem?_eq_some_iff.mp h
  rw [List.drop_eq_getElem_cons hi, e]
theorem ds_for {it : Itf} {g : Gf} {bf : Sf} {iter : Expr} {body : List Stmt} {τg τb tbk tct : List Ty} (ks : List Nat) (hp : PassesOwn (model X.prog X.w) X.A X.env X.xe) (hc : X.calm = true) (hi : DI X tg iter τ it)
    (hg : DG X γ.io tg (killT ks τ) g τg) (hb : DSs X { γ with bk := tbk, ct := tct } body τg bf τb) (h1 : killT ks τb = killT ks τ := by rfl) (h2 : killT ks tbk = killT ks τ := by rfl) (h3 : killT ks tct = killT ks τ := by rfl)
    (hs : ∀ x, foldedSetIterable iter X.env x = pure x := by intro _; rfl) : DS X γ (.For tg iter body [] pos) τ (sFor ks it g bf) (killT ks τ) := ps_imp (ps_for hp hc hi hg hb hs) fun D σ0 H0 ⟨R, ρ0, fs0, out, s0, e, q⟩ => by
  obtain ⟨w, e1, e2⟩ := bindO e
  refine ⟨R, ρ0, fs0, w.1, w.2, s0, e1, fun J H1 fs1' t1' s1' wk => ?_⟩
  obtain ⟨fs1, s1, sub1⟩ := s1'.killS ks
  have t1 := t1'.less sub1
  have wk1 : Walks X.K X.mg J w.1 (hide (R ++ fs1') H1) := wk
  have q1 : Post X γ D R σ0 H1 fs1 (killT ks τ) out := q.mono t1 (Kp.refl _ _) (fun ρ' σ' H' fs' eo t' k' s' => by subst eo; exact q σ' H' fs' t' k' s') rfl rfl rfl
  refine ⟨fun i m σ H => ∃ ρ fs, Step H1 H fs1 fs ∧ Kp γ.io σ0 σ ∧ SR X.K X.mg R (killT ks τ) ρ σ H fs ∧ Le (hide (R ++ fs1') H1) (hide (R ++ fs) H) ∧ loopF (fun d ρ => (g d ρ).bind bf) ks (w.1.drop i) ρ = some out ∧ m + i = w.1.length,
    ⟨w.1.length, _, fs1, Step.refl _ _, Kp.refl _ _, s1, hide_sub (fun a ha => ?_), by simpa using e2, by omega⟩, fun i m σ H ⟨ρ, fs, t, k, s, le, el, em⟩ => ?_⟩
  · rcases List.mem_append.mp ha with z | z
    · exact List.mem_append_left _ z
    · exact List.mem_append_right _ (sub1 a z)
  · obtain ⟨wgo, wst⟩ := wk1 i (R ++ fs) H s.own le
    by_cases hi : i < w.1.length
    · have ed := List.getElem?_eq_getElem hi
      generalize w.1[i] = d at ed
      rw [drop_get ed] at el
      obtain ⟨o, eb, eo⟩ := bindO (show ((g d ρ).bind bf).bind _ = some out from el)
      obtain ⟨ρ1, eg, eb⟩ := bindO eb
      obtain ⟨go, yl⟩ := wgo d ed
      refine .inr ⟨go, fun σ' H' => ∃ ρ' fs', Step H1 H' fs1 fs' ∧ Kp γ.io σ0 σ' ∧ SR X.K X.mg R (killT ks τ) ρ' σ' H' fs' ∧ Le (hide (R ++ fs1') H1) (hide (R ++ fs') H') ∧ loopF (fun d ρ => (g d ρ).bind bf) ks (w.1.drop (i + 1)) ρ' = some out,
        fun σ' H' ⟨ρ', fs', a1, a2, a3, a4, a5⟩ => ⟨m - 1, by omega, ρ', fs', a1, a2, a3, a4, a5, by omega⟩, fun x H' hy => ?_⟩
      obtain ⟨gr, rf⟩ := yl x H' hy
      refine ⟨R, ρ, fs, d, ρ1, s.grow gr, rf, eg, fun σ2 fs2 sub2 k2 s2 => ?_⟩
      have t2 : Step H H' fs fs2 := (Step.grow gr fs).less sub2
      have le2 : Le (hide (R ++ fs1') H1) (hide (R ++ fs2) H') := le.trans (s.le t2)
      refine ⟨R, ρ1, fs2, o, s2, eb, ?_⟩
      have fin : ∀ {τx : List Ty} {ρ' : Rho} {σ' : L2.St} {H'' : Hp} {fs' : List Addr}, killT ks τx = killT ks τ → Step H' H'' fs2 fs' → Kp γ.io σ2 σ' → SR X.K X.mg R τx ρ' σ' H'' fs' →
          ∃ fs'', Step H1 H'' fs1 fs'' ∧ Kp γ.io σ0 σ' ∧ SR X.K X.mg R (killT ks τ) (kill ks ρ') σ' H'' fs'' ∧ Le (hide (R ++ fs1') H1) (hide (R ++ fs'') H'') := fun hx t3 k3 s3 => by
        obtain ⟨fs4, s4, sub4⟩ := s3.killS ks
        rw [hx] at s4
        exact ⟨fs4, (t.trans t2).trans (t3.less sub4), (k.trans k2).trans k3, s4, le2.trans (s2.le (t3.less sub4))⟩
      cases o with
      | nx ρ2 =>
        exact fun σ' H'' fs' t3 k3 s3 => by
          obtain ⟨fs4, a1, a2, a3, a4⟩ := fin h1 t3 k3 s3
          exact ⟨_, fs4, a1, a2, a3, a4, eo⟩
      | ct ρ2 =>
        exact fun σ' H'' fs' t3 k3 s3 => by
          obtain ⟨fs4, a1, a2, a3, a4⟩ := fin h3 t3 k3 s3
          exact ⟨_, fs4, a1, a2, a3, a4, eo⟩
      | bk ρ2 =>
        cases eo
        exact fun σ' H'' fs' t3 k3 s3 => by
          obtain ⟨fs4, a1, a2, a3, a4⟩ := fin h2 t3 k3 s3
          exact q1 σ' H'' fs4 a1 a2 a3
      | rt d ρ2 =>
        cases eo
        exact fun v σ' H'' fs' fv t3 k3 s3 r3 => q1 v σ' H'' fs' fv ((t.trans t2).trans t3) ((k.trans k2).trans k3) s3 r3
    · rw [List.drop_eq_nil_of_le (by omega)] at el
      cases el
      exact .inl ⟨wst (by omega), q1 σ H fs t k s⟩
/-! ### while -/
def loopW (t : Tf) (b : Sf) (ks : List Nat) : Nat → Rho → Option Out
  | 0, _ => none
  | n + 1, ρ => (t ρ).bind fun p => if p.1 then (b p.2).bind fun o => match o with
      | .nx ρ' => loopW t b ks n (kill ks ρ')
      | .ct ρ' => loopW t b ks n (kill ks ρ')
      | .bk ρ' => some (.nx (kill ks ρ'))
      | .rt d ρ' => some (.rt d ρ')
    else some (.nx p.2)
def sWhile (n : Nat) (ks : List Nat) (t : Tf) (b : Sf) : Sf := fun ρ => loopW t b ks n (kill ks ρ)
theorem ds_while {t : Tf} {bf : Sf} {body : List Stmt} {τb tbk tct : List Ty} (n : Nat) (ks : List Nat) (hp : PassesOwn (model X.prog X.w) X.A X.env X.xe) (hc : DT X c (killT ks τ) t)
    (hb : DSs X { γ with bk := tbk, ct := tct } body (killT ks τ) bf τb) (h1 : killT ks τb = killT ks τ := by rfl) (h2 : killT ks tbk = killT ks τ := by rfl) (h3 : killT ks tct = killT ks τ := by rfl) :
    DS X γ (.While c body [] pos) τ (sWhile n ks t bf) (killT ks τ) := ps_imp (ps_while hp hc hb) fun D σ0 H0 ⟨R, ρ0, fs0, out, s0, e, q⟩ => by
  obtain ⟨fs1, s1, sub1⟩ := s0.killS ks
  have q1 : Post X γ D R σ0 H0 fs1 (killT ks τ) out := q.mono ((Step.refl H0 fs0).less sub1) (Kp.refl _ _) (fun ρ' σ' H' fs' eo t' k' s' => by subst eo; exact q σ' H' fs' t' k' s') rfl rfl rfl
  refine ⟨fun m σ H => ∃ ρ fs, Step H0 H fs1 fs ∧ Kp γ.io σ0 σ ∧ SR X.K X.mg R (killT ks τ) ρ σ H fs ∧ loopW t bf ks m ρ = some out, ⟨n, _, fs1, Step.refl _ _, Kp.refl _ _, s1, e⟩, fun m σ H ⟨ρ, fs, st, k, s, el⟩ => ?_⟩
  cases m with
  | zero => cases el
  | succ m =>
    obtain ⟨p, e1, e2⟩ := bindO (show (t ρ).bind _ = some out from el)
    refine ⟨R, ρ, fs, p.1, p.2, s, e1, fun H1 fs2 t2 s2 => ?_⟩
    cases hp : p.1 with
    | false =>
      rw [hp] at e2
      cases e2
      exact iteF (q1 σ H1 fs2 (st.trans t2) k s2)
    | true =>
      rw [hp, if_pos rfl] at e2
      obtain ⟨o, eb, eo⟩ := bindO e2
      refine iteT ⟨fun σ' H' => ∃ ρ' fs', Step H0 H' fs1 fs' ∧ Kp γ.io σ0 σ' ∧ SR X.K X.mg R (killT ks τ) ρ' σ' H' fs' ∧ loopW t bf ks m ρ' = some out, fun σ' H' ⟨ρ', fs', a1, a2, a3, a4⟩ => ⟨m, by omega, ρ', fs', a1, a2, a3, a4⟩, R, p.2, fs2, o, s2, eb, ?_⟩
      have fin : ∀ {τx : List Ty} {ρ' : Rho} {σ' : L2.St} {H'' : Hp} {fs' : List Addr}, killT ks τx = killT ks τ → Step H1 H'' fs2 fs' → Kp γ.io σ σ' → SR X.K X.mg R τx ρ' σ' H'' fs' →
          ∃ fs'', Step H0 H'' fs1 fs'' ∧ Kp γ.io σ0 σ' ∧ SR X.K X.mg R (killT ks τ) (kill ks ρ') σ' H'' fs'' := fun hx t3 k3 s3 => by
        obtain ⟨fs4, s4, sub4⟩ := s3.killS ks
        rw [hx] at s4
        exact ⟨fs4, (st.trans t2).trans (t3.less sub4), k.trans k3, s4⟩
      cases o with
      | nx ρ2 =>
        exact fun σ' H'' fs' t3 k3 s3 => by
          obtain ⟨fs4, a1, a2, a3⟩ := fin h1 t3 k3 s3
          exact ⟨_, fs4, a1, a2, a3, eo⟩
      | ct ρ2 =>
        exact fun σ' H'' fs' t3 k3 s3 => by
          obtain ⟨fs4, a1, a2, a3⟩ := fin h3 t3 k3 s3
          exact ⟨_, fs4, a1, a2, a3, eo⟩
      | bk ρ2 =>
        cases eo
        exact fun σ' H'' fs' t3 k3 s3 => by
          obtain ⟨fs4, a1, a2, a3⟩ := fin h2 t3 k3 s3
          exact q1 σ' H'' fs4 a1 a2 a3
      | rt d ρ2 =>
        cases eo
        exact fun v σ' H'' fs' fv t3 k3 s3 r3 => q1 v σ' H'' fs' fv ((st.trans t2).trans t3) (k.trans k3) s3 r3
end

/-! ### slots that do not matter -/
section
variable {K : PySem.W.Frag} {mg : Str → Option Value} {H G : Hp}
theorem Sl.congr : ∀ {τ : List Ty} {ρ ρ' : Rho} {σ σ' : L2.St} {f : List Addr}, Sl K mg H G τ ρ σ f → ρ'.length = ρ.length → σ'.length = σ.length → (∀ (i : Nat) (t : Ty), τ[i]? = some t → t ≠ .no → ρ'[i]? = ρ[i]? ∧ σ'[i]? = σ[i]?) → Sl K mg H G τ ρ' σ' f
  | _, _, ρ', _, σ', _, .nil, h1, h2, _ => by
    have e1 : ρ' = [] := List.length_eq_zero_iff.mp h1
    have e2 : σ' = [] := List.length_eq_zero_iff.mp h2
    subst e1; subst e2; exact .nil
  | _, _, ρ', _, σ', _, .no r, h1, h2, k => by
    cases ρ' with
    | nil => simp at h1
    | cons d ρ' =>
      cases σ' with
      | nil => simp at h2
      | cons v σ' => exact .no (Sl.congr r (by simpa using h1) (by simpa using h2) fun i t e n => by simpa using k (i + 1) t (by simpa using e) n)
  | _, _, ρ', _, σ', _, .cons (t := t) h r, h1, h2, k => by
    cases ρ' with
    | nil => simp at h1
    | cons d ρ' =>
      cases σ' with
      | nil => simp at h2
      | cons v σ' =>
        have k0 := k 0 t rfl (by intro z; subst z; cases h)
        simp at k0
        obtain ⟨rfl, rfl⟩ := k0
        exact .cons h (Sl.congr r (by simpa using h1) (by simpa using h2) fun i t e n => by simpa using k (i + 1) t (by simpa using e) n)
end
theorem wipe_in {σ : L2.St} {i : Nat} : ∀ {vs : List Nat}, i ∈ vs → i < σ.length → (wipe σ vs)[i]? = some none
  | v :: vs, h, hl => by
    show ((wipe σ vs).set v none)[i]? = some none
    by_cases e : v = i
    · subst e
      rw [List.getElem?_set_self (by rw [wipe_length]; exact hl)]
    · rw [List.getElem?_set_ne e]
      exact wipe_in ((List.mem_cons.mp h).resolve_left (fun z => e z.symm)) hl
/-! ### list comprehensions -/
def oE (f : Ef) : Of := fun ρ => (f ρ).bind fun p => match p.1 with
  | .v d => some (d, p.2)
  | _ => none
theorem do_E {X : Cx} {τ : List Ty} {e : Expr} {f : Ef} (h : DE X e τ f) : DO X e τ (oE f) .sh := pe_imp h fun σ H Q ⟨R, ρ, fs, d, ρ', s, e, q⟩ => by
  obtain ⟨p, e1, e2⟩ := bindO e
  obtain ⟨p1, p2⟩ := p
  cases p1 with
  | x i => cases e2
  | v d => cases e2; exact ⟨R, ρ, fs, _, _, s, e1, fun v H' fs' t s' r => q v H' fs' [] t s' (.sh r)⟩
def stepLc (own : List Nat) (g : Gf) (tt : Tf) (el : Of) (d : D) (ρ : Rho) : Option (Option D × Rho) := (g d ρ).bind fun ρ1 => (tt ρ1).bind fun p => if p.1 then (el p.2).bind fun q => some (some q.1, kill own q.2) else some (none, kill own p.2)
def lcF (step : D → Rho → Option (Option D × Rho)) : List D → Rho → Option (List D × Rho)
  | [], ρ => some ([], ρ)
  | d :: r, ρ => (step d ρ).bind fun q => (lcF step r q.2).bind fun w => some (q.1.toList ++ w.1, w.2)
def oLc (own : List Nat) (it : Itf) (g : Gf) (tt : Tf) (el : Of) : Of := fun ρ => (it ρ).bind fun p => if okLen p.1.length then (lcF (stepLc own g tt el) p.1 p.2).bind fun r => some (.lst r.1, r.2) else none
def isNo : Option Ty → Bool
  | some .no => true
  | _ => false
def allNo (τ : List Ty) (own : List Nat) : Bool := own.all fun i => isNo τ[i]?
theorem allNo_ok {τ : List Ty} {own : List Nat} (h : allNo τ own = true) : ∀ i ∈ own, τ[i]? = some .no := fun i hi => by
  have := List.all_eq_true.mp h i hi
  revert this
  generalize τ[i]? = o
  intro q
  cases o with
  | none => cases q
  | some t => cases t <;> first | rfl | cases q
def others (n : Nat) (own : List Nat) : List Nat := (List.range n).filter fun i => !own.contains i
def tYesF : Tf := fun ρ => some (true, ρ)
abbrev DTs (X : Cx) (ifs : List Expr) (τ : List Ty) (f : Tf) : Prop := PTs X ifs (tT X τ f)
theorem pts_imp {X : Cx} {e : List Expr} {t t' : TT} (h : PTs X e t) (k : ∀ σ H Q, t' σ H Q → t σ H Q) : PTs X e t' := ⟨fun pins s σ H Q I q => h.run pins s σ H Q I (k σ H Q q)⟩
theorem dts_nil {X : Cx} {τ : List Ty} : DTs X [] τ tYesF := pts_imp pts_nil fun σ H Q ⟨R, ρ, fs, b, ρ', s, e, q⟩ => by
  cases e
  exact q H fs (Step.refl H fs) s
theorem dts_one {X : Cx} {τ : List Ty} {c : Expr} {f : Tf} (h : DT X c τ f) : DTs X [c] τ f := pts_one h
theorem SR.updR {K : PySem.W.Frag} {mg : Str → Option Value} {R : List Addr} {τ : List Ty} {ρ : Rho} {σ : L2.St} {H : Hp} {fs : List Addr} {a : Addr} {o : HO} (s : SR K mg R τ ρ σ H fs) (ha : a ∈ R) (w : Own o) : SR K mg R τ ρ σ (upd H a o) fs := by
  have nd := s.nd
  refine ⟨s.sl.mono (hide_mono fun b u n e => ⟨n, by rw [upd_ne fun z => n (by rw [z]; exact List.mem_append_left _ ha)]; exact e⟩) fun b hb => upd_ne fun z => (List.nodup_append.mp nd).2.2 a ha b hb z.symm, nd, fun b hb => ?_⟩
  by_cases z : b = a
  · exact ⟨o, by rw [z, upd_same], w⟩
  · obtain ⟨u, e, w'⟩ := s.al b hb
    exact ⟨u, by rw [upd_ne z]; exact e, w'⟩
theorem Rps.snoc {K : PySem.W.Frag} {mg : Str → Option Value} {H G : Hp} : ∀ {ts : List Ty} {ds : List D} {vs : List V} {f : List Addr} {t : Ty} {d : D} {v : V} {g : List Addr}, Rps K mg H G ts ds vs f → Rp K mg H G t d v g → Rps K mg H G (ts ++ [t]) (ds ++ [d]) (vs ++ [v]) (f ++ g)
  | _, _, _, _, _, _, _, g, .nil, h => by
    have := Rps.cons h .nil
    simpa using this
  | _, _, _, _, _, _, _, g, .cons (f := f0) (g := g0) q r, h => by
    have := Rps.cons q (Rps.snoc r h)
    simpa [List.append_assoc] using this
theorem Rps.len {K : PySem.W.Frag} {mg : Str → Option Value} {H G : Hp} : ∀ {ts : List Ty} {ds : List D} {vs : List V} {f : List Addr}, Rps K mg H G ts ds vs f → ds.length = vs.length
  | _, _, _, _, .nil => rfl
  | _, _, _, _, .cons _ r => by simp [Rps.len r]
section
variable {X : Cx} {γ : Gm} {τ τ1 τ' : List Ty} {tg a b c elt iter : Expr} {ifs : List Expr} {es : List Expr} {pos p : Pos}
/-- the reading of a comprehension -/
theorem tLc_of {it : Itf} {g : Gf} {tt : Tf} {el : Of} {t : Ty} {τg : List Ty} (own : List Nat) (hown : ∀ i ∈ own, τ[i]? = some .no) (hlen : τg.length = τ.length) (hkg : killT own τg = τ) : ∀ σ H Q, tO X τ (oLc own it g tt el) (.oL t) σ H Q →
    tLc (tI X τ it) (tG X (others τ.length own) τ g τg) (tT X τg tt) (tO X τg el t) own σ H Q := fun σ0 H0 Q ⟨R, ρ0, fs0, dd, ρe, s0, e, q⟩ => by
  obtain ⟨w, e1, e2⟩ := bindO e
  obtain ⟨e3, e4⟩ : okLen w.1.length = true ∧ ((lcF (stepLc own g tt el) w.1 w.2).bind fun r => some (D.lst r.1, r.2)) = some (dd, ρe) := by
    by_cases h : okLen w.1.length = true
    · rw [if_pos h] at e2; exact ⟨h, e2⟩
    · rw [if_neg h] at e2; cases e2
  obtain ⟨res, e5, e6⟩ := bindO e4
  cases e6
  refine ⟨R, ρ0, fs0, w.1, w.2, s0, e1, fun J H1 fs1 t1 s1 wk => fun Dd hD => ?_⟩
  obtain ⟨n1, n2, n3⟩ := s1.newL (p := Dd) (vs := []) (ds := []) hD .nil
  have hlσ : ∀ {R' : List Addr} {ρ' : Rho} {H' : Hp} {fs' : List Addr} {σ' : L2.St} {τx : List Ty}, SR X.K X.mg R' τx ρ' σ' H' fs' → σ'.length = τx.length := fun s => by
    have := s.sl.len
    omega
  refine ⟨fun i m H => ∃ ρ fs gs accd acc rest, Step H1 H fs1 ((Dd :: gs) ++ fs) ∧ SR X.K X.mg ((Dd :: gs) ++ R) τ ρ σ0 H fs ∧ Le (hide (R ++ fs1) H1) (hide ((Dd :: gs) ++ R ++ fs) H) ∧ H Dd = some (.lst acc) ∧
      Rps X.K X.mg H (hide ((Dd :: gs) ++ R ++ fs) H) (List.replicate accd.length t) accd acc gs ∧ lcF (stepLc own g tt el) (w.1.drop i) ρ = some rest ∧ accd ++ rest.1 = res.1 ∧ rest.2 = res.2 ∧ accd.length ≤ i ∧ m + i = w.1.length,
    ⟨w.1.length, w.2, fs1, [], [], [], res, n3, n1, ?_, upd_same, .nil, by simpa using e5, rfl, rfl, Nat.le_refl _, by omega⟩, fun i m H ⟨ρ, fs, gs, accd, acc, rest, tS, s, le, hDd, rps, el1, er1, er2, ei, em⟩ => ?_⟩
  · exact hide_upd' hD fun a z => by simpa using z
  · obtain ⟨wgo, wst⟩ := wk i ((Dd :: gs) ++ R ++ fs) H s.own le
    by_cases hi : i < w.1.length
    · have ed := List.getElem?_eq_getElem hi
      generalize w.1[i] = d at ed
      rw [drop_get ed] at el1
      obtain ⟨st, es1, es2⟩ := bindO (show (stepLc own g tt el d ρ).bind _ = some rest from el1)
      obtain ⟨rest', es3, es4⟩ := bindO es2
      obtain ⟨ρ1, eg, es5⟩ := bindO (show (g d ρ).bind _ = some st from es1)
      obtain ⟨pt, et, es6⟩ := bindO es5
      obtain ⟨go, yl⟩ := wgo d ed
      refine .inr ⟨go, fun H' => ∃ ρ fs gs accd acc rest, Step H1 H' fs1 ((Dd :: gs) ++ fs) ∧ SR X.K X.mg ((Dd :: gs) ++ R) τ ρ σ0 H' fs ∧ Le (hide (R ++ fs1) H1) (hide ((Dd :: gs) ++ R ++ fs) H') ∧ H' Dd = some (.lst acc) ∧
          Rps X.K X.mg H' (hide ((Dd :: gs) ++ R ++ fs) H') (List.replicate accd.length t) accd acc gs ∧ lcF (stepLc own g tt el) (w.1.drop (i + 1)) ρ = some rest ∧ accd ++ rest.1 = res.1 ∧ rest.2 = res.2 ∧ accd.length ≤ i + 1,
        fun H' ⟨a0, a1, a2, a3, a4, a5, a6, a7, a8, a9, a10, a11, a12, a13, a14⟩ => ⟨m - 1, by omega, a0, a1, a2, a3, a4, a5, a6, a7, a8, a9, a10, a11, a12, a13, a14, by omega⟩, fun x H' hy => ?_⟩
      obtain ⟨gr, rf⟩ := yl x H' hy
      have sw : SR X.K X.mg ((Dd :: gs) ++ R) τ ρ (wipe σ0 own) H' fs := by
        have s' := s.grow gr
        refine ⟨s'.sl.congr rfl (wipe_length _ _) fun j tj ej nj => ⟨rfl, ?_⟩, s'.nd, s'.al⟩
        exact wipe_out fun z => by rw [hown j z] at ej; exact nj (Option.some.inj ej).symm
      refine ⟨(Dd :: gs) ++ R, ρ, fs, d, ρ1, sw, rf, eg, fun σ2 fs2 sub2 k2 s2 => ⟨?_, ?_⟩⟩
      · apply List.ext_getElem?
        intro j
        have hl2 : σ2.length = σ0.length := by rw [hlσ s2, hlσ s, hlen]
        by_cases hj : j ∈ own
        · by_cases hjl : j < σ0.length
          · rw [wipe_in hj (by rw [hl2]; exact hjl), wipe_in hj hjl]
          · rw [List.getElem?_eq_none (by rw [wipe_length, hl2]; omega), List.getElem?_eq_none (by rw [wipe_length]; omega)]
        · rw [wipe_out hj, wipe_out hj]
          by_cases hjl : j < τ.length
          · rw [k2 j (by unfold others; simp [hjl, hj]), wipe_out hj]
          · rw [List.getElem?_eq_none (by rw [hlσ s2, hlen]; omega), List.getElem?_eq_none (by rw [hlσ s]; omega)]
      · have t2 : Step H H' fs fs2 := (Step.grow gr fs).less sub2
        refine ⟨(Dd :: gs) ++ R, ρ1, fs2, pt.1, pt.2, s2, et, fun H3 fs3 t3 s3 => ?_⟩
        have back : ∀ {R' : List Addr} {ρ' : Rho} {H' : Hp} {fs' : List Addr}, SR X.K X.mg R' τg ρ' σ2 H' fs' → ∃ fs'', SR X.K X.mg R' τ (kill own ρ') σ0 H' fs'' ∧ ∀ a ∈ fs'', a ∈ fs' := fun s' => by
          obtain ⟨fs'', sk, sb⟩ := s'.killS own
          rw [hkg] at sk
          refine ⟨fs'', ⟨sk.sl.congr rfl ?_ fun j tj ej nj => ⟨rfl, ?_⟩, sk.nd, sk.al⟩, sb⟩
          · rw [hlσ s, hlσ sk]
          · have hj : j ∉ own := fun z => by rw [hown j z] at ej; exact nj (Option.some.inj ej).symm
            have hjl : j < τ.length := (List.getElem?_eq_some_iff.mp ej).1
            rw [k2 j (by unfold others; simp [hjl, hj]), wipe_out hj]
        cases hp : pt.1 with
        | false =>
          rw [hp] at es6
          cases es6
          obtain ⟨fs4, s4, sub4⟩ := back s3
          have t4 : Step H H3 fs fs4 := (t2.trans t3).less sub4
          refine iteF ⟨_, fs4, gs, accd, acc, rest', ⟨fun a o n e => ?_, fun a ha => ?_, fun a o e => ?_⟩, s4, le.trans (s.le t4), ?_, ?_, es3, ?_, ?_, by omega⟩
          · by_cases z : a ∈ (Dd :: gs) ++ fs
            · rcases tS.sub a z with q | q
              · exact absurd q n
              · rw [q] at e; cases e
            · exact t4.ext a o (fun h => z (List.mem_append_right _ h)) (tS.ext a o n e)
          · rcases List.mem_append.mp ha with z | z
            · exact tS.sub a (List.mem_append_left _ z)
            · rcases t4.sub a z with q | q
              · exact tS.sub a (List.mem_append_right _ q)
              · refine .inr ?_
                cases e : H1 a with
                | none => rfl
                | some o =>
                  obtain ⟨o', e'⟩ := tS.ne a o e
                  rw [e'] at q; cases q
          · obtain ⟨o', e'⟩ := tS.ne a o e
            exact t4.ne a o' e'
          · refine t4.ext Dd _ (fun z => ?_) hDd
            exact (List.nodup_append.mp s.nd).2.2 Dd (by simp) Dd z rfl
          · refine rps.mono (s.le t4) fun a ha => ?_
            obtain ⟨o, eo, _⟩ := s.al a (by simp [ha])
            rw [eo]
            exact t4.ext a o (fun z => (List.nodup_append.mp s.nd).2.2 a (by simp [ha]) a z rfl) eo
          · rw [← er1, ← Option.some.inj es4]; rfl
          · rw [← er2, ← Option.some.inj es4]
        | true =>
          rw [hp, if_pos rfl] at es6
          obtain ⟨pe, ee, es7⟩ := bindO es6
          cases es7
          refine iteT ⟨(Dd :: gs) ++ R, pt.2, fs3, pe.1, pe.2, s3, ee, fun y H4 fs4 fv t4 s4 r4 => ?_⟩
          obtain ⟨fs5, s5, sub5⟩ := back s4
          have t35 : Step H H4 fs (fv ++ fs5) := (t2.trans t3).trans (t4.less fun a ha => (List.mem_append.mp ha).elim (fun z => by simp [z]) fun z => by simp [sub5 a z])
          have hD4 : H4 Dd = some (.lst acc) := t35.ext Dd _ (fun z => (List.nodup_append.mp s.nd).2.2 Dd (by simp) Dd z rfl) hDd
          have lacc : acc.length < sizeLine := by
            rw [← rps.len]
            have := okLen_le e3
            omega
          refine ⟨acc, hD4, lacc, ?_⟩
          have s6 := s5.updR (a := Dd) (o := .lst (acc ++ [y])) (by simp) trivial
          have mem : ∀ a, a ∈ (Dd :: (gs ++ fv)) ++ R ++ fs5 ↔ a ∈ fv ++ ((Dd :: gs) ++ R) ++ fs5 := fun a => by
            simp only [List.mem_append, List.mem_cons]
            constructor
            · rintro (((h | h | h) | h) | h) <;> simp [h]
            · rintro ((h | (h | h) | h) | h) <;> simp [h]
          have pm : ((Dd :: (gs ++ fv)) ++ R ++ fs5).Perm (fv ++ ((Dd :: gs) ++ R) ++ fs5) := by
            refine List.Perm.append_right _ ?_
            rw [← List.cons_append, List.append_assoc]
            refine (List.Perm.append_left (Dd :: gs) (List.perm_append_comm (l₁ := fv) (l₂ := R))).trans ?_
            rw [← List.append_assoc]
            exact List.perm_append_comm
          have s7 : SR X.K X.mg ((Dd :: (gs ++ fv)) ++ R) τ (kill own pe.2) σ0 (upd H4 Dd (.lst (acc ++ [y]))) fs5 := by
            refine ⟨s6.sl.mono (hide_sub fun a ha => (mem a).mp ha) fun _ _ => rfl, pm.nodup_iff.mpr s6.nd, fun a ha => ?_⟩
            refine s6.own a ((mem a).mp (List.mem_append_left _ ha))
          have ndS := s5.nd
          have neD : ∀ a, a ∈ gs ∨ a ∈ fv → a ≠ Dd := fun a ha z => by
            subst z
            simp only [List.append_assoc, List.nodup_append, List.mem_append, List.cons_append, List.nodup_cons] at ndS
            rcases ha with h | h
            · exact ndS.2.1.1 (.inl h)
            · exact ndS.2.2 a h a (by simp) rfl
          have leU : Le (hide ((Dd :: gs) ++ R ++ fs) H) (hide ((Dd :: (gs ++ fv)) ++ R ++ fs5) (upd H4 Dd (.lst (acc ++ [y])))) := hide_mono fun a o n e => by
            have n1 : a ≠ Dd := fun z => n (by simp [z])
            have nfs : a ∉ fs := fun z => n (by simp [z])
            refine ⟨fun z => ?_, by rw [upd_ne n1]; exact t35.ext a o nfs e⟩
            have z := (mem a).mp z
            simp only [List.mem_append, List.mem_cons] at z n
            rcases z with (z | (z | z) | z) | z
            · rcases t35.sub a (by simp [z]) with q | q
              · exact nfs q
              · rw [q] at e; cases e
            · exact n1 z
            · exact n (by simp [z])
            · exact n (by simp [z])
            · rcases t35.sub a (by simp [z]) with q | q
              · exact nfs q
              · rw [q] at e; cases e
          refine ⟨_, fs5, gs ++ fv, accd ++ [pe.1], acc ++ [y], rest', ⟨fun a o n e => ?_, fun a ha => ?_, fun a o e => ?_⟩, s7, le.trans leU, upd_same, ?_, es3, ?_, ?_, by simp; omega⟩
          · have z : a ∉ (Dd :: gs) ++ fs := fun z => by
              rcases tS.sub a z with q | q
              · exact n q
              · rw [q] at e; cases e
            rw [upd_ne fun h => z (by simp [h])]
            exact t35.ext a o (fun h => z (List.mem_append_right _ h)) (tS.ext a o n e)
          · have fr : ∀ a, H a = none → H1 a = none := fun a q => by
              cases e : H1 a with
              | none => rfl
              | some o =>
                obtain ⟨o', e'⟩ := tS.ne a o e
                rw [e'] at q; cases q
            simp only [List.mem_append, List.mem_cons] at ha
            rcases ha with (z | z | z) | z
            · exact tS.sub a (by simp [z])
            · exact tS.sub a (by simp [z])
            · rcases t35.sub a (by simp [z]) with q | q
              · exact tS.sub a (by simp [q])
              · exact .inr (fr a q)
            · rcases t35.sub a (by simp [z]) with q | q
              · exact tS.sub a (by simp [q])
              · exact .inr (fr a q)
          · obtain ⟨o', e'⟩ := tS.ne a o e
            obtain ⟨o2, e2⟩ := t35.ne a o' e'
            by_cases z : a = Dd
            · exact ⟨_, by rw [z, upd_same]⟩
            · exact ⟨o2, by rw [upd_ne z]; exact e2⟩
          · have r1 := rps.mono leU (H' := upd H4 Dd (.lst (acc ++ [y]))) fun a ha => by
              rw [upd_ne (neD a (.inl ha))]
              obtain ⟨o, eo, _⟩ := s.al a (by simp [ha])
              rw [eo]
              exact t35.ext a o (fun z => (List.nodup_append.mp s.nd).2.2 a (by simp [ha]) a z rfl) eo
            have leV : Le (hide (fv ++ ((Dd :: gs) ++ R) ++ fs4) H4) (hide ((Dd :: (gs ++ fv)) ++ R ++ fs5) (upd H4 Dd (.lst (acc ++ [y])))) := hide_mono fun a o n e => by
              have n1 : a ≠ Dd := fun z => n (by simp [z])
              refine ⟨fun z => n ?_, by rw [upd_ne n1]; exact e⟩
              have z := (mem a).mp z
              rcases List.mem_append.mp z with z | z
              · exact List.mem_append_left _ z
              · exact List.mem_append_right _ (sub5 a z)
            have r2 := r4.mono leV (H' := upd H4 Dd (.lst (acc ++ [y]))) fun a ha => upd_ne (neD a (.inr ha))
            have := r1.snoc r2
            rw [← List.replicate_succ', show accd.length + 1 = (accd ++ [pe.1]).length by simp] at this
            exact this
          · rw [← er1, ← Option.some.inj es4]; simp
          · rw [← er2, ← Option.some.inj es4]
    · rw [List.drop_eq_nil_of_le (by omega)] at el1
      cases el1
      refine .inl ⟨wst (by omega), ?_⟩
      simp at er1 er2
      subst er1
      subst er2
      exact q (.ref Dd) H fs (Dd :: gs) (t1.trans tS) s (.oL hDd rps)
theorem do_lc {it : Itf} {g : Gf} {tt : Tf} {el : Of} {t : Ty} {τg : List Ty} {scope : Scope} {own : List (Str × Nat)} (hc : X.calm = true) (hN : X.N.Nodup) (hi : DI X tg iter τ it) (ok : BlkOk X.N X.env.scope scope own)
    (hg : ∀ (s : Shared) (H : Hp) (C : Addr) (cl : List (Str × Addr)) (fp : List Addr), DG (X.blk s H scope (compEnvC scope cl C X.env) fp) (others τ.length (own.map (·.2))) tg τ g τg)
    (ht : ∀ (s : Shared) (H : Hp) (C : Addr) (cl : List (Str × Addr)) (fp : List Addr), DTs (X.blk s H scope (compEnvC scope cl C X.env) fp) ifs τg tt)
    (he : ∀ (s : Shared) (H : Hp) (C : Addr) (cl : List (Str × Addr)) (fp : List Addr), DO (X.blk s H scope (compEnvC scope cl C X.env) fp) elt τg el t)
    (hown : allNo τ (own.map (·.2)) = true := by rfl) (hlen : τg.length = τ.length := by rfl) (hkg : killT (own.map (·.2)) τg = τ := by rfl)
    (hs : ∀ x, foldedSetIterable iter X.env x = pure x := by intro _; rfl) :
    DO X (.ListComp elt [⟨tg, iter, ifs, 0⟩] scope pos) τ (oLc (own.map (·.2)) it g tt el) (.oL t) := pe_imp (pe_lc hc hN hi ok hg ht he hs) (tLc_of (own.map (·.2)) (allNo_ok hown) hlen hkg)
end
end TL

namespace TL
open PySem PySem.Spec PyProof.Rows L2

section
variable {X : Cx} {γ : Gm} {τ τ1 τ' : List Ty} {tg a b c e elt iter o : Expr} {ifs : List Expr} {es : List Expr} {pos p : Pos}
/-- name = [..], the name local: the stores are exchanged -/
theorem ds_setLc {it : Itf} {g : Gf} {tt : Tf} {el : Of} {t : Ty} {τg : List Ty} {scope : Scope} {own : List (Str × Nat)} {y : Str} {py spos : Pos} (i : Nat) (hc : X.calm = true) (hN : X.N.Nodup) (hy : X.N[i]? = some y) (hyl : X.env.scope.names.lookup y = some .local)
    (hsw : swapsWith (.ListComp elt [⟨tg, iter, ifs, 0⟩] scope pos) (some (.Name y py)) spos.line X.env = pure true) (hi : DI X tg iter τ it) (ok : BlkOk X.N X.env.scope scope own)
    (hg : ∀ (s : Shared) (H : Hp) (C : Addr) (cl : List (Str × Addr)) (fp : List Addr), DG (X.blk s H scope (compEnvC scope cl C X.env) fp) (others τ.length (own.map (·.2))) tg τ g τg)
    (ht : ∀ (s : Shared) (H : Hp) (C : Addr) (cl : List (Str × Addr)) (fp : List Addr), DTs (X.blk s H scope (compEnvC scope cl C X.env) fp) ifs τg tt)
    (he : ∀ (s : Shared) (H : Hp) (C : Addr) (cl : List (Str × Addr)) (fp : List Addr), DO (X.blk s H scope (compEnvC scope cl C X.env) fp) elt τg el t)
    (hown : allNo τ (own.map (·.2)) = true := by rfl) (hlen : τg.length = τ.length := by rfl) (hkg : killT (own.map (·.2)) τg = τ := by rfl)
    (hs : ∀ x, foldedSetIterable iter X.env x = pure x := by intro _; rfl) (hti : i < τ.length := by decide) (hio : i ∉ γ.io := by decide) :
    DS X γ (.Assign [.Name y py] (.ListComp elt [⟨tg, iter, ifs, 0⟩] scope pos) spos) τ (sSetO i (oLc (own.map (·.2)) it g tt el)) (τ.set i (.oL t)) :=
  ps_imp (ps_setLc (i := i) hc hN hy hyl hsw hi ok hg ht he hs) fun D σ H q => by
    have := setO_of i hti hio D σ H q
    obtain ⟨R, ρ, fs, d, ρ', s, e, k⟩ := this
    exact tLc_of (own.map (·.2)) (allNo_ok hown) hlen hkg σ H _ ⟨R, ρ, fs, d, ρ', s, e, k⟩
/-- an owned value, then its slot is frozen -/
theorem ds_frzA {st : Stmt} {f : Sf} (i : Nat) {t : Ty} (h : DS X γ st τ f τ1) (ht : τ1[i]? = some t := by rfl) (hn : t ≠ .no := by intro z; cases z) : DS X γ st τ f (τ1.set i .sh) := ps_imp h fun D σ H ⟨R, ρ, fs, o, s, e, q⟩ => by
  refine ⟨R, ρ, fs, o, s, e, ?_⟩
  cases o with
  | nx ρ' =>
    exact fun σ' H' fs' t' k' s' => by
      obtain ⟨fs2, s2, sub⟩ := s'.frz ht hn
      exact q σ' H' fs2 (t'.less sub) k' s2
  | bk ρ' => exact q
  | ct ρ' => exact q
  | rt d ρ' => exact q

/-! ### o[i] = e -/
def setL (l : List D) (k : Int) (d : D) : Option (List D) := (ixN l.length k).bind fun j => some (l.set j d)
def sSetIx (i : Nat) (f fk : Ef) : Sf := fun ρ => (f ρ).bind fun p => (fk p.2).bind fun q => match p.1, q.1, q.2.getD i .non with
  | .v d, .v (.int k), .lst l => (setL l k d).bind fun l' => some (.nx (q.2.set i (.lst l')))
  | _, _, _ => none
theorem SR.gSub_aux {K : PySem.W.Frag} {mg : Str → Option Value} {R : List Addr} {ρ : Rho} {σ : L2.St} {H : Hp} {fs : List Addr} {i : Nat} {v0 : V} (s : SR K mg R τ ρ σ H fs) (ht : τ[i]? = some (.oL .sh)) (ev : σ[i]? = some (some v0)) {l : List D} (el : ρ.getD i .non = .lst l) :
    ∃ a vs, v0 = .ref a ∧ H a = some (.lst vs) ∧ Rfs K mg (hide (R ++ fs) H) l vs ∧ ∀ (vs' : List V) (l' : List D), Rfs K mg (hide (R ++ fs) H) l' vs' → SR K mg R τ (ρ.set i (.lst l')) σ (upd H a (.lst vs')) fs ∧ Step H (upd H a (.lst vs')) fs fs := by
  obtain ⟨f1, fo, f2, ef, hos, hl, _, h2, _⟩ := s.sl.split ht
  rcases hos with ⟨z, _⟩ | ⟨v1, ev1, r1⟩
  · cases z
  rw [ev] at ev1; cases ev1
  rw [el] at r1
  cases r1 with
  | @oL t a vs ds g h rs =>
    obtain ⟨rf, eg⟩ := rs.to_sh
    subst eg
    refine ⟨a, vs, rfl, h, rf, fun vs' l' rf' => ?_⟩
    have le : Le (hide (R ++ fs) H) (hide (R ++ fs) (upd H a (.lst vs'))) := hide_mono fun b u n e => ⟨n, by
      rw [upd_ne fun z => n (by rw [z, ef]; simp)]; exact e⟩
    exact s.write ht (f := []) ev (d := .lst l) ef (o := .lst vs') (d' := .lst l') trivial h2 (.oL upd_same (Rps.of_sh (rf'.mono le)))
theorem ds_setix {f fk : Ef} {ok ek : Expr} (i : Nat) (he : DE X e τ f) (ho : PE X ok (tVar i)) (hk : DE X ek τ fk) (ht : τ[i]? = some (.oL .sh) := by rfl)
    (ha : ∀ v, assign (.Subscript ok ek p) X.env v = (do
      let ov ← holding [v] (eval ok X.env)
      let iv ← holding [v, ov] (eval ek X.env)
      standAt p
      holding [v, ov, iv] (setItem ov iv v)
      release [v, ov, iv] []) := by intro _; rfl)
    (hs : swapsWithSole [.Subscript ok ek p] e pos.line X.env = pure false := by rfl) (hw : swappedStores [.Subscript ok ek p] e X.env = pure none := by rfl)
    (h1 : (assignEach [.Subscript ok ek p] X.env).map (·.2) = [assign (.Subscript ok ek p) X.env] := by rfl) :
    DS X γ (.Assign [.Subscript ok ek p] e pos) τ (sSetIx i f fk) τ := ps_imp (ps_asg he (pg_sub ho hk set_list ha) hs hw h1) fun D σ H ⟨R, ρ, fs, out, s, e, q⟩ => by
  obtain ⟨w, e1, e2⟩ := bindO e
  obtain ⟨z, e3, e4⟩ := bindO e2
  obtain ⟨w1, w2⟩ := w
  obtain ⟨z1, z2⟩ := z
  cases w1 with
  | x i => cases e4
  | v d =>
    cases z1 with
    | x i => cases e4
    | v dk =>
      cases dk with
      | int k =>
        have e5 : (match z2.getD i .non with | .lst l => (setL l k d).bind fun l' => some (Out.nx (z2.set i (.lst l'))) | _ => none) = some out := by
          revert e4
          simp only
          cases z2.getD i .non <;> exact id
        obtain ⟨l, el, e6⟩ : ∃ l, z2.getD i .non = .lst l ∧ ((setL l k d).bind fun l' => some (Out.nx (z2.set i (.lst l')))) = some out := by
          revert e5
          cases hz : z2.getD i .non with
          | lst l => exact fun e5 => ⟨l, rfl, e5⟩
          | _ => exact fun e5 => by cases e5
        obtain ⟨l', e7, e8⟩ := bindO e6
        cases e8
        obtain ⟨j, e9, e10⟩ := bindO e7
        cases e10
        obtain ⟨v0, f0, ev0, r0, _⟩ := s.get ht (by intro z; cases z)
        refine ⟨R, ρ, fs, _, _, s, e1, fun v H1 fs1 t1 s1 r => ⟨v0, ev0, R, w2, fs1, _, _, s1, e3, fun vk H2 fs2 t2 s2 rk => ?_⟩⟩
        cases rk
        obtain ⟨a, vs, rfl, hH, rf, mk⟩ := s2.gSub_aux ht ev0 el
        have rv : Rf X.K X.mg (hide (R ++ fs2) H2) d v := Rf.mono (s1.le t2) r
        obtain ⟨sn, tn⟩ := mk (vs.set j v) (l.set j d) (rf.set j rv)
        exact ⟨a, vs, k, j, rfl, rfl, hH, by rw [← rf.length]; exact e9, q σ _ fs2 ((t1.trans t2).trans tn) (Kp.refl _ _) sn⟩
      | _ => cases e4

/-! ### a, b = e1, e2 (both local): stored from the right -/
abbrev Lf := Rho → Option (List D × Rho)
/-- values, some of them owned -/
def tL (X : Cx) (τ : List Ty) (f : Lf) (ts : List Ty) : TA := fun σ H Q => ∃ R ρ fs ds ρ', SR X.K X.mg R τ ρ σ H fs ∧ f ρ = some (ds, ρ') ∧
  ∀ vs H' fs' fv, Step H H' fs (fv ++ fs') → SR X.K X.mg (fv ++ R) τ ρ' σ H' fs' → Rps X.K X.mg H' (hide (fv ++ R ++ fs') H') ts ds vs fv → Q vs H'
abbrev DL (X : Cx) (es : List Expr) (τ : List Ty) (f : Lf) (ts : List Ty) : Prop := PA X es (tL X τ f ts)
def lNil : Lf := fun ρ => some ([], ρ)
def lCons (f : Of) (g : Lf) : Lf := fun ρ => (f ρ).bind fun p => (g p.2).bind fun q => some (p.1 :: q.1, q.2)
theorem dl_nil : DL X [] τ lNil [] := pa_imp pa_nil fun σ H Q ⟨R, ρ, fs, h, ρ', s, e, q⟩ => by
  cases e
  exact q [] H fs [] (Step.refl H fs) s .nil
theorem dl_cons {f : Of} {g : Lf} {t : Ty} {ts : List Ty} (ha : DO X e τ f t) (hr : DL X es τ g ts) (hs : starEach (e :: es) X.env = (false, eval e X.env) :: starEach es X.env := by rfl) : DL X (e :: es) τ (lCons f g) (t :: ts) := pa_imp (pa_cons ha hr hs) fun σ H Q ⟨R, ρ, fs, h, ρ', s, e, q⟩ => by
  obtain ⟨p, e1, e2⟩ := bindO e
  obtain ⟨w, e3, e4⟩ := bindO e2
  cases e4
  refine ⟨R, ρ, fs, p.1, p.2, s, e1, fun v H1 fs1 f1 t1 s1 r1 => ⟨f1 ++ R, p.2, fs1, w.1, w.2, s1, e3, fun vs H2 fs2 f2 t2 s2 r2 => ?_⟩⟩
  have mem : ∀ a, a ∈ (f1 ++ f2) ++ R ++ fs2 ↔ a ∈ f2 ++ (f1 ++ R) ++ fs2 := fun a => by
    simp only [List.mem_append]
    constructor
    · rintro (((h | h) | h) | h) <;> simp [h]
    · rintro ((h | (h | h)) | h) <;> simp [h]
  have pm : ((f1 ++ f2) ++ R ++ fs2).Perm (f2 ++ (f1 ++ R) ++ fs2) := by
    refine List.Perm.append_right _ ?_
    rw [← List.append_assoc]
    exact List.Perm.append_right _ List.perm_append_comm
  refine q (v :: vs) H2 fs2 (f1 ++ f2) ⟨fun a o n e => ?_, fun a ha => ?_, fun a o e => ?_⟩ ⟨s2.sl.mono (hide_sub fun a ha => (mem a).mp ha) fun _ _ => rfl, pm.nodup_iff.mpr s2.nd, fun a ha => s2.own a ((mem a).mp (List.mem_append_left _ ha))⟩ (.cons (r1.mono ?_ ?_) (r2.mono (hide_sub fun a ha => (mem a).mp ha) fun _ _ => rfl))
  · refine t2.ext a o (fun z => ?_) (t1.ext a o n e)
    rcases t1.sub a (List.mem_append_right _ z) with q | q
    · exact n q
    · rw [q] at e; cases e
  · have fr : ∀ a, H1 a = none → H a = none := fun a q => by
      cases e : H a with
      | none => rfl
      | some o =>
        obtain ⟨o', e'⟩ := t1.ne a o e
        rw [e'] at q; cases q
    simp only [List.mem_append] at ha
    rcases ha with (z | z) | z
    · exact t1.sub a (by simp [z])
    · rcases t2.sub a (by simp [z]) with q | q
      · exact t1.sub a (by simp [q])
      · exact .inr (fr a q)
    · rcases t2.sub a (by simp [z]) with q | q
      · exact t1.sub a (by simp [q])
      · exact .inr (fr a q)
  · obtain ⟨o', e'⟩ := t1.ne a o e
    exact t2.ne a o' e'
  · refine hide_mono fun a o n e => ?_
    have nfs : a ∉ fs1 := fun z => n (List.mem_append_right _ z)
    refine ⟨fun z => ?_, t2.ext a o nfs e⟩
    have z := (mem a).mp z
    rcases List.mem_append.mp z with z | z
    · rcases List.mem_append.mp z with z | z
      · rcases t2.sub a (List.mem_append_left _ z) with q | q
        · exact nfs q
        · rw [q] at e; cases e
      · exact n (List.mem_append_left _ z)
    · rcases t2.sub a (List.mem_append_right _ z) with q | q
      · exact nfs q
      · rw [q] at e; cases e
  · intro a ha
    obtain ⟨o, e, _⟩ := s1.own a (List.mem_append_left _ (List.mem_append_left _ ha))
    rw [e]
    exact t2.ext a o (fun z => (List.nodup_append.mp s1.nd).2.2 a (List.mem_append_left _ ha) a z rfl) e
def sPar (i j : Nat) (f : Lf) : Sf := fun ρ => (f ρ).bind fun p => match p.1 with
  | [a, b] => some (.nx ((p.2.set i a).set j b))
  | _ => none
theorem SR.put2 {K : PySem.W.Frag} {mg : Str → Option Value} {R : List Addr} {ρ : Rho} {σ : L2.St} {H : Hp} {fs fv : List Addr} {i : Nat} {t : Ty} {ts : List Ty} {d : D} {ds : List D} {v : V} {vs : List V} (s : SR K mg (fv ++ R) τ ρ σ H fs) (hi : i < τ.length) (r : Rps K mg H (hide (fv ++ R ++ fs) H) (t :: ts) (d :: ds) (v :: vs) fv) :
    ∃ fs' fw, SR K mg (fw ++ R) (τ.set i t) (ρ.set i d) (σ.set i (some v)) H fs' ∧ Rps K mg H (hide (fw ++ R ++ fs') H) ts ds vs fw ∧ ∀ a ∈ fw ++ fs', a ∈ fv ++ fs := by
  cases r with
  | @cons _ _ _ f g _ _ _ h r =>
    have s' : SR K mg (f ++ (g ++ R)) τ ρ σ H fs := by rw [← List.append_assoc]; exact s
    have h' : Rp K mg H (hide (f ++ (g ++ R) ++ fs) H) t d v f := by rw [← List.append_assoc]; exact h
    obtain ⟨fs', s2, sub⟩ := s'.put hi h'
    refine ⟨fs', g, s2, r.mono (hide_sub fun a ha => ?_) fun _ _ => rfl, fun a ha => ?_⟩
    · simp only [List.mem_append] at ha ⊢
      rcases ha with (z | z) | z
      · simp [z]
      · simp [z]
      · have := sub a z
        simp only [List.mem_append] at this
        rcases this with h | h <;> simp [h]
    · simp only [List.mem_append] at ha ⊢
      rcases ha with z | z
      · simp [z]
      · have := sub a z
        simp only [List.mem_append] at this
        rcases this with h | h <;> simp [h]
theorem ds_par {f : Lf} {x y : Str} {px py pt : Pos} {kt k2 pt2} {t1 t2 : Ty} (i j : Nat) (hc : X.calm = true) (hN : X.N.Nodup) (hi : X.N[i]? = some x) (hj : X.N[j]? = some y) (hx : X.env.scope.names.lookup x = some .local) (hy : X.env.scope.names.lookup y = some .local) (ha : DL X [a, b] τ f [t1, t2])
    (hw : swappedStores [.Tuple [.Name x px, .Name y py] kt pt] (.Tuple [a, b] k2 pt2) X.env = pure (some [x, y])) (hij : i ≠ j := by decide) (hit : i < τ.length := by decide) (hjt : j < τ.length := by decide) (hio : i ∉ γ.io := by decide) (hjo : j ∉ γ.io := by decide)
    (hs : swapsWithSole [.Tuple [.Name x px, .Name y py] kt pt] (.Tuple [a, b] k2 pt2) pos.line X.env = pure false := by rfl) :
    DS X γ (.Assign [.Tuple [.Name x px, .Name y py] kt pt] (.Tuple [a, b] k2 pt2) pos) τ (sPar i j f) ((τ.set i t1).set j t2) := ps_imp (ps_par hc hN hi hj hij hx hy ha hw hs) fun D σ H ⟨R, ρ, fs, o, s, e, q⟩ => by
  obtain ⟨w, e1, e2⟩ := bindO e
  obtain ⟨w1, w2⟩ := w
  match w1, e2 with
  | [d1, d2], e2 =>
    cases e2
    refine ⟨R, ρ, fs, _, _, s, e1, fun vs H1 fs1 fv tt s1 r => ?_⟩
    match vs, r with
    | [v1, v2], r =>
      refine ⟨v1, v2, rfl, ?_⟩
      obtain ⟨fs2, fw, s2, r2, sub2⟩ := s1.put2 hit r
      obtain ⟨fs3, fz, s3, r3, sub3⟩ := s2.put2 (by simpa using hjt) r2
      have ez : fz = [] := by cases r3; rfl
      subst ez
      refine q _ H1 fs3 (tt.less fun a ha => sub2 a (sub3 a ha)) (fun k hk => ?_) s3
      rw [List.getElem?_set_ne (by intro z; subst z; exact hjo hk), List.getElem?_set_ne (by intro z; subst z; exact hio hk)]
    | [], r => cases r
    | [_], r => cases r with | cons _ r => cases r
    | _ :: _ :: _ :: _, r => cases r with | cons _ r => cases r with | cons _ r => cases r
  | [], e2 => cases e2
  | [_], e2 => cases e2
  | _ :: _ :: _ :: _, e2 => cases e2
def sPar3 (i j l : Nat) (f : Lf) : Sf := fun ρ => (f ρ).bind fun p => match p.1 with
  | [a, b, c] => some (.nx (((p.2.set i a).set j b).set l c))
  | _ => none
theorem ds_par3 {f : Lf} {x y z : Str} {px py pz pt : Pos} {kt k2 pt2} {t1 t2 t3 : Ty} (i j l : Nat) (hc : X.calm = true) (hN : X.N.Nodup) (hi : X.N[i]? = some x) (hj : X.N[j]? = some y) (hl : X.N[l]? = some z) (hx : X.env.scope.names.lookup x = some .local) (hy : X.env.scope.names.lookup y = some .local) (hz : X.env.scope.names.lookup z = some .local) (ha : DL X [a, b, c] τ f [t1, t2, t3])
    (hw : swappedStores [.Tuple [.Name x px, .Name y py, .Name z pz] kt pt] (.Tuple [a, b, c] k2 pt2) X.env = pure (some [x, y, z])) (hij : i ≠ j := by decide) (hil : i ≠ l := by decide) (hjl : j ≠ l := by decide) (hit : i < τ.length := by decide) (hjt : j < τ.length := by decide) (hlt : l < τ.length := by decide) (hio : i ∉ γ.io := by decide) (hjo : j ∉ γ.io := by decide) (hlo : l ∉ γ.io := by decide)
    (hs : swapsWithSole [.Tuple [.Name x px, .Name y py, .Name z pz] kt pt] (.Tuple [a, b, c] k2 pt2) pos.line X.env = pure false := by rfl) :
    DS X γ (.Assign [.Tuple [.Name x px, .Name y py, .Name z pz] kt pt] (.Tuple [a, b, c] k2 pt2) pos) τ (sPar3 i j l f) (((τ.set i t1).set j t2).set l t3) := ps_imp (ps_par3 hc hN hi hj hl hij hil hjl hx hy hz ha hw hs) fun D σ H ⟨R, ρ, fs, o, s, e, q⟩ => by
  obtain ⟨w, e1, e2⟩ := bindO e
  obtain ⟨w1, w2⟩ := w
  match w1, e2 with
  | [d1, d2, d3], e2 =>
    cases e2
    refine ⟨R, ρ, fs, _, _, s, e1, fun vs H1 fs1 fv tt s1 r => ?_⟩
    have el := r.len
    match vs, r, el with
    | [v1, v2, v3], r, _ =>
      refine ⟨v1, v2, v3, rfl, ?_⟩
      obtain ⟨fs2, fw, s2, r2, sub2⟩ := s1.put2 hit r
      obtain ⟨fs3, fz, s3, r3, sub3⟩ := s2.put2 (by simpa using hjt) r2
      obtain ⟨fs4, fy, s4, r4, sub4⟩ := s3.put2 (by simpa using hlt) r3
      have ez : fy = [] := by cases r4; rfl
      subst ez
      refine q _ H1 fs4 (tt.less fun a ha => sub2 a (sub3 a (sub4 a ha))) (fun k hk => ?_) s4
      rw [List.getElem?_set_ne (by intro z; subst z; exact hlo hk), List.getElem?_set_ne (by intro z; subst z; exact hjo hk), List.getElem?_set_ne (by intro z; subst z; exact hio hk)]
    | [], _, el => simp at el
    | [_], _, el => simp at el
    | [_, _], _, el => simp at el
    | _ :: _ :: _ :: _ :: _, _, el => simp at el
  | [], e2 => cases e2
  | [_], e2 => cases e2
  | [_, _], e2 => cases e2
  | _ :: _ :: _ :: _ :: _, e2 => cases e2
end

/-! ### a def by its body -/
def runF (b : Sf) (n m : Nat) : Fm := fun ds => if ds.length = n then (b (ds ++ List.replicate m .non)).bind fun o => match o with
    | .rt d ρ' => some (d, ρ'.take n)
    | .nx ρ' => some (.non, ρ'.take n)
    | _ => none
  else none
theorem Sl.cut {K : PySem.W.Frag} {mg : Str → Option Value} {H G : Hp} : ∀ {τ1 : List Ty} {m : Nat} {ρ : Rho} {σ : L2.St} {f : List Addr}, Sl K mg H G (τ1 ++ List.replicate m .no) ρ σ f → Sl K mg H G τ1 (ρ.take τ1.length) (σ.take τ1.length) f
  | [], 0, _, _, _, s => by cases s; exact .nil
  | [], m + 1, _, _, _, s => by
    rw [List.nil_append, List.replicate_succ] at s
    cases s with
    | no s =>
      have := Sl.cut (τ1 := []) (m := m) s
      simpa using this
    | cons h s => cases h
  | t :: τ1, m, _, _, _, s => by
    cases s with
    | no s => exact .no (Sl.cut s)
    | cons h s => exact .cons h (Sl.cut s)
theorem Sl.pad {K : PySem.W.Frag} {mg : Str → Option Value} {H G : Hp} : ∀ {τ1 : List Ty} {m : Nat} {ρ : Rho} {σ : L2.St} {f : List Addr}, Sl K mg H G τ1 ρ σ f → Sl K mg H G (τ1 ++ List.replicate m .no) (ρ ++ List.replicate m .non) (σ ++ List.replicate m none) f
  | _, 0, _, _, _, s => by simpa using s
  | _, m + 1, _, _, _, .nil => by
    have := Sl.pad (m := m) (.nil (K := K) (mg := mg) (H := H) (G := G))
    simp only [List.nil_append, List.replicate_succ] at this ⊢
    exact .no this
  | _, m + 1, _, _, _, .no s => .no (Sl.pad s)
  | _, m + 1, _, _, _, .cons h s => .cons h (Sl.pad s)
section
variable {P : Program} {w : World} {K : PySem.W.Frag} {mg : Str → Option Value} {base : Heap} {x qual : Str} {st : Stmt} {f : Addr} {fd : FuncData} {N ps : List Str} {k : Nat}
theorem Kp.tk {io : List Nat} {σ σ' : L2.St} (h : Kp io σ σ') {i : Nat} (hi : i ∈ io) : σ'[i]? = σ[i]? := h i hi
/-- the slots of a def's changed parameters -/
def ioOf (l : List Ty) : List Nat := (List.range l.length).filter fun i => match l[i]? with
  | some .sh => false
  | some .no => false
  | _ => true
theorem fn_ok {b : Sf} {τ' : List Ty} (Fu : Fun K x qual st f fd) (S : FnScope N ps (defScope st)) (sg : Sg) (γ : Gm) (m : Nat) (hn : sg.ps.length = ps.length := by rfl) (hm : sg.ps.length + m = N.length := by rfl)
    (hio : γ.io = ioOf (sg.ps.map Ty.io) := by rfl) (hret : γ.ret = sg.ret := by rfl) (hrty : γ.rty = sg.ps.map Ty.io ++ List.replicate m .no := by rfl) (hnx : leTb γ.rty τ' = true := by rfl) (hfall : sg.ret = .sh ∨ ∀ ρ ρ', b ρ ≠ some (.nx ρ'))
    (hbody : ∀ (cdv : Value) (A : Around) (outer : List PySem.Env) (s : Shared) (H : Hp) (E : XK), Room k (A.deeper (envOfC qual (defScope st) s.heap.objs.size f cdv)) →
      DSs (cxOf CX0 P w K mg base N qual (defScope st) f cdv A outer s H E).nox γ (defBody st) (sg.ps ++ List.replicate m .no) b τ') :
    FnD P w K mg base (k + 1) f fd ps sg (runF b sg.ps.length m) := by
  refine Fu.ok S (fun vs H Q E ⟨R, ds, fs, d, ds', s, _⟩ => ?_) (fun cdv A outer s H vs Q E hr ⟨R, ds, fs, d, ds', sr, eF, q⟩ => ?_)
  · have := s.sl.len
    simp at this
    omega
  · unfold runF at eF
    have hvl : vs.length = sg.ps.length := by
      have := sr.sl.len
      simp at this
      omega
    by_cases hl : ds.length = sg.ps.length
    · rw [if_pos hl] at eF
      obtain ⟨out, e1, e2⟩ := bindO eF
      refine ⟨_, hbody cdv A outer s H E hr, R, ds ++ List.replicate m .non, fs, out, ⟨?_, sr.nd, sr.al⟩, e1, ?_⟩
      · have := sr.sl.pad (m := m)
        unfold L2.start
        rw [show N.length - vs.length = m by omega]
        exact this
      · have st0 : L2.start N vs = vs.map some ++ List.replicate m none := by
          unfold L2.start
          rw [show N.length - vs.length = m by omega]
        have fin : ∀ {v : V} {σ' : L2.St} {H' : Hp} {fs' fv : List Addr} {ρ' : Rho} {dd : D}, Step H H' fs (fv ++ fs') → Kp γ.io (L2.start N vs) σ' → SR K mg (fv ++ R) γ.rty ρ' σ' H' fs' → Rp K mg H' (hide (fv ++ R ++ fs') H') sg.ret dd v fv → dd = d → ρ'.take sg.ps.length = ds' → Q v H' := fun {v σ' H' fs' fv ρ' dd} t kp s' r e3 e4 => by
          subst e3
          refine q v H' fs' fv t ⟨?_, s'.nd, s'.al⟩ r
          have sl := s'.sl
          rw [hrty] at sl
          have sc := Sl.cut sl
          rw [List.length_map, e4] at sc
          have hl' := s'.sl.len
          rw [hrty] at hl'
          simp at hl'
          refine sc.congr rfl (by simp; omega) fun i t et nt => ⟨rfl, ?_⟩
          have hi : i < sg.ps.length := by
            have := (List.getElem?_eq_some_iff.mp et).1
            simpa using this
          have hmem : i ∈ γ.io := by
            rw [hio]
            unfold ioOf
            refine List.mem_filter.mpr ⟨by simpa using hi, ?_⟩
            rw [et]
            have : t ≠ .sh := by
              rw [List.getElem?_map] at et
              cases h : sg.ps[i]? with
              | none => rw [h] at et; cases et
              | some u =>
                rw [h] at et
                simp at et
                subst et
                cases u <;> simp [Ty.io]
            cases t <;> simp_all
          rw [List.getElem?_take_of_lt hi, kp i hmem, st0, List.getElem?_append_left (by simpa [hvl] using hi)]
        cases out with
        | rt dd ρ' =>
          have e2' := Option.some.inj e2
          exact fun v σ' H' fs' fv t kp s' r => fin t kp s' (by rw [hret] at r; exact r) (congrArg Prod.fst e2') (congrArg Prod.snd e2')
        | nx ρ' =>
          have e2' := Option.some.inj e2
          rcases hfall with hf | hf
          · exact fun σ' H' fs' t kp s' => by
              obtain ⟨fs2, s2, sub⟩ := s'.leT (leTb_ok hnx)
              exact fin (fv := []) (t.less sub) kp s2 (by rw [hf]; exact .sh .non) (congrArg Prod.fst e2') (congrArg Prod.snd e2')
          · exact absurd e1 (hf _ _)
        | bk ρ' => cases e2
        | ct ρ' => cases e2
    · rw [if_neg hl] at eF; cases eF
/-- a mirror in the place of the run -/
theorem FnD.of {sg : Sg} {F G : Fm} (h : FnD P w K mg base k f fd ps sg F) (le : ∀ ds r, G ds = some r → F ds = some r) : FnD P w K mg base k f fd ps sg G := h.imp fun vs H Q E ⟨R, ds, fs, d, ds', s, e, q⟩ => ⟨R, ds, fs, d, ds', s, le _ _ e, q⟩
theorem FnD.ofN {sg : Sg} {F : Nat → Fm} {G : Fm} (h : ∀ n, FnD P w K mg base k f fd ps sg (F n)) (le : ∀ ds r, G ds = some r → ∃ n, F n ds = some r) : FnD P w K mg base k f fd ps sg G where
  len := fun vs H Q E ⟨R, ds, fs, d, ds', s, e, q⟩ => by
    obtain ⟨n, e⟩ := le _ _ e
    exact (h n).len vs H Q E ⟨R, ds, fs, d, ds', s, e, q⟩
  run := fun A outer s H args us vs Q E hr e0 hb r ⟨R, ds, fs, d, ds', sr, e, q⟩ => by
    obtain ⟨n, e⟩ := le _ _ e
    exact (h n).run A outer s H args us vs Q E hr e0 hb r ⟨R, ds, fs, d, ds', sr, e, q⟩
end
end TL

namespace TL
open PySem PySem.Spec PyProof.Rows L2

/-! ### == on trees -/
mutual
def py : D → PyData
  | .non => .none
  | .bl b => .bool b
  | .int i => .int i
  | .str s => .str s
  | .tup l => .tuple (pys l)
  | .lst l => .list (pys l)
  | _ => .none
def pys : List D → List PyData
  | [] => []
  | d :: r => py d :: pys r
end
mutual
/-- Python's == -/
def dq : D → D → Bool
  | .non, .non => true
  | .bl a, .bl b => a == b
  | .bl a, .int j => (if a then 1 else 0) == j
  | .int i, .bl b => i == (if b then 1 else 0)
  | .int i, .int j => i == j
  | .str x, .str y => x == y
  | .lst xs, .lst ys => dqs xs ys
  | .tup xs, .tup ys => dqs xs ys
  | _, _ => false
def dqs : List D → List D → Bool
  | [], [] => true
  | x :: xs, y :: ys => dq x y && dqs xs ys
  | _, _ => false
end
def sOk (s : Str) : Bool := PyData.strOk s
def pyOk : Nat → D → Bool
  | _, .non => true
  | _, .bl _ => true
  | _, .int _ => true
  | _, .str s => sOk s
  | n + 1, .tup l => l.all (pyOk n)
  | n + 1, .lst l => l.all (pyOk n)
  | _, _ => false
theorem pyOk_ok : ∀ (n : Nat) (d : D), pyOk n d = true → (py d).canLay0 = true ∧ (py d).depth ≤ n
  | n, .non, _ => by simp [py, PyData.canLay0, PyData.depth]
  | n, .bl b, _ => by simp [py, PyData.canLay0, PyData.depth]
  | n, .int i, _ => by simp [py, PyData.canLay0, PyData.depth]
  | n, .str s, h => by
    refine ⟨?_, by simp [py, PyData.depth]⟩
    have : sOk s = true := by cases n <;> simpa [pyOk] using h
    simpa [py, PyData.canLay0, sOk] using this
  | n + 1, .tup l, h => by
    have hs : ∀ (l : List D), l.all (pyOk n) = true → PyData.canLayAll0 (pys l) = true ∧ PyData.depthAll (pys l) ≤ n := by
      intro l
      induction l with
      | nil => intro _; simp [pys, PyData.canLayAll0, PyData.depthAll]
      | cons d r ih =>
        intro h
        simp only [List.all_cons, Bool.and_eq_true] at h
        have h1 := pyOk_ok n d h.1
        have h2 := ih h.2
        simp only [pys, PyData.canLayAll0, PyData.depthAll, h1.1, h2.1, Bool.and_self, true_and]
        omega
    have := hs l (by simpa [pyOk] using h)
    simp only [py, PyData.canLay0, PyData.depth, this.1, true_and]
    omega
  | n + 1, .lst l, h => by
    have hs : ∀ (l : List D), l.all (pyOk n) = true → PyData.canLayAll0 (pys l) = true ∧ PyData.depthAll (pys l) ≤ n := by
      intro l
      induction l with
      | nil => intro _; simp [pys, PyData.canLayAll0, PyData.depthAll]
      | cons d r ih =>
        intro h
        simp only [List.all_cons, Bool.and_eq_true] at h
        have h1 := pyOk_ok n d h.1
        have h2 := ih h.2
        simp only [pys, PyData.canLayAll0, PyData.depthAll, h1.1, h2.1, Bool.and_self, true_and]
        omega
    have := hs l (by simpa [pyOk] using h)
    simp only [py, PyData.canLay0, PyData.depth, this.1, true_and]
    omega
  | 0, .tup l, h => by simp [pyOk] at h
  | 0, .lst l, h => by simp [pyOk] at h
  | 0, .dct l, h => by simp [pyOk] at h
  | n + 1, .dct l, h => by simp [pyOk] at h
  | 0, .set l, h => by simp [pyOk] at h
  | n + 1, .set l, h => by simp [pyOk] at h
  | 0, .obj c l, h => by simp [pyOk] at h
  | n + 1, .obj c l, h => by simp [pyOk] at h
  | 0, .scr l, h => by simp [pyOk] at h
  | n + 1, .scr l, h => by simp [pyOk] at h
/-- no dicts, sets, objects within -/
def plainD : Nat → D → Bool := pyOk
theorem eqv_dq : ∀ (n : Nat) (a b : D), pyOk n a = true → pyOk n b = true → PyData.eqv (py a) (py b) = dq a b := by
  have hl : ∀ (n : Nat), (∀ a b : D, pyOk n a = true → pyOk n b = true → PyData.eqv (py a) (py b) = dq a b) → ∀ l m : List D, l.all (pyOk n) = true → m.all (pyOk n) = true → PyData.eqvAll (pys l) (pys m) = dqs l m := by
    intro n ih l
    induction l with
    | nil => intro m _ _; cases m <;> simp [pys, PyData.eqvAll, dqs]
    | cons a l ihl =>
      intro m h1 h2
      cases m with
      | nil => simp [pys, PyData.eqvAll, dqs]
      | cons b m =>
        simp only [List.all_cons, Bool.and_eq_true] at h1 h2
        simp only [pys, PyData.eqvAll, dqs, ih a b h1.1 h2.1, ihl m h1.2 h2.2]
  intro n
  induction n with
  | zero =>
    intro a b ha hb
    cases a <;> cases b <;> first | (simp [pyOk] at ha; done) | (simp [pyOk] at hb; done) | simp [py, PyData.eqv, dq]
  | succ n ih =>
    intro a b ha hb
    cases a <;> cases b <;> first | (simp [pyOk] at ha; done) | (simp [pyOk] at hb; done) | (simp only [py, PyData.eqv, dq]; try rfl) | skip
    all_goals first | rfl | (exact hl n ih _ _ (by simpa [pyOk] using ha) (by simpa [pyOk] using hb)) | skip
def dEq (a b : D) : Option D := if pyOk 40 a && pyOk 40 b then some (.bl (dq a b)) else none
def dNe (a b : D) : Option D := if pyOk 40 a && pyOk 40 b then some (.bl (!dq a b)) else none
section
variable {K : PySem.W.Frag} {mg : Str → Option Value} {S : List Addr} {H G : Hp}
theorem dp_of (le : Le G H) : ∀ (n : Nat) {d : D} {v : V}, pyOk n d = true → Rf K mg G d v → Dp K H v (py d) := by
  have hl : ∀ n, (∀ {d : D} {v : V}, pyOk n d = true → Rf K mg G d v → Dp K H v (py d)) → ∀ {l : List D} {vs : List V}, l.all (pyOk n) = true → Rfs K mg G l vs → DpAll K H vs (pys l) := by
    intro n ih l
    induction l with
    | nil => intro vs _ r; cases r; exact .nil
    | cons a l ihl =>
      intro vs h r
      simp only [List.all_cons, Bool.and_eq_true] at h
      cases r with
      | cons r rs => exact .cons (ih h.1 r) (ihl h.2 rs)
  intro n
  induction n with
  | zero =>
    intro d v h r
    cases r with
    | non => exact .non
    | bl b => exact .bl b
    | int i => exact .int i
    | str s => exact .str s
    | _ => simp [pyOk] at h
  | succ n ih =>
    intro d v h r
    cases r with
    | non => exact .non
    | bl b => exact .bl b
    | int i => exact .int i
    | str s => exact .str s
    | tup hT r => exact .tup (le.seqT hT) (hl n ih (by simpa [pyOk] using h) r)
    | lst hL r => exact .lst (.of (le _ _ hL)) (hl n ih (by simpa [pyOk] using h) r)
    | _ => simp [pyOk] at h
theorem Rv.dp {n : Nat} {d : D} {v : V} (r : Rv K mg S H d v) (h : pyOk n d = true) : Dp K H v (py d) := by
  have w := r.whole
  have eq : hide [] H = H := by funext a; simp [hide]
  rw [eq] at w
  exact dp_of (Le.refl H) n h w
theorem shaped_of {d : D} (h : pyOk 40 d = true) : SeqAt.shaped (py d) = true := by
  have := pyOk_ok 40 d h
  unfold SeqAt.shaped
  rw [this.1, Bool.true_and]
  exact decide_eq_true (by omega)
end
theorem Room.u64 {k : Nat} {A : Around} (r : Room k A) : A.units + 65 < cLine := by
  have := r.un
  omega
section
variable {X : Cx}
theorem od_eq : OpD X (rEqD X.K) dEq := fun S H d1 d2 d v1 v2 Q al r1 r2 e q => by
  obtain ⟨h, e⟩ := ifSome' e
  subst e
  rw [Bool.and_eq_true] at h
  exact ⟨_, _, r1.dp h.1, r2.dp h.2, shaped_of h.1, shaped_of h.2, by rw [eqv_dq 40 _ _ h.1 h.2]; exact q _ H (Grow.refl H) (.bl _)⟩
theorem od_ne : OpD X (rNeD X.K) dNe := fun S H d1 d2 d v1 v2 Q al r1 r2 e q => by
  obtain ⟨h, e⟩ := ifSome' e
  subst e
  rw [Bool.and_eq_true] at h
  exact ⟨_, _, r1.dp h.1, r2.dp h.2, shaped_of h.1, shaped_of h.2, by rw [eqv_dq 40 _ _ h.1 h.2]; exact q _ H (Grow.refl H) (.bl _)⟩

/-! ### arithmetic -/
def ii (C : Int → Int → Bool) (g : Int → Int → D) : D → D → Option D
  | .int i, .int j => if C i j then some (g i j) else none
  | _, _ => none
theorem od_ii {C : Int → Int → Bool} {P : Int → Int → Prop} {g : Int → Int → D} {gv : Int → Int → V} (hC : ∀ i j, C i j = true → P i j) (hg : ∀ i j K mg G, Rf K mg G (g i j) (gv i j)) : OpD X (rI P gv) (ii C g) := fun S H d1 d2 d v1 v2 Q al r1 r2 e q => by
  cases d1 <;> cases d2 <;> first | (cases e; done) | skip
  obtain ⟨h, e⟩ := ifSome' e
  subst e
  exact ⟨_, _, r1.int_inv, r2.int_inv, hC _ _ h, q _ H (Grow.refl H) (hg _ _ _ _ _)⟩
def ii0 (g : Int → Int → D) : D → D → Option D
  | .int i, .int j => some (g i j)
  | _, _ => none
theorem od_ii0 {g : Int → Int → D} {gv : Int → Int → V} (hg : ∀ i j K mg G, Rf K mg G (g i j) (gv i j)) : OpD X (rI0 gv) (ii0 g) := fun S H d1 d2 d v1 v2 Q al r1 r2 e q => by
  cases d1 <;> cases d2 <;> first | (cases e; done) | skip
  cases e
  exact ⟨_, _, r1.int_inv, r2.int_inv, q _ H (Grow.refl H) (hg _ _ _ _ _)⟩
def sm (i : Int) : Bool := Nat.ble i.natAbs 999999999999999999999999999999
theorem sm_lt {i : Int} (h : sm i = true) : i.natAbs < 2 ^ 100 := by
  have h1 : i.natAbs ≤ 999999999999999999999999999999 := Nat.le_of_ble_eq_true h
  have : (2 : Nat) ^ 100 = 1267650600228229401496703205376 := by decide
  rw [this]
  omega
def dSub := ii0 fun i j => .int (i - j)
def dMulI := ii (fun i j => sm i && sm j) fun i j => .int (i * j)
def dDiv := ii (fun _ j => decide (0 < j) && sm j) fun i j => .int (i / j)
def dMod := ii (fun _ j => decide (0 < j)) fun i j => .int (i % j)
def dPow := ii (fun i j => sm i && decide (0 ≤ j) && decide (j ≤ 1000) && decide (i.natAbs < 18446744073709551616)) fun i j => .int (i ^ j.toNat)
def dLt := ii0 fun i j => .bl (decide (i < j))
def dLe := ii0 fun i j => .bl (decide (i ≤ j))
def dGt := ii0 fun i j => .bl (decide (j < i))
def dGe := ii0 fun i j => .bl (decide (j ≤ i))
theorem od_sub : OpD X (rI0 fun i j => .int (i - j)) dSub := od_ii0 fun i j _ _ _ => .int _
theorem od_lt : OpD X (rI0 fun i j => .bl (decide (i < j))) dLt := od_ii0 fun i j _ _ _ => .bl _
theorem od_le : OpD X (rI0 fun i j => .bl (decide (i ≤ j))) dLe := od_ii0 fun i j _ _ _ => .bl _
theorem od_gt : OpD X (rI0 fun i j => .bl (decide (j < i))) dGt := od_ii0 fun i j _ _ _ => .bl _
theorem od_ge : OpD X (rI0 fun i j => .bl (decide (j ≤ i))) dGe := od_ii0 fun i j _ _ _ => .bl _
theorem od_mulI : OpD X (rI CMulW fun i j => .int (i * j)) dMulI := od_ii (fun i j h => by
  rw [Bool.and_eq_true] at h
  exact wide_mul (sm_lt h.1) (sm_lt h.2) (by decide) (by decide) (by decide)) fun i j _ _ _ => .int _
theorem od_div : OpD X (rI CDivW fun i j => .int (i / j)) dDiv := od_ii (fun i j h => by
  rw [Bool.and_eq_true] at h
  exact wide_div (of_decide_eq_true h.1) (sm_lt h.2) (by decide) (by decide)) fun i j _ _ _ => .int _
theorem od_mod : OpD X (rI (fun _ j => 0 < j) fun i j => .int (i % j)) dMod := od_ii (fun i j h => of_decide_eq_true h) fun i j _ _ _ => .int _
theorem od_pow : OpD X (rI CPow fun i j => .int (i ^ j.toNat)) dPow := od_ii (fun i j h => by
  simp only [Bool.and_eq_true, decide_eq_true_eq] at h
  exact ⟨h.1.1.2, by omega, h.2⟩) fun i j _ _ _ => .int _
/-! + -/
def dAdd : D → D → Option D
  | .int i, .int j => some (.int (i + j))
  | .str s, .str t => if okLen (s.length + t.length) then some (.str (s ++ t)) else none
  | .tup l, .tup m => if okLen (l.length + m.length) then some (.tup (l ++ m)) else none
  | .lst l, .lst m => if okLen (l.length + m.length) then some (.lst (l ++ m)) else none
  | _, _ => none
theorem al_not {S : List Addr} {H : Hp} {p : Addr} (al : ∀ a ∈ S, ∃ o, H a = some o ∧ Own o) (hp : H p = none) : p ∉ S := fun z => by
  obtain ⟨o, e, _⟩ := al p z
  rw [hp] at e; cases e
theorem new_tup {K : PySem.W.Frag} {mg : Str → Option Value} {S : List Addr} {H : Hp} {p : Addr} {vs : List V} {ds : List D} (al : ∀ a ∈ S, ∃ o, H a = some o ∧ Own o) (hp : H p = none) (r : Rfs K mg (hide S H) ds vs) : Rf K mg (hide S (upd H p (.tup vs))) (.tup ds) (.ref p) :=
  .tup (.of (hide_some.mpr ⟨al_not al hp, upd_same⟩)) (r.mono (hide_grow _ (Grow.upd hp)))
theorem new_lst {K : PySem.W.Frag} {mg : Str → Option Value} {S : List Addr} {H : Hp} {p : Addr} {vs : List V} {ds : List D} (al : ∀ a ∈ S, ∃ o, H a = some o ∧ Own o) (hp : H p = none) (r : Rfs K mg (hide S H) ds vs) : Rf K mg (hide S (upd H p (.lst vs))) (.lst ds) (.ref p) :=
  .lst (hide_some.mpr ⟨al_not al hp, upd_same⟩) (r.mono (hide_grow _ (Grow.upd hp)))
abbrev rAddD (K : PySem.W.Frag) : R2 := fun x y H Q => (∃ i j, x = .int i ∧ y = .int j ∧ Q (.int (i + j)) H) ∨ (∃ i j, x = .str i ∧ y = .str j ∧ i.length + j.length ≤ sizeLine ∧ Q (.str (i ++ j)) H) ∨ rCatA K x y H Q ∨ rCat x y H Q
theorem op_addD : OpR X (binaryOp .Add) (rAddD X.K) := OpR.or op_add (OpR.or op_add_str (OpR.or op_catA op_cat))
theorem od_add : OpD X (rAddD X.K) dAdd := fun S H d1 d2 d v1 v2 Q al r1 r2 e q => by
  cases d1 <;> cases d2 <;> first | (cases e; done) | skip
  · cases e
    exact .inl ⟨_, _, r1.int_inv, r2.int_inv, q _ H (Grow.refl H) (.int _)⟩
  · obtain ⟨h, e⟩ := ifSome' e
    subst e
    exact .inr (.inl ⟨_, _, r1.str_inv, r2.str_inv, okLen_le h, q _ H (Grow.refl H) (.str _)⟩)
  · obtain ⟨h, e⟩ := ifSome' e
    subst e
    obtain ⟨a, vs, rfl, h1, h1', q1⟩ := r1.tup_inv
    obtain ⟨b, ws, rfl, h2, h2', q2⟩ := r2.tup_inv
    refine .inr (.inr (.inl ⟨a, b, vs, ws, rfl, rfl, h1, h2, by rw [← q1.length, ← q2.length]; exact okLen_le h, fun z => ?_, fun z1 z2 => ?_, fun z1 z2 p hp => ?_⟩))
    · subst z
      cases q1
      exact q _ H (Grow.refl H) (.tup h2' q2)
    · subst z2
      cases q2
      rw [List.append_nil] at q
      exact q _ H (Grow.refl H) (.tup h1' q1)
    · exact q _ _ (Grow.upd hp) (new_tup al hp (q1.append q2))
  · obtain ⟨h, e⟩ := ifSome' e
    subst e
    obtain ⟨a, vs, rfl, h1, q1⟩ := r1.lst_inv
    obtain ⟨b, ws, rfl, h2, q2⟩ := r2.lst_inv
    exact .inr (.inr (.inr ⟨a, b, vs, ws, rfl, rfl, h1, h2, by rw [← q1.length, ← q2.length]; exact okLen_le h, fun p hp => q _ _ (Grow.upd hp) (new_lst al hp (q1.append q2))⟩))
def dAddL : D → D → Option (List D)
  | .lst l, .lst m => if okLen (l.length + m.length) then some (l ++ m) else none
  | _, _ => none
theorem oo_add : OpO X rCat dAddL := fun S H d1 d2 d v1 v2 Q al r1 r2 e q => by
  cases d1 <;> cases d2 <;> first | (cases e; done) | skip
  obtain ⟨h, e⟩ := ifSome' e
  subst e
  obtain ⟨a, vs, rfl, h1, q1⟩ := r1.lst_inv
  obtain ⟨b, ws, rfl, h2, q2⟩ := r2.lst_inv
  exact ⟨a, b, vs, ws, rfl, rfl, h1, h2, by rw [← q1.length, ← q2.length]; exact okLen_le h, fun p hp => q p _ hp (q1.append q2)⟩
/-! * -/
def repL (l : List D) (k : Nat) : List D := (List.replicate k l).flatten
def dMul : D → D → Option D
  | .int i, .int j => if sm i && sm j then some (.int (i * j)) else none
  | .lst l, .int k => if small62 k && okLen (l.length * k.toNat) then some (.lst (repL l k.toNat)) else none
  | .tup l, .int k => if !l.isEmpty && decide (2 ≤ k) && decide (k ≤ 1000) && decide (l.length ≤ 1000) then some (.tup (repL l k.toNat)) else none
  | _, _ => none
abbrev rMulD (K : PySem.W.Frag) : R2 := fun x y H Q => (rI CMulW fun i j => .int (i * j)) x y H Q ∨ rRep x y H Q ∨ rRepT K x y H Q
theorem op_mulD : OpR X (binaryOp .Mult) (rMulD X.K) := OpR.or op_mulW (OpR.or op_rep op_repT)
theorem od_mul : OpD X (rMulD X.K) dMul := fun S H d1 d2 d v1 v2 Q al r1 r2 e q => by
  cases d1 <;> cases d2 <;> first | (cases e; done) | skip
  · exact .inl (od_mulI S H _ _ _ _ _ Q al r1 r2 e q)
  · obtain ⟨h, e⟩ := ifSome' e
    subst e
    simp only [Bool.and_eq_true, decide_eq_true_eq, Bool.not_eq_true'] at h
    obtain ⟨a, vs, rfl, h1, h1', q1⟩ := r1.tup_inv
    refine .inr (.inr ⟨a, _, vs, rfl, r2.int_inv, h1, fun z => ?_, h.1.1.2, h.1.2, by rw [← q1.length]; exact h.2, fun p hp => q _ _ (Grow.upd hp) (new_tup al hp (q1.rep _))⟩)
    subst z
    cases q1
    simp at h
  · obtain ⟨h, e⟩ := ifSome' e
    subst e
    rw [Bool.and_eq_true] at h
    obtain ⟨a, vs, rfl, h1, q1⟩ := r1.lst_inv
    have h3 := small62_of h.1
    exact .inr (.inl ⟨a, _, vs, rfl, r2.int_inv, h1, by omega, by omega, by rw [← q1.length]; exact okLen_le h.2, fun p hp => q _ _ (Grow.upd hp) (new_lst al hp (q1.rep _))⟩)
def dMulL : D → D → Option (List D)
  | .lst l, .int k => if small62 k && okLen (l.length * k.toNat) then some (repL l k.toNat) else none
  | _, _ => none
theorem oo_mul : OpO X rRep dMulL := fun S H d1 d2 d v1 v2 Q al r1 r2 e q => by
  cases d1 <;> cases d2 <;> first | (cases e; done) | skip
  obtain ⟨h, e⟩ := ifSome' e
  subst e
  rw [Bool.and_eq_true] at h
  obtain ⟨a, vs, rfl, h1, q1⟩ := r1.lst_inv
  have h3 := small62_of h.1
  exact ⟨a, _, vs, rfl, r2.int_inv, h1, by omega, by omega, by rw [← q1.length]; exact okLen_le h.2, fun p hp => q p _ hp (q1.rep _)⟩
/-! unary minus -/
def dNeg : D → Option D
  | .int i => some (.int (-i))
  | _ => none
theorem ud_neg : UnD X (rU fun i => .int (-i)) dNeg := fun S H d1 d v1 Q al r1 e q => by
  cases d1 <;> first | (cases e; done) | skip
  cases e
  exact ⟨_, r1.int_inv, q _ H (Grow.refl H) (.int _)⟩
/-! is None, is True -/
def isNonD : D → Bool
  | .non => true
  | _ => false
def dIs : D → D → Option D
  | a, .non => some (.bl (isNonD a))
  | .bl a, .bl b => some (.bl (decide (a = b)))
  | _, _ => none
def dIsNot : D → D → Option D
  | a, .non => some (.bl (!isNonD a))
  | .bl a, .bl b => some (.bl (!decide (a = b)))
  | _, _ => none
abbrev rIsD : R2 := fun x y H Q => (y = .non ∧ Q (.bl (decide (x = .non))) H) ∨ rIsB x y H Q
abbrev rIsNotD : R2 := fun x y H Q => (y = .non ∧ Q (.bl (!decide (x = .non))) H) ∨ rNotB x y H Q
theorem op_isD : OpR X (compareOp .Is) rIsD := OpR.or op_isN op_isBl
theorem op_isNotD : OpR X (compareOp .IsNot) rIsNotD := OpR.or op_notN op_notBl
theorem Rv.isNon {K : PySem.W.Frag} {mg : Str → Option Value} {S : List Addr} {H : Hp} {d : D} {v : V} (r : Rv K mg S H d v) : decide (v = .non) = isNonD d := by
  cases r with
  | rf r => cases r <;> rfl
  | lst _ _ => rfl
  | dK _ _ _ => rfl
  | dT _ _ _ => rfl
theorem od_is : OpD X rIsD dIs := fun S H d1 d2 d v1 v2 Q al r1 r2 e q => by
  cases d2 with
  | non => 
    have e' : some (D.bl (isNonD d1)) = some d := by
      cases d1 <;> exact e
    cases e'
    exact .inl ⟨r2.non_inv, by rw [r1.isNon]; exact q _ H (Grow.refl H) (.bl _)⟩
  | bl b =>
    cases d1 <;> first | (cases e; done) | skip
    cases e
    exact .inr ⟨_, _, r1.bl_inv, r2.bl_inv, q _ H (Grow.refl H) (.bl _)⟩
  | _ => cases d1 <;> cases e
theorem od_isNot : OpD X rIsNotD dIsNot := fun S H d1 d2 d v1 v2 Q al r1 r2 e q => by
  cases d2 with
  | non => 
    have e' : some (D.bl (!isNonD d1)) = some d := by
      cases d1 <;> exact e
    cases e'
    exact .inl ⟨r2.non_inv, by rw [r1.isNon]; exact q _ H (Grow.refl H) (.bl _)⟩
  | bl b =>
    cases d1 <;> first | (cases e; done) | skip
    cases e
    exact .inr ⟨_, _, r1.bl_inv, r2.bl_inv, q _ H (Grow.refl H) (.bl _)⟩
  | _ => cases d1 <;> cases e
/-! subscripts -/
theorem ifSomeO {α : Type} {c : Bool} {x : Option α} {r : α} (e : (if c then x else none) = some r) : c = true ∧ x = some r := by
  cases c with
  | true => exact ⟨rfl, by simpa using e⟩
  | false => cases e
def atD (l : List D) (i : Int) : Option D := atI l i
theorem Rfs.atI {K : PySem.W.Frag} {mg : Str → Option Value} {G : Hp} {ds : List D} {vs : List V} {i : Int} {d : D} (r : Rfs K mg G ds vs) (e : L2.atI ds i = some d) : ∃ v, L2.atI vs i = some v ∧ Rf K mg G d v := by
  unfold L2.atI at e ⊢
  rw [← r.length]
  obtain ⟨j, e1, e2⟩ := bindO e
  rw [e1]
  exact r.get e2
def dIx : D → D → Option D
  | .lst l, .int i => atI l i
  | .tup l, .int i => atI l i
  | .str z, .int i => if okLen z.length then (atI z.cps.toList i).map fun c => .str ⟨#[c]⟩ else none
  | _, _ => none
theorem od_ix : OpD X (rIx X.K) dIx := fun S H d1 d2 d v1 v2 Q al r1 r2 e q => by
  cases d1 <;> cases d2 <;> first | (cases e; done) | skip
  · rename_i z i
    obtain ⟨h, e⟩ := ifSomeO (show (if okLen z.length then (atI z.cps.toList i).map fun c => D.str ⟨#[c]⟩ else none) = some d from e)
    cases hc : atI z.cps.toList i with
    | none => rw [hc] at e; cases e
    | some c =>
      rw [hc] at e
      cases e
      exact .inr (.inr ⟨z, i, c, r1.str_inv, r2.int_inv, okLen_le h, hc, q _ H (Grow.refl H) (.str _)⟩)
  · obtain ⟨a, vs, rfl, h1, h1', q1⟩ := r1.tup_inv
    obtain ⟨v, ev, rv⟩ := q1.atI (show L2.atI _ _ = some d from e)
    exact .inr (.inl ⟨a, vs, _, v, rfl, r2.int_inv, h1, ev, q v H (Grow.refl H) rv⟩)
  · obtain ⟨a, vs, rfl, h1, q1⟩ := r1.lst_inv
    obtain ⟨v, ev, rv⟩ := q1.atI (show L2.atI _ _ = some d from e)
    exact .inl ⟨a, vs, _, v, rfl, r2.int_inv, .of h1, ev, q v H (Grow.refl H) rv⟩
/-! slices -/
def cutD (l : List D) (lo hi : Option Int) : List D := (l.drop (HT.sIx l.length 0 lo)).take (HT.sIx l.length l.length hi - HT.sIx l.length 0 lo)
theorem Rfs.cut {K : PySem.W.Frag} {mg : Str → Option Value} {G : Hp} {ds : List D} {vs : List V} (r : Rfs K mg G ds vs) (lo hi : Option Int) : Rfs K mg G (cutD ds lo hi) (cutV vs lo hi) := by
  unfold cutD cutV
  rw [← r.length]
  exact (r.drop _).take _
def dSl : D → Option Int → Option Int → Option D
  | .tup l, lo, hi => some (.tup (cutD l lo hi))
  | .lst l, lo, hi => some (.lst (cutD l lo hi))
  | _, _, _ => none
abbrev rSlD (K : PySem.W.Frag) : V → Option Int → Option Int → Hp → VK → Prop := fun x lo hi H Q => rSlA K x lo hi H Q ∨ rSlL K x lo hi H Q
theorem sl_D : SlR X (rSlD X.K) := SlR.or sl_tupA sl_list
theorem sd_sl : SlD X (rSlD X.K) dSl := fun S H d1 d lo hi v1 Q al r1 e q => by
  cases d1 <;> first | (cases e; done) | skip
  · cases e
    obtain ⟨a, vs, rfl, h1, h1', q1⟩ := r1.tup_inv
    refine .inl ⟨a, vs, rfl, h1, fun z => ?_, fun z p hp => q _ _ (Grow.upd hp) (new_tup al hp (q1.cut lo hi))⟩
    have ec : ∀ {ds : List D}, ds.length = vs.length → cutD ds lo hi = ds := fun {ds} hl => by
      unfold cutD
      rw [hl, z.1, z.2]
      simp [← hl]
    rw [ec q1.length] at q
    exact q _ H (Grow.refl H) (.tup h1' q1)
  · cases e
    obtain ⟨a, vs, rfl, h1, q1⟩ := r1.lst_inv
    exact .inr ⟨a, vs, rfl, .of h1, fun p hp => q _ _ (Grow.upd hp) (new_lst al hp (q1.cut lo hi))⟩
def dSlL : D → Option Int → Option Int → Option (List D)
  | .lst l, lo, hi => some (cutD l lo hi)
  | _, _, _ => none
theorem so_sl : SlO X (rSlL X.K) dSlL := fun S H d1 d lo hi v1 Q al r1 e q => by
  cases d1 <;> first | (cases e; done) | skip
  cases e
  obtain ⟨a, vs, rfl, h1, q1⟩ := r1.lst_inv
  exact ⟨a, vs, rfl, .of h1, fun p hp => q p _ hp (q1.cut lo hi)⟩
/-! ### built-ins -/
theorem Rvs.one {K : PySem.W.Frag} {mg : Str → Option Value} {S : List Addr} {H : Hp} {d : D} {vs : List V} (r : Rvs K mg S H [d] vs) : ∃ v, vs = [v] ∧ Rv K mg S H d v := by
  cases r with
  | cons r rs => cases rs; exact ⟨_, rfl, r⟩
theorem Rvs.two {K : PySem.W.Frag} {mg : Str → Option Value} {S : List Addr} {H : Hp} {d e : D} {vs : List V} (r : Rvs K mg S H [d, e] vs) : ∃ v w, vs = [v, w] ∧ Rv K mg S H d v ∧ Rv K mg S H e w := by
  cases r with
  | cons r rs =>
    cases rs with
    | cons r2 rs => cases rs; exact ⟨_, _, rfl, r, r2⟩
/-- a function of one argument, on argument lists -/
def f1 (g : D → Option D) : List D → Option D
  | [d] => g d
  | _ => none
def f1L (g : D → Option (List D)) : List D → Option (List D)
  | [d] => g d
  | _ => none
theorem ca1 {r : List V → Hp → VK → Prop} {g : D → Option D} (h : ∀ (S : List Addr) (H : Hp) (d1 d : D) (v1 : V) (Q : VK), (∀ a ∈ S, ∃ o, H a = some o ∧ Own o) → Rv X.K X.mg S H d1 v1 → g d1 = some d → (∀ v H', Grow H H' → Rf X.K X.mg (hide S H') d v → Q v H') → r [v1] H Q) : CaD X r (f1 g) := fun S H ds d vs Q al r1 e q => by
  match ds, r1, e with
  | [d1], r1, e =>
    obtain ⟨v, rfl, r2⟩ := r1.one
    exact h S H d1 d v Q al r2 e q
  | [], _, e => cases e
  | _ :: _ :: _, _, e => cases e
theorem co1 {r : List V → Hp → VK → Prop} {g : D → Option (List D)} (h : ∀ (S : List Addr) (H : Hp) (d1 : D) (d : List D) (v1 : V) (Q : VK), (∀ a ∈ S, ∃ o, H a = some o ∧ Own o) → Rv X.K X.mg S H d1 v1 → g d1 = some d → (∀ p H1 vs, Grow H H1 → H1 p = none → Rfs X.K X.mg (hide S H1) d vs → Q (.ref p) (upd H1 p (.lst vs))) → r [v1] H Q) : CaO X r (f1L g) := fun S H ds d vs Q al r1 e q => by
  match ds, r1, e with
  | [d1], r1, e =>
    obtain ⟨v, rfl, r2⟩ := r1.one
    exact h S H d1 d v Q al r2 e q
  | [], _, e => cases e
  | _ :: _ :: _, _, e => cases e
def lenD : D → Option D
  | .str s => if okLen s.length then some (.int s.length) else none
  | .tup l => some (.int l.length)
  | .lst l => some (.int l.length)
  | _ => none
abbrev rLen (K : PySem.W.Frag) : List V → Hp → VK → Prop := fun xs H Q => ∃ x n, xs = [x] ∧ LenV K x H n ∧ Q (.int n) H
theorem ca_len : CaD X (rLen X.K) (f1 lenD) := ca1 fun S H d1 d v1 Q al r1 e q => by
  cases d1 <;> first | (cases e; done) | skip
  · obtain ⟨h, e⟩ := ifSome' e
    subst e
    rw [r1.str_inv]
    exact ⟨_, _, rfl, ⟨okLen_le h, rfl⟩, q _ H (Grow.refl H) (.int _)⟩
  · cases e
    obtain ⟨a, vs, rfl, h1, h1', q1⟩ := r1.tup_inv
    refine ⟨_, _, rfl, .inr ⟨vs, h1, rfl⟩, ?_⟩
    rw [← q1.length]
    exact q _ H (Grow.refl H) (.int _)
  · cases e
    obtain ⟨a, vs, rfl, h1, q1⟩ := r1.lst_inv
    refine ⟨_, _, rfl, .inl ⟨vs, .of h1, rfl⟩, ?_⟩
    rw [← q1.length]
    exact q _ H (Grow.refl H) (.int _)
def absD : D → Option D
  | .int i => some (.int (if i < 0 then -i else i))
  | _ => none
theorem ca_abs : CaD X (fun xs H Q => ∃ i, xs = [.int i] ∧ Q (.int (if i < 0 then -i else i)) H) (f1 absD) := ca1 fun S H d1 d v1 Q al r1 e q => by
  cases d1 <;> first | (cases e; done) | skip
  cases e
  exact ⟨_, by rw [r1.int_inv], q _ H (Grow.refl H) (.int _)⟩
def intD : D → Option D
  | .int i => some (.int i)
  | .bl k => some (.int (if k then 1 else 0))
  | _ => none
theorem ca_int : CaD X (fun xs H Q => (∃ i, xs = [.int i] ∧ Q (.int i) H) ∨ ∃ k, xs = [.bl k] ∧ Q (.int (if k then 1 else 0)) H) (f1 intD) := ca1 fun S H d1 d v1 Q al r1 e q => by
  cases d1 <;> first | (cases e; done) | skip
  · cases e
    exact .inr ⟨_, by rw [r1.bl_inv], q _ H (Grow.refl H) (.int _)⟩
  · cases e
    exact .inl ⟨_, by rw [r1.int_inv], q _ H (Grow.refl H) (.int _)⟩
def f2 (g : D → D → Option D) : List D → Option D
  | [a, b] => g a b
  | _ => none
def max2D : D → D → Option D
  | .int i, .int j => some (.int (if j > i then j else i))
  | _, _ => none
def min2D : D → D → Option D
  | .int i, .int j => some (.int (if j < i then j else i))
  | _, _ => none
theorem ca2 {r : List V → Hp → VK → Prop} {g : D → D → Option D} (h : ∀ (S : List Addr) (H : Hp) (d1 d2 d : D) (v1 v2 : V) (Q : VK), (∀ a ∈ S, ∃ o, H a = some o ∧ Own o) → Rv X.K X.mg S H d1 v1 → Rv X.K X.mg S H d2 v2 → g d1 d2 = some d → (∀ v H', Grow H H' → Rf X.K X.mg (hide S H') d v → Q v H') → r [v1, v2] H Q) : CaD X r (f2 g) := fun S H ds d vs Q al r1 e q => by
  match ds, r1, e with
  | [d1, d2], r1, e =>
    obtain ⟨v, w, rfl, r2, r3⟩ := r1.two
    exact h S H d1 d2 d v w Q al r2 r3 e q
  | [], _, e => cases e
  | [_], _, e => cases e
  | _ :: _ :: _ :: _, _, e => cases e
theorem ca_max2 : CaD X (fun xs H Q => ∃ i j, xs = [.int i, .int j] ∧ Q (.int (if j > i then j else i)) H) (f2 max2D) := ca2 fun S H d1 d2 d v1 v2 Q al r1 r2 e q => by
  cases d1 <;> cases d2 <;> first | (cases e; done) | skip
  cases e
  rw [r1.int_inv, r2.int_inv]
  exact ⟨_, _, rfl, q _ H (Grow.refl H) (.int _)⟩
theorem ca_min2 : CaD X (fun xs H Q => ∃ i j, xs = [.int i, .int j] ∧ Q (.int (if j < i then j else i)) H) (f2 min2D) := ca2 fun S H d1 d2 d v1 v2 Q al r1 r2 e q => by
  cases d1 <;> cases d2 <;> first | (cases e; done) | skip
  cases e
  rw [r1.int_inv, r2.int_inv]
  exact ⟨_, _, rfl, q _ H (Grow.refl H) (.int _)⟩
/-- a list of ints, of bools -/
def getInts : List D → Option (List Int)
  | [] => some []
  | .int i :: r => (getInts r).map (i :: ·)
  | _ :: _ => none
theorem getInts_map : ∀ {l : List D} {ns : List Int}, getInts l = some ns → l = ns.map D.int
  | [], _, e => by cases e; rfl
  | .int i :: r, _, e => by
    unfold getInts at e
    cases h : getInts r with
    | none => rw [h] at e; cases e
    | some ns => rw [h] at e; cases e; rw [getInts_map h]; rfl
  | .non :: _, _, e => by cases e
  | .bl _ :: _, _, e => by cases e
  | .str _ :: _, _, e => by cases e
  | .tup _ :: _, _, e => by cases e
  | .lst _ :: _, _, e => by cases e
  | .dct _ :: _, _, e => by cases e
  | .set _ :: _, _, e => by cases e
  | .obj _ _ :: _, _, e => by cases e
  | .scr _ :: _, _, e => by cases e
@[simp] theorem getInts_of (ns : List Int) : getInts (ns.map D.int) = some ns := by
  induction ns with
  | nil => rfl
  | cons n r ih => simp [getInts, ih]
def getBls : List D → Option (List Bool)
  | [] => some []
  | .bl i :: r => (getBls r).map (i :: ·)
  | _ :: _ => none
theorem getBls_map : ∀ {l : List D} {ns : List Bool}, getBls l = some ns → l = ns.map D.bl
  | [], _, e => by cases e; rfl
  | .bl i :: r, _, e => by
    unfold getBls at e
    cases h : getBls r with
    | none => rw [h] at e; cases e
    | some ns => rw [h] at e; cases e; rw [getBls_map h]; rfl
  | .non :: _, _, e => by cases e
  | .int _ :: _, _, e => by cases e
  | .str _ :: _, _, e => by cases e
  | .tup _ :: _, _, e => by cases e
  | .lst _ :: _, _, e => by cases e
  | .dct _ :: _, _, e => by cases e
  | .set _ :: _, _, e => by cases e
  | .obj _ _ :: _, _, e => by cases e
  | .scr _ :: _, _, e => by cases e
@[simp] theorem getBls_of (ns : List Bool) : getBls (ns.map D.bl) = some ns := by
  induction ns with
  | nil => rfl
  | cons n r ih => simp [getBls, ih]
def sumD : D → Option D
  | .lst l => (getInts l).map fun ns => .int ns.sum
  | _ => none
theorem mapO {α β : Type} {x : Option α} {f : α → β} {r : β} (e : x.map f = some r) : ∃ a, x = some a ∧ f a = r := by
  cases x with
  | none => cases e
  | some a => exact ⟨a, rfl, Option.some.inj e⟩
theorem ca_sum : CaD X (rSum X.K) (f1 sumD) := ca1 fun S H d1 d v1 Q al r1 e q => by
  cases d1 <;> first | (cases e; done) | skip
  obtain ⟨ns, e1, rfl⟩ := mapO (show (getInts _).map _ = some d from e)
  have := getInts_map e1
  subst this
  obtain ⟨a, vs, rfl, h1, q1⟩ := r1.lst_inv
  have := q1.ints
  subst this
  exact ⟨a, ns, rfl, .of h1, q _ H (Grow.refl H) (.int _)⟩
def lmax : List Int → Option Int
  | [] => none
  | a :: r => some (r.foldl (fun m x => if x > m then x else m) a)
def lmin : List Int → Option Int
  | [] => none
  | a :: r => some (r.foldl (fun m x => if x < m then x else m) a)
theorem lmax_spec : ∀ (r : List Int) (a : Int), r.foldl (fun m x => if x > m then x else m) a ∈ a :: r ∧ ∀ y ∈ a :: r, y ≤ r.foldl (fun m x => if x > m then x else m) a
  | [], a => ⟨by simp, by simp⟩
  | b :: r, a => by
    have := lmax_spec r (if b > a then b else a)
    simp only [List.foldl_cons]
    refine ⟨?_, fun y hy => ?_⟩
    · have h := this.1
      simp only [List.mem_cons] at h ⊢
      by_cases c : b > a
      · simp only [c, if_true] at h ⊢
        rcases h with h | h <;> simp [h]
      · simp only [c, if_false] at h ⊢
        rcases h with h | h <;> simp [h]
    · have h := this.2
      have h0 := h (if b > a then b else a) (by simp)
      simp only [List.mem_cons] at hy
      rcases hy with rfl | rfl | hy
      · refine Int.le_trans ?_ h0
        split <;> omega
      · refine Int.le_trans ?_ h0
        split <;> omega
      · exact h y (by simp [hy])
theorem lmin_spec : ∀ (r : List Int) (a : Int), r.foldl (fun m x => if x < m then x else m) a ∈ a :: r ∧ ∀ y ∈ a :: r, r.foldl (fun m x => if x < m then x else m) a ≤ y
  | [], a => ⟨by simp, by simp⟩
  | b :: r, a => by
    have := lmin_spec r (if b < a then b else a)
    simp only [List.foldl_cons]
    refine ⟨?_, fun y hy => ?_⟩
    · have h := this.1
      simp only [List.mem_cons] at h ⊢
      by_cases c : b < a
      · simp only [c, if_true] at h ⊢
        rcases h with h | h <;> simp [h]
      · simp only [c, if_false] at h ⊢
        rcases h with h | h <;> simp [h]
    · have h := this.2
      have h0 := h (if b < a then b else a) (by simp)
      simp only [List.mem_cons] at hy
      rcases hy with rfl | rfl | hy
      · refine Int.le_trans h0 ?_
        split <;> omega
      · refine Int.le_trans h0 ?_
        split <;> omega
      · exact h y (by simp [hy])
def maxD : D → Option D
  | .lst l => (getInts l).bind fun ns => (lmax ns).map D.int
  | _ => none
def minD : D → Option D
  | .lst l => (getInts l).bind fun ns => (lmin ns).map D.int
  | _ => none
theorem ca_max : CaD X (rMax X.K) (f1 maxD) := ca1 fun S H d1 d v1 Q al r1 e q => by
  cases d1 <;> first | (cases e; done) | skip
  obtain ⟨ns, e1, e2⟩ := bindO (show (getInts _).bind _ = some d from e)
  obtain ⟨m, e3, rfl⟩ := mapO e2
  have := getInts_map e1
  subst this
  obtain ⟨a, vs, rfl, h1, q1⟩ := r1.lst_inv
  have := q1.ints
  subst this
  cases ns with
  | nil => cases e3
  | cons x r =>
    cases e3
    have sp := lmax_spec r x
    refine ⟨a, x :: r, rfl, .of h1, by simp, fun m hm hy => ?_⟩
    have : m = r.foldl (fun m x => if x > m then x else m) x := Int.le_antisymm (sp.2 m hm) (hy _ sp.1)
    subst this
    exact q _ H (Grow.refl H) (.int _)
theorem ca_min : CaD X (rMin X.K) (f1 minD) := ca1 fun S H d1 d v1 Q al r1 e q => by
  cases d1 <;> first | (cases e; done) | skip
  obtain ⟨ns, e1, e2⟩ := bindO (show (getInts _).bind _ = some d from e)
  obtain ⟨m, e3, rfl⟩ := mapO e2
  have := getInts_map e1
  subst this
  obtain ⟨a, vs, rfl, h1, q1⟩ := r1.lst_inv
  have := q1.ints
  subst this
  cases ns with
  | nil => cases e3
  | cons x r =>
    cases e3
    have sp := lmin_spec r x
    refine ⟨a, x :: r, rfl, .of h1, by simp, fun m hm hy => ?_⟩
    have : m = r.foldl (fun m x => if x < m then x else m) x := Int.le_antisymm (hy _ sp.1) (sp.2 m hm)
    subst this
    exact q _ H (Grow.refl H) (.int _)
def anyD : D → Option D
  | .lst l => (getBls l).map fun ns => .bl (ns.any id)
  | _ => none
def allD : D → Option D
  | .lst l => (getBls l).map fun ns => .bl (ns.all id)
  | _ => none
theorem ca_any : CaD X (rAny X.K) (f1 anyD) := ca1 fun S H d1 d v1 Q al r1 e q => by
  cases d1 <;> first | (cases e; done) | skip
  obtain ⟨ns, e1, rfl⟩ := mapO (show (getBls _).map _ = some d from e)
  have := getBls_map e1
  subst this
  obtain ⟨a, vs, rfl, h1, q1⟩ := r1.lst_inv
  have := q1.bls
  subst this
  exact ⟨a, ns, rfl, .of h1, q _ H (Grow.refl H) (.bl _)⟩
theorem ca_all : CaD X (rAll X.K) (f1 allD) := ca1 fun S H d1 d v1 Q al r1 e q => by
  cases d1 <;> first | (cases e; done) | skip
  obtain ⟨ns, e1, rfl⟩ := mapO (show (getBls _).map _ = some d from e)
  have := getBls_map e1
  subst this
  obtain ⟨a, vs, rfl, h1, q1⟩ := r1.lst_inv
  have := q1.bls
  subst this
  exact ⟨a, ns, rfl, .of h1, q _ H (Grow.refl H) (.bl _)⟩
def tupleD : D → Option D
  | .lst l => some (.tup l)
  | .tup l => some (.tup l)
  | _ => none
abbrev rTupleD (K : PySem.W.Frag) : List V → Hp → VK → Prop := fun xs H Q => ∃ p ys, xs = [.ref p] ∧ ((SqL K H p ys ∧ ∀ l, H l = none → Q (.ref l) (upd H l (.tup ys))) ∨ (SqT K H p ys ∧ Q (.ref p) H))
theorem ca_tuple : CaD X (rTupleD X.K) (f1 tupleD) := ca1 fun S H d1 d v1 Q al r1 e q => by
  cases d1 <;> first | (cases e; done) | skip
  · cases e
    obtain ⟨a, vs, rfl, h1, h1', q1⟩ := r1.tup_inv
    exact ⟨a, vs, rfl, .inr ⟨h1, q _ H (Grow.refl H) (.tup h1' q1)⟩⟩
  · cases e
    obtain ⟨a, vs, rfl, h1, q1⟩ := r1.lst_inv
    exact ⟨a, vs, rfl, .inl ⟨.of h1, fun p hp => q _ _ (Grow.upd hp) (new_tup al hp q1)⟩⟩
def listD : D → Option (List D)
  | .lst l => some l
  | .tup l => some l
  | .scr ns => some (ns.map D.int)
  | _ => none
abbrev rListD (K : PySem.W.Frag) : List V → Hp → VK → Prop := fun xs H Q => ∃ p ys, xs = [.ref p] ∧ (SqL K H p ys ∨ SqT K H p ys) ∧ ∀ l, H l = none → Q (.ref l) (upd H l (.lst ys))
theorem co_list : CaO X (rListD X.K) (f1L listD) := co1 fun S H d1 d v1 Q al r1 e q => by
  cases d1 <;> first | (cases e; done) | skip
  · cases e
    obtain ⟨a, vs, rfl, h1, h1', q1⟩ := r1.tup_inv
    exact ⟨a, vs, rfl, .inr h1, fun p hp => q p H vs (Grow.refl H) hp q1⟩
  · cases e
    obtain ⟨a, vs, rfl, h1, q1⟩ := r1.lst_inv
    exact ⟨a, vs, rfl, .inl (.of h1), fun p hp => q p H vs (Grow.refl H) hp q1⟩
  · cases e
    cases r1 with
    | rf r1 =>
      cases r1 with
      | scr h => exact ⟨_, _, rfl, .inl ((hide_le _ _).seqL h), fun p hp => q p H _ (Grow.refl H) hp (Rfs.of_ints _)⟩
/-! ### in -/
def dIn : D → D → Option D
  | d, .lst l => if pyOk 39 d && l.all (pyOk 39) then some (.bl (l.any fun z => dq z d)) else none
  | _, _ => none
def dNotIn : D → D → Option D
  | d, .lst l => if pyOk 39 d && l.all (pyOk 39) then some (.bl (!l.any fun z => dq z d)) else none
  | _, _ => none
theorem any_pys {d : D} (hd : pyOk 39 d = true) : ∀ (l : List D), l.all (pyOk 39) = true → (pys l).any (fun z => PyData.eqv z (py d)) = l.any fun z => dq z d
  | [], _ => rfl
  | a :: r, h => by
    simp only [List.all_cons, Bool.and_eq_true] at h
    simp only [pys, List.any_cons, eqv_dq 39 a d h.1 hd, any_pys hd r h.2]
theorem shaped_of39 {d : D} (h : pyOk 39 d = true) : SeqAt.shaped (py d) = true := by
  have := pyOk_ok 39 d h
  unfold SeqAt.shaped
  rw [this.1, Bool.true_and]
  exact decide_eq_true (by omega)
theorem Rv.dpL {K : PySem.W.Frag} {mg : Str → Option Value} {S : List Addr} {H : Hp} {l : List D} {v : V} (r : Rv K mg S H (.lst l) v) (h : l.all (pyOk 39) = true) : Dp K H v (.list (pys l)) := r.dp (n := 40) h
theorem od_in : OpD X (rInD X.K) dIn := fun S H d1 d2 d v1 v2 Q al r1 r2 e q => by
  cases d2 <;> first | (cases e; done) | (cases d1 <;> cases e; done) | skip
  rename_i l
  obtain ⟨h, e⟩ := ifSome' (show (if pyOk 39 d1 && l.all (pyOk 39) then some (D.bl (l.any fun z => dq z d1)) else none) = some d by cases d1 <;> exact e)
  subst e
  rw [Bool.and_eq_true] at h
  exact ⟨_, _, r1.dp h.1, r2.dpL h.2, shaped_of39 h.1, shaped_of (d := .lst l) h.2, by rw [any_pys h.1 l h.2]; exact q _ H (Grow.refl H) (.bl _)⟩
theorem od_notIn : OpD X (rNotInD X.K) dNotIn := fun S H d1 d2 d v1 v2 Q al r1 r2 e q => by
  cases d2 <;> first | (cases e; done) | (cases d1 <;> cases e; done) | skip
  rename_i l
  obtain ⟨h, e⟩ := ifSome' (show (if pyOk 39 d1 && l.all (pyOk 39) then some (D.bl (!l.any fun z => dq z d1)) else none) = some d by cases d1 <;> exact e)
  subst e
  rw [Bool.and_eq_true] at h
  exact ⟨_, _, r1.dp h.1, r2.dpL h.2, shaped_of39 h.1, shaped_of (d := .lst l) h.2, by rw [any_pys h.1 l h.2]; exact q _ H (Grow.refl H) (.bl _)⟩
/-! ### isinstance -/
inductive Bt where
  | int | bool | str | list | tuple
  deriving DecidableEq
def Bt.nm : Bt → String
  | .int => "int"
  | .bool => "bool"
  | .str => "str"
  | .list => "list"
  | .tuple => "tuple"
def isB : Bt → D → Option Bool
  | b, .non => some false
  | b, .bl _ => some (decide (b = .bool) || decide (b = .int))
  | b, .int _ => some (decide (b = .int))
  | b, .str _ => some (decide (b = .str))
  | b, .tup _ => some (decide (b = .tuple))
  | b, .lst _ => some (decide (b = .list))
  | _, _ => none
def tyNm : D → String
  | .non => "NoneType"
  | .bl _ => "bool"
  | .int _ => "int"
  | .str _ => "str"
  | .tup _ => "tuple"
  | _ => "list"
theorem kit_isB {K : PySem.W.Frag} {b : Bt} {d : D} {r : Bool} (e : isB b d = some r) : PySem.W.kitOne K (.type (tyNm d)) (.type b.nm) = some r := by
  cases d <;> first | (cases e; done) | skip
  all_goals (cases b <;> cases e <;> refine kit_ty ?_ <;> simp only [tyNm, Bt.nm] <;> decide +kernel)
theorem Rv.tyx {K : PySem.W.Frag} {mg : Str → Option Value} {S : List Addr} {H : Hp} {d : D} {v : V} {b : Bt} {r : Bool} (h : Rv K mg S H d v) (e : isB b d = some r) : TyX K H v (.type (tyNm d)) := by
  cases d with
  | non => rw [h.non_inv]; exact .base .non
  | bl b => rw [h.bl_inv]; exact .base (.bl b)
  | int i => rw [h.int_inv]; exact .base (.int i)
  | str s => rw [h.str_inv]; exact .base (.str s)
  | tup l =>
    obtain ⟨a, vs, rfl, h1, _, _⟩ := h.tup_inv
    rcases h1 with (h1 | ⟨o, h1⟩) | ⟨o, its, n, h1, h2, _⟩
    · exact .base (.tup h1)
    · exact .fTuple h1
    · exact .kTuple h1 h2
  | lst l =>
    obtain ⟨a, vs, rfl, h1, _⟩ := h.lst_inv
    exact .base (.lst h1)
  | dct l => cases e
  | set l => cases e
  | obj c l => cases e
  | scr l => cases e
/-- isinstance(e, T): the class is written -/
def eIsI (b : Bt) (f : Ef) : Ef := fun ρ => (f ρ).bind fun p => (isB b (p.1.res p.2)).bind fun k => some (.v (.bl k), p.2)
theorem de_isI {τ : List Ty} {e : Expr} {f : Ef} {p pos pos2 : Pos} {x T : Str} (b : Bt) (hg : Gl X x) (hm : X.mg x = none) (hv : bootBuiltins x = some (.builtin "isinstance")) (hg2 : Gl X T) (hm2 : X.mg T = none) (hv2 : bootBuiltins T = some (.type b.nm)) (he : DE X e τ f) (hn : x ≠ "__name__" := by decide) (hdb : (x == ("__debug__" : Str)) = false := by decide) (hn2 : T ≠ "__name__" := by decide) (hdb2 : (T == ("__debug__" : Str)) = false := by decide)
    (hs : starEach [e, .Name T pos2] X.env = (false, eval e X.env) :: starEach [.Name T pos2] X.env := by rfl) (hs2 : starEach [Expr.Name T pos2] X.env = (false, eval (.Name T pos2) X.env) :: starEach [] X.env := by rfl) (hpl : (backTo pos (starEach [Expr.Name T pos2] X.env)).any (·.1) = false := by rfl) :
    DE X (.Call (.Name x p) [e, .Name T pos2] [] pos) τ (eIsI b f) := pe_imp (pe_callB call_isi hg hm hv (pa_cons he (pa_cons (pe_bltn (v := .ty b.nm) (u := .type b.nm) hg2 hm2 hv2 rfl hn2 hdb2) pa_nil hs2) hs) hn hdb hs hpl) fun σ H Q ⟨R, ρ, fs, h, ρ', s, e, q⟩ => by
  obtain ⟨w, e1, e2⟩ := bindO e
  obtain ⟨k, e3, e4⟩ := bindO e2
  cases e4
  refine ⟨R, ρ, fs, w.1, w.2, s, e1, fun v H1 fs1 t1 s1 r => ?_⟩
  exact ⟨v, .ty b.nm, _, _, k, rfl, .ty _, (s1.res r).tyx e3, kit_isB e3, q _ H1 fs1 t1 s1 (.bl _)⟩
end
end TL

namespace TL
open PySem PySem.Spec PyProof.Rows L2

/-- a def of the text as it stands behind the top -/
structure Dfn (K : PySem.W.Frag) (mg : Str → Option Value) (x : Str) (st : Stmt) (ps : List Str) (f : Addr) (fd : FuncData) : Prop where
  fn : Fun K x x st f fd
  mg : mg x = some (.ref f)
  bd : Binds K fd ps []
/-- a def that may be called -/
structure Cal (P : Program) (w : World) (K : PySem.W.Frag) (mg : Str → Option Value) (base : Heap) (f : Addr) (fd : FuncData) (x : Str) (k : Nat) (ps : List Str) (sg : Sg) (G : Fm) : Prop where
  ok : FnD P w K mg base k f fd ps sg G
  mg : mg x = some (.ref f)
  kp : PySem.W.keepIn K (.ref f) = true
  bd : Binds K fd ps []
  len : ∀ ds r, G ds = some r → ds.length = sg.ps.length
section
variable {P : Program} {w : World} {K : PySem.W.Frag} {mg : Str → Option Value} {base : Heap} {f : Addr} {fd : FuncData} {x : Str} {k j : Nat} {ps : List Str} {sg : Sg} {G G' : Fm}
theorem Cal.mono (c : Cal P w K mg base f fd x j ps sg G) (h : j ≤ k) : Cal P w K mg base f fd x k ps sg G := ⟨FnOk.mono c.ok h, c.mg, c.kp, c.bd, c.len⟩
theorem Cal.of (c : Cal P w K mg base f fd x k ps sg G) (le : ∀ ds r, G' ds = some r → G ds = some r) : Cal P w K mg base f fd x k ps sg G' := ⟨c.ok.of le, c.mg, c.kp, c.bd, fun ds r h => c.len ds r (le ds r h)⟩
theorem runF_len {b : Sf} {n m : Nat} : ∀ ds r, runF b n m ds = some r → ds.length = n := fun ds r e => by
  unfold runF at e
  by_cases h : ds.length = n
  · exact h
  · rw [if_neg h] at e; cases e
/-- the rule for a def -/
theorem cal_ok {b : Sf} {τ' : List Ty} {st : Stmt} {N : List Str} (D : Dfn K mg x st ps f fd) (S : FnScope N ps (defScope st)) (γ : Gm) (m : Nat) (hn : sg.ps.length = ps.length := by rfl) (hm : sg.ps.length + m = N.length := by rfl)
    (hio : γ.io = ioOf (sg.ps.map Ty.io) := by rfl) (hret : γ.ret = sg.ret := by rfl) (hrty : γ.rty = sg.ps.map Ty.io ++ List.replicate m .no := by rfl) (hnx : leTb γ.rty τ' = true := by rfl) (hfall : sg.ret = .sh ∨ ∀ ρ ρ', b ρ ≠ some (.nx ρ'))
    (hbody : ∀ (cdv : Value) (A : Around) (outer : List PySem.Env) (s : Shared) (H : Hp) (E : XK), Room k (A.deeper (envOfC x (defScope st) s.heap.objs.size f cdv)) →
      DSs (cxOf CX0 P w K mg base N x (defScope st) f cdv A outer s H E).nox γ (defBody st) (sg.ps ++ List.replicate m .no) b τ') :
    Cal P w K mg base f fd x (k + 1) ps sg (runF b sg.ps.length m) :=
  ⟨fn_ok D.fn S sg γ m hn hm hio hret hrty hnx hfall hbody, D.mg, D.fn.kp, D.bd, runF_len⟩
/-- .. with a number of turns for its whiles -/
theorem Cal.ofN {F : Nat → Fm} (h : ∀ n, Cal P w K mg base f fd x k ps sg (F n)) (le : ∀ ds r, G ds = some r → ∃ n, F n ds = some r) : Cal P w K mg base f fd x k ps sg G :=
  ⟨FnD.ofN (fun n => (h n).ok) le, (h 0).mg, (h 0).kp, (h 0).bd, fun ds r h1 => by
    obtain ⟨n, h2⟩ := le ds r h1
    exact (h n).len ds r h2⟩
end
section
variable {X : Cx} {τ : List Ty} {e : Expr} {es : List Expr} {pos p : Pos} {f : Addr} {fd : FuncData} {x : Str} {k : Nat} {ps : List Str} {sg : Sg} {F : Fm}
theorem do_fn {g : Af} (c : Cal X.prog X.w X.K X.mg X.base f fd x k ps sg F) (hr : Room k X.A) (n : Nat) (hg : Gl X x) (ha : DA X (e :: es) τ g) (hps : sg.ps = List.replicate n .sh := by rfl) (hdb : (x == ("__debug__" : Str)) = false := by decide) (he : starEach (e :: es) X.env = (false, eval e X.env) :: starEach es X.env := by rfl) (hpl : (backTo pos (starEach es X.env)).any (·.1) = false := by rfl) :
    DO X (.Call (.Name x p) (e :: es) [] pos) τ (oCall F g) sg.ret := do_call c.ok hr hg c.mg c.kp c.bd ha n hps (fun ds r h => by rw [c.len ds r h, hps]; simp) hdb he hpl
theorem do_fnB {g : Af} (c : Cal X.prog X.w X.K X.mg X.base f fd x k ps sg F) (hr : Room k X.A) (n : Nat) (hg : Gl X x) (ha : DA X (e :: es) τ g) (hps : sg.ps = List.replicate n .sh := by rfl) (hdb : (x == ("__debug__" : Str)) = false := by decide) (he : starEach (e :: es) X.env = (false, eval e X.env) :: starEach es X.env := by rfl) (hpl : (backTo pos (starEach es X.env)).any (·.1) = false := by rfl) :
    DO X (.Call (.Name x p) (e :: es) [] pos) τ (oCallB sg.ret F g) sg.ret := do_callB' c.ok hr hg c.mg c.kp c.bd ha n hps (fun ds r h => by rw [c.len ds r h, hps]; simp) hdb he hpl
theorem do_fnI {g : Af} {t : Ty} (c : Cal X.prog X.w X.K X.mg X.base f fd x k ps sg F) (hr : Room k X.A) (i j n : Nat) (hg : Gl X x) (ha : DAi X (e :: es) τ g) (hps : sg.ps = ioPs n j t := by rfl) (ht : τ[i]? = some t := by rfl) (hno : t ≠ .no := by intro z; cases z) (hsh : t.io = t := by rfl) (hdb : (x == ("__debug__" : Str)) = false := by decide) (he : starEach (e :: es) X.env = (false, eval e X.env) :: starEach es X.env := by rfl) (hpl : (backTo pos (starEach es X.env)).any (·.1) = false := by rfl) :
    DO X (.Call (.Name x p) (e :: es) [] pos) τ (oCallI F i j g) sg.ret := do_callI i j n c.ok hr hg c.mg c.kp c.bd ha hps (fun ds r h => by rw [c.len ds r h, hps]; simp [ioPs]) ht hno hsh hdb he hpl
end
/-! ### names of built-ins -/
theorem bt_len : bootBuiltins "len" = some (.builtin "len") := by decide +kernel
theorem bt_abs : bootBuiltins "abs" = some (.builtin "abs") := by decide +kernel
theorem bt_sum : bootBuiltins "sum" = some (.builtin "sum") := by decide +kernel
theorem bt_max : bootBuiltins "max" = some (.builtin "max") := by decide +kernel
theorem bt_min : bootBuiltins "min" = some (.builtin "min") := by decide +kernel
theorem bt_any : bootBuiltins "any" = some (.builtin "any") := by decide +kernel
theorem bt_all : bootBuiltins "all" = some (.builtin "all") := by decide +kernel
theorem bt_sorted : bootBuiltins "sorted" = some (.builtin "sorted") := by decide +kernel
theorem bt_isinstance : bootBuiltins "isinstance" = some (.builtin "isinstance") := by decide +kernel
theorem bt_int : bootBuiltins "int" = some (.type "int") := by decide +kernel
theorem bt_bool : bootBuiltins "bool" = some (.type "bool") := by decide +kernel
theorem bt_str : bootBuiltins "str" = some (.type "str") := by decide +kernel
theorem bt_tuple : bootBuiltins "tuple" = some (.type "tuple") := by decide +kernel
theorem bt_list : bootBuiltins "list" = some (.type "list") := by decide +kernel
theorem bt_dict : bootBuiltins "dict" = some (.type "dict") := by decide +kernel
theorem bt_set : bootBuiltins "set" = some (.type "set") := by decide +kernel
theorem hu64 {k : Nat} {A : Around} (r : Room k A) : A.units + 64 < cLine := r.units
theorem hu65 {k : Nat} {A : Around} (r : Room k A) : A.units + 65 < cLine := by
  have := r.un
  omega
/-! ### blocks that do not fall through -/
def NN (f : Sf) : Prop := ∀ ρ ρ', f ρ ≠ some (.nx ρ')
theorem nn_ret {f : Ef} : NN (sRet f) := fun ρ ρ' e => by
  obtain ⟨p, _, e2⟩ := bindO e
  obtain ⟨p1, p2⟩ := p
  cases p1 <;> cases e2
theorem nn_retO {f : Of} : NN (sRetO f) := fun ρ ρ' e => by
  obtain ⟨p, _, e2⟩ := bindO e
  cases e2
theorem nn_retX {i : Nat} : NN (sRetX i) := fun ρ ρ' e => by cases e
theorem nn_retN : NN sRetN := fun ρ ρ' e => by cases e
theorem nn_seq {f g : Sf} (h : NN g) : NN (sSeq f g) := fun ρ ρ' e => by
  obtain ⟨o, _, e2⟩ := bindO e
  cases o with
  | nx r => exact h _ _ e2
  | _ => cases e2
theorem nn_if {t : Tf} {f g : Sf} (h : NN f) (k : NN g) : NN (sIf t f g) := fun ρ ρ' e => by
  obtain ⟨p, _, e2⟩ := bindO e
  cases hp : p.1 with
  | true => rw [hp] at e2; exact h _ _ e2
  | false => rw [hp] at e2; exact k _ _ e2
/-! ### slots forgotten ahead of a block -/
def sKb (ks : List Nat) (f : Sf) : Sf := fun ρ => f (kill ks ρ)
theorem dss_killB {X : Cx} {γ : Gm} {τ τ' : List Ty} {sts : List Stmt} {f : Sf} (ks : List Nat) (h : DSs X γ sts (killT ks τ) f τ') : DSs X γ sts τ (sKb ks f) τ' := pss_imp h fun D σ H ⟨R, ρ, fs, o, s, e, q⟩ => by
  obtain ⟨fs1, s1, sub⟩ := s.killS ks
  exact ⟨R, kill ks ρ, fs1, o, s1, e, q.mono ((Step.refl H fs).less sub) (Kp.refl _ _) (fun ρ' σ' H' fs' eo t' k' s' => by subst eo; exact q σ' H' fs' t' k' s') rfl rfl rfl⟩
/-! ### the law -/
/-- the law's promise: True at every script -/
def sgL : Sg := ⟨[.sh], .sh⟩
def lawF (F : Fm) : Prop := ∀ ns : List Int, ns.length ≤ 63 → ∃ r, F [.scr ns] = some (.bl true, r)
theorem law_sp {K : PySem.W.Frag} {mg : Str → Option Value} {F : Fm} (h : lawF F) {H : Hp} {a : Addr} {ns : List Int} (hl : ns.length ≤ 63) (hS : SqL K H a (ns.map V.int)) {E : XK} : spD K mg sgL F [.ref a] H (fun v _ => v = .bl true) E := by
  obtain ⟨r, e⟩ := h ns hl
  refine ⟨[], [.scr ns], [], .bl true, r, ⟨.cons (f := []) (g := []) (.sh (.scr ?_)) .nil, List.nodup_nil, fun a ha => nomatch ha⟩, e, fun v H' fs' fv _ _ rp => ?_⟩
  · have eq : hide [] H = H := by funext a; simp [hide]
    rw [show ([] : List Addr) ++ [] = [] from rfl, eq]
    exact hS
  · cases rp with
    | sh rf => cases rf; rfl
end TL

/-! ### sorted of tuples of ints -/
namespace TL
open PySem PySem.Spec PyProof.Rows L2
theorem lexLt_asym : ∀ (x y : List Int), HT.lexLt x y = true → HT.lexLt y x = false
  | [], [], h => by simp [HT.lexLt] at h
  | [], _ :: _, _ => rfl
  | _ :: _, [], h => by simp [HT.lexLt] at h
  | a :: x, b :: y, h => by
    rw [HT.lexLt_cons] at h ⊢
    by_cases e : a = b
    · subst e
      simp only [if_true] at h ⊢
      exact lexLt_asym x y h
    · rw [if_neg e] at h
      rw [if_neg (fun z => e z.symm)]
      have := of_decide_eq_true h
      exact decide_eq_false (by omega)
theorem lexLt_tr : ∀ (x y z : List Int), HT.lexLt y x = false → HT.lexLt z y = false → HT.lexLt z x = false
  | [], y, z, h1, h2 => by
    cases y with
    | nil => exact h2
    | cons b y =>
      cases z with
      | nil => rfl
      | cons c z => rfl
  | a :: x, [], z, h1, h2 => by simp [HT.lexLt] at h1
  | a :: x, b :: y, [], h1, h2 => by simp [HT.lexLt] at h2
  | a :: x, b :: y, c :: z, h1, h2 => by
    rw [HT.lexLt_cons] at h1 h2 ⊢
    by_cases e1 : b = a
    · subst e1
      by_cases e2 : c = b
      · subst e2
        simp only [if_true] at h1 h2 ⊢
        exact lexLt_tr x y z h1 h2
      · rw [if_neg e2] at h2 ⊢
        exact h2
    · rw [if_neg e1] at h1
      by_cases e2 : c = b
      · subst e2
        rw [if_neg e1]
        exact h1
      · rw [if_neg e2] at h2
        have a1 := of_decide_eq_false h1
        have a2 := of_decide_eq_false h2
        rw [if_neg (by omega)]
        exact decide_eq_false (by omega)
theorem lexLt_eq : ∀ (x y : List Int), HT.lexLt x y = false → HT.lexLt y x = false → x = y
  | [], [], _, _ => rfl
  | [], _ :: _, h, _ => by simp [HT.lexLt] at h
  | _ :: _, [], _, h => by simp [HT.lexLt] at h
  | a :: x, b :: y, h1, h2 => by
    rw [HT.lexLt_cons] at h1 h2
    by_cases e : a = b
    · subst e
      simp only [if_true] at h1 h2
      rw [lexLt_eq x y h1 h2]
    · rw [if_neg e] at h1
      rw [if_neg (fun z => e z.symm)] at h2
      have a1 := of_decide_eq_false h1
      have a2 := of_decide_eq_false h2
      omega
/-- sorted, as a function -/
def sortRows (l : List (List Int)) : List (List Int) := l.mergeSort fun a b => !HT.lexLt b a
theorem sortRows_perm (l : List (List Int)) : (sortRows l).Perm l := List.mergeSort_perm _ _
theorem sortRows_srt (l : List (List Int)) : (sortRows l).Pairwise fun a b => HT.lexLt b a = false := by
  have := List.pairwise_mergeSort (le := fun a b => !HT.lexLt b a) (fun a b c h1 h2 => by
    simp only [Bool.not_eq_true'] at h1 h2 ⊢
    exact lexLt_tr a b c h1 h2) (fun a b => by
    cases h : HT.lexLt b a with
    | false => simp
    | true => simp [lexLt_asym b a h]) l
  exact this.imp fun h => by simpa using h
theorem srt_uniq {α : Type} {lt : α → α → Bool} (ae : ∀ x y, lt x y = false → lt y x = false → x = y) : ∀ {l m : List α}, l.Perm m → (l.Pairwise fun a b => lt b a = false) → (m.Pairwise fun a b => lt b a = false) → l = m
  | [], m, p, _, _ => by simpa using p.symm.eq_nil
  | x :: l, [], p, _, _ => by simpa using p.eq_nil
  | x :: l, y :: m, p, h1, h2 => by
    have hxy : x = y := by
      have hx : x ∈ y :: m := p.mem_iff.mp (by simp)
      have hy : y ∈ x :: l := p.mem_iff.mpr (by simp)
      rcases List.mem_cons.mp hx with e | hx
      · exact e
      rcases List.mem_cons.mp hy with e | hy
      · exact e.symm
      exact ae x y ((List.pairwise_cons.mp h2).1 x hx) ((List.pairwise_cons.mp h1).1 y hy)
    subst hxy
    rw [srt_uniq ae p.cons_inv (List.pairwise_cons.mp h1).2 (List.pairwise_cons.mp h2).2]
end TL
namespace SrtO
open PySem PySem.Calls PyProof.Rows
/-- a tuple of ints -/
def IsRow (h : Heap) (v : Value) (ns : List Int) : Prop := ∃ (a : Addr) (us : List Value), v = .ref a ∧ IsTup h a us.toArray ∧ IntsAre us ns
theorem ints_inj : ∀ {us : List Value} {ns ms : List Int}, IntsAre us ns → IntsAre us ms → ns = ms := fun {us ns ms} h k => by
  have h1 := L2.vals_of_ints h
  have h2 := L2.vals_of_ints k
  have := L2.Vals.inj h1 h2
  exact (List.map_inj_right (fun a b e => by injection e)).mp this
theorem IsRow.inj {h : Heap} {v : Value} {ns ms : List Int} (x : IsRow h v ns) (y : IsRow h v ms) : ns = ms := by
  obtain ⟨a, us, rfl, ⟨o, e, _, n, d⟩, i⟩ := x
  obtain ⟨b, ws, e2, ⟨o', e', _, n', d'⟩, j⟩ := y
  cases e2
  rw [e] at e'; cases e'
  rw [d] at d'
  injection d' with d1 _
  have : us = ws := by simpa using congrArg Array.toList d1
  subst this
  exact ints_inj i j
open Classical in
noncomputable def rowOf (h : Heap) (v : Value) : List Int := if x : ∃ ns, IsRow h v ns then x.choose else []
theorem rowOf_eq {h : Heap} {v : Value} {ns : List Int} (x : IsRow h v ns) : rowOf h v = ns := by
  unfold rowOf
  have e : ∃ ns, IsRow h v ns := ⟨ns, x⟩
  rw [dif_pos e]
  exact e.choose_spec.inj x
theorem swo_row (k : Value → List Int) : Swo fun v u => HT.lexLt (k v) (k u) := ⟨fun x y h => TL.lexLt_asym _ _ h, fun x y z h1 h2 => TL.lexLt_tr _ _ _ h1 h2⟩
section
variable {prog : Program} {w : World} {A : Around} {E : Value → Shared → Prop} {s : Shared}
theorem kat_ints {b fin : Bool} {Q : Bool → Shared → Prop} : ∀ {xs ys : List Value} {ns ms : List Int} (i : Nat), IntsAre xs ns → IntsAre ys ms → fin = decide (ns.length < ms.length) → Q (HT.lexLt ns ms) s → PySem.W.KatLex prog w A b fin Q (xs.zip ys) i s
  | [], ys, ns, ms, i, hx, hy, hf, q => by
    have := L2.vals_of_ints hx
    cases ns with
    | nil =>
      refine PySem.W.kat_nil ?_
      rw [hf]
      cases ms <;> exact q
    | cons _ _ => cases this
  | x :: xs, [], ns, ms, i, hx, hy, hf, q => by
    have h1 := L2.vals_of_ints hx
    have h2 := L2.vals_of_ints hy
    cases ns with
    | nil => cases h1
    | cons n ns =>
      cases ms with
      | cons _ _ => cases h2
      | nil =>
        refine PySem.W.kat_nil ?_
        rw [hf]
        exact q
  | x :: xs, y :: ys, ns, ms, i, hx, hy, hf, q => by
    have h1 := L2.vals_of_ints hx
    have h2 := L2.vals_of_ints hy
    cases ns with
    | nil => cases h1
    | cons n ns =>
      cases ms with
      | nil => cases h2
      | cons m ms =>
        cases h1 with
        | cons r1 t1 =>
          cases h2 with
          | cons r2 t2 =>
            obtain ⟨t, rfl⟩ := r1
            obtain ⟨u, rfl⟩ := r2
            refine PySem.W.kat_cons (SeqAt.EqAt.int_int n t m u prog w _ _ ?_)
            refine PySem.W.kat_go (fun e1 => ?_) (fun e1 => ?_)
            · have ex : n = m := by simpa using e1
              subst ex
              refine PySem.W.kat_yes (kat_ints (i + 1) (L2.Vals.ints t1) (L2.Vals.ints t2) (by rw [hf]; simp) ?_)
              rw [HT.lexLt_cons, if_pos rfl] at q
              exact q
            · have ex : ¬ n = m := by simpa using e1
              rw [HT.lexLt_cons, if_neg ex] at q
              exact PySem.W.kat_no (TS.oneLt_ints _ q)
theorem row_cmp {vs : List Value} {k : Value → List Int} (hp : ∀ v ∈ vs, IsRow s.heap v (k v)) : Cmp prog w A s (tuples' true) (fun p => p.1 ∈ vs) (lt2 fun v u => HT.lexLt (k v) (k u)) := by
  intro p q hm hm'
  have h1 := hp _ hm
  have h2 := hp _ hm'
  show wpAny (model prog w) A (keyLt' (tuples' true) p.1 q.1) (fun r s' => s' = s ∧ r = HT.lexLt (k p.1) (k q.1)) (fun _ _ => False) s
  generalize k p.1 = x at h1 ⊢
  generalize k q.1 = y at h2 ⊢
  obtain ⟨a, us, e, ⟨o, ho, hc, n, hd⟩, hi⟩ := h1
  obtain ⟨a', us', e', ⟨o', ho', hc', n', hd'⟩, hi'⟩ := h2
  rw [e, e']
  refine PySem.W.kat_lt ho hd ho' hd' ?_
  refine kat_ints 0 hi hi' ?_ ⟨rfl, rfl⟩
  have l1 := hi.length
  have l2 := hi'.length
  simp [l1, l2]
theorem row_firsts {h : Heap} : ∀ {vs : List Value}, (∀ v ∈ vs, ∃ n ns, IsRow h v (n :: ns)) → ∃ fs : List Value, PySem.W.KatTups h vs fs ∧ fs.length = vs.length ∧ ∀ f ∈ fs, ∃ x t, f = Value.int x t
  | [], _ => ⟨[], PySem.W.KatTups.nil, rfl, fun _ hm => by simp at hm⟩
  | v :: vs, hp => by
    obtain ⟨fs, h1, h2, h3⟩ := row_firsts (vs := vs) fun v' hm => hp v' (List.mem_cons_of_mem _ hm)
    obtain ⟨x, ns, a, us, e, ⟨o, ho, hc, n, hd⟩, hi⟩ := hp v (List.mem_cons_self ..)
    subst e
    have hv := L2.vals_of_ints hi
    cases us with
    | nil => cases hv
    | cons u us =>
      cases hv with
      | cons r _ =>
        obtain ⟨t, rfl⟩ := r
        refine ⟨.int x t :: fs, PySem.W.KatTups.cons ho hc hd rfl h1, by rw [List.length_cons, List.length_cons, h2], fun f hm => ?_⟩
        rcases List.mem_cons.mp hm with z | z
        · exact ⟨x, t, z⟩
        · exact h3 f z
theorem rows_sortableO {a : Addr} {vs : List Value} {k : Value → List Int} (h0 : 0 < vs.length) (hp : ∀ v ∈ vs, IsRow s.heap v (k v)) (hne : ∀ v ∈ vs, k v ≠ []) (ha : ∀ o, s.heap.get? a = some o → o.cls ≠ .type "tuple") : SortableO prog w A s a vs fun v u => HT.lexLt (k v) (k u) := by
  intro h' keep
  have hp' : ∀ v ∈ vs, IsRow h' v (k v) := fun v hm => by
    obtain ⟨b, us, e, ⟨o, ho, hc, n, hd⟩, hi⟩ := hp v hm
    exact ⟨b, us, e, ⟨o, keep b o (fun z => by subst z; exact ha o ho hc) ho, hc, n, hd⟩, hi⟩
  obtain ⟨fs, h1, h2, h3⟩ := row_firsts (h := h') (vs := vs) fun v hm => by
    have := hp' v hm
    have hn := hne v hm
    generalize k v = x at this hn
    cases x with
    | nil => exact absurd rfl hn
    | cons n ns => exact ⟨n, ns, this⟩
  refine ⟨tuples' true, fun Q E hq => ?_, row_cmp hp'⟩
  refine PySem.W.kat_kind (T := .type "int") h1 (by omega) (fun f hm => ?_) (by rfl) ?_
  · obtain ⟨x, t, rfl⟩ := h3 f hm
    exact PySem.W.Looks.now
  · have e : (Value.type "int" != Value.type "tuple") = true := by first | decide +kernel | rfl | decide
    rw [e]
    exact hq
end
end SrtO
namespace TL
open PySem PySem.Spec PyProof.Rows L2
def RowsAt (K : PySem.W.Frag) (H : Hp) (rows : List (List Int)) (xs : List V) : Prop := Paired (fun ns x => ∃ t, x = V.ref t ∧ SqT K H t (ns.map V.int)) rows xs
def rSortedR (K : PySem.W.Frag) : List V → Hp → VK → Prop := fun vs H Q => ∃ (a : Addr) (xs : List V) (rows : List (List Int)), vs = [V.ref a] ∧ SqL K H a xs ∧ RowsAt K H rows xs ∧ (∀ r ∈ rows, r ≠ []) ∧
  ∀ ys p, RowsAt K H (sortRows rows) ys → H p = none → Q (.ref p) (upd H p (.lst ys))
theorem paired_mem {α β : Type} {F : α → β → Prop} : ∀ {l : List α} {m : List β}, Paired F l m → ∀ b ∈ m, ∃ a ∈ l, F a b
  | _, _, .nil, b, h => by simp at h
  | _, _, .cons r t, b, h => by
    rcases List.mem_cons.mp h with e | h
    · subst e; exact ⟨_, by simp, r⟩
    · obtain ⟨a, ha, f⟩ := paired_mem t b h
      exact ⟨a, by simp [ha], f⟩
theorem paired_map {α β γ : Type} {F : α → β → Prop} (g : γ → α) (k : γ → β) : ∀ {l : List γ}, (∀ c ∈ l, F (g c) (k c)) → Paired F (l.map g) (l.map k)
  | [], _ => .nil
  | c :: r, h => .cons (h c (by simp)) (paired_map g k fun d hd => h d (by simp [hd]))
section
variable {X : Cx}
theorem cr_sortedR : CallR X (.builtin "sorted") (rSortedR X.K) := by
  intro pins s σ H vs us Q I r h
  obtain ⟨a, xs, rows, rfl, hs, hr, hne, q⟩ := h
  obtain ⟨its, rv, hl, hz⟩ := I.list hs
  obtain ⟨u, rfl, ru⟩ := vals1 r
  obtain rfl : u = Value.ref a := ru
  obtain ⟨e1, e2⟩ := refs_back rv fun x m => by
    obtain ⟨ns, _, t, e, _⟩ := paired_mem hr x m
    exact ⟨t, e⟩
  have hrow : ∀ x ∈ xs, ∀ ns, (∃ t, x = V.ref t ∧ SqT X.K H t (ns.map V.int)) → ∀ u, RelV x u → SrtO.IsRow s.heap u ns := fun x _ ns ⟨t, e, hT⟩ u ru => by
    subst e
    cases (show u = Value.ref t from ru)
    obtain ⟨ts, rt, it, _⟩ := I.tuple hT
    exact ⟨t, ts, rfl, it, rt.ints⟩
  have hp : ∀ v ∈ its, SrtO.IsRow s.heap v (SrtO.rowOf s.heap v) ∧ SrtO.rowOf s.heap v ∈ rows := fun v hv => by
    obtain ⟨t, rfl⟩ := e2 v hv
    have hm : V.ref t ∈ xs := by rw [e1]; exact List.mem_map.mpr ⟨_, hv, rfl⟩
    obtain ⟨ns, hn, hx⟩ := paired_mem hr _ hm
    have w := hrow _ hm ns hx (.ref t) rfl
    rw [SrtO.rowOf_eq w]
    exact ⟨w, hn⟩
  have erows : its.map (SrtO.rowOf s.heap) = rows := by
    clear e1 hp
    have key : ∀ {rows : List (List Int)} {xs : List V} {its : List Value}, RowsAt X.K H rows xs → Vals xs its → its.map (SrtO.rowOf s.heap) = rows := by
      intro rows xs its hr
      induction hr generalizing its with
      | nil => intro rv; cases rv; rfl
      | cons h _ ih =>
        intro rv
        cases rv with
        | cons r rt =>
          rw [List.map_cons, ih rt]
          congr 1
          obtain ⟨t, e, hT⟩ := h
          subst e
          cases (show _ = Value.ref t from r)
          obtain ⟨ts, rt', it, _⟩ := I.tuple hT
          exact SrtO.rowOf_eq ⟨t, ts, rfl, it, rt'.ints⟩
    exact key hr rv
  refine SrtO.sorted_ord (SrtO.swo_row (SrtO.rowOf s.heap)) hl.isList (by rw [← rv.length]; exact hz) (fun h2 h₁ a' ha kk => ?_) fun out h1 h2 => ?_
  · refine SrtO.rows_sortableO (s := { s with heap := h₁ }) (by omega) (fun v hm => ?_) (fun v hm => hne _ (hp v hm).2) fun o e => ?_
    · obtain ⟨b, ws, e, it, hi⟩ := (hp v hm).1
      exact ⟨b, ws, e, it.keeps fun c o eo => (kk c o eo).2, hi⟩
    · have e' : some o = some _ := e.symm.trans ha
      cases e'
      intro c
      exact absurd (Value.type.inj c) (by decide)
  · have h3 : ∀ u ∈ out, ∃ a, u = Value.ref a := fun u hu => e2 u (h2.perm.mem_iff.mp hu)
    have esort : out.map (SrtO.rowOf s.heap) = sortRows rows := by
      refine srt_uniq (lt := HT.lexLt) (fun x y h k => lexLt_eq x y h k) ?_ ?_ (sortRows_srt rows)
      · rw [← erows]
        exact (h2.perm.map _).trans (sortRows_perm _).symm
      · exact List.pairwise_map.mpr h1
    have hys : RowsAt X.K H (sortRows rows) (out.map backV) := by
      rw [← esort]
      refine paired_map _ _ fun u hu => ?_
      have hm := h2.perm.mem_iff.mp hu
      obtain ⟨t, rfl⟩ := e2 u hm
      have hx : V.ref t ∈ xs := by rw [e1]; exact List.mem_map.mpr ⟨_, hm, rfl⟩
      obtain ⟨ns, hn, hxs⟩ := paired_mem hr _ hx
      have w := hrow _ hx ns hxs (.ref t) rfl
      rw [SrtO.rowOf_eq w]
      exact hxs
    obtain ⟨ep, he'⟩ := PyProof.Rows.sortedAll_at s.heap its out.toArray
    have hlen : (out.map backV).length ≤ sizeLine := by
      rw [List.length_map, h2.perm.length_eq, ← rv.length]
      exact hz
    exact ⟨.ref _, upd H (s.heap.objs.size + 1) (.lst (out.map backV)), I.laid (t' := s.toks) (fun _ _ => PyProof.Rows.sortedAll_old) (Nat.le_succ _) ⟨hlen, out, ep, vals_back h3, he'⟩, rfl, q _ _ hys (I.hok.fresh (Nat.le_succ _))⟩
def rowD (ns : List Int) : D := .tup (ns.map D.int)
def getRows : List D → Option (List (List Int))
  | [] => some []
  | .tup l :: r => (getInts l).bind fun ns => if ns.isEmpty then none else (getRows r).map (ns :: ·)
  | _ :: _ => none
theorem getRows_of : ∀ {rows : List (List Int)}, (∀ r ∈ rows, r ≠ []) → getRows (rows.map rowD) = some rows
  | [], _ => rfl
  | r :: rows, h => by
    have hr : r.isEmpty = false := by
      cases r with
      | nil => exact absurd rfl (h [] (by simp))
      | cons _ _ => rfl
    simp [getRows, rowD, hr]
    exact ⟨h r (by simp), getRows_of (rows := rows) fun x hx => h x (List.mem_cons_of_mem _ hx)⟩
theorem getRows_inv : ∀ {l : List D} {rows : List (List Int)}, getRows l = some rows → l = rows.map rowD ∧ ∀ r ∈ rows, r ≠ []
  | [], _, e => by cases e; exact ⟨rfl, by simp⟩
  | d :: r, rows, e => by
    cases d <;> first | (cases e; done) | skip
    rename_i l
    obtain ⟨ns, e1, e2⟩ := bindO (show (getInts l).bind _ = some rows from e)
    cases hn : ns with
    | nil => rw [hn] at e2; cases e2
    | cons n ns' =>
      rw [hn] at e2
      obtain ⟨rs, e3, e4⟩ := mapO (show (getRows r).map _ = some rows from e2)
      obtain ⟨h1, h2⟩ := getRows_inv e3
      subst e4
      refine ⟨?_, fun x hx => ?_⟩
      · rw [List.map_cons, ← h1, rowD, ← hn, getInts_map e1]
      · rcases List.mem_cons.mp hx with z | z
        · subst z; simp
        · exact h2 x z
def sortR : D → Option (List D)
  | .lst l => (getRows l).map fun rows => (sortRows rows).map rowD
  | _ => none
theorem rows_rf {K : PySem.W.Frag} {mg : Str → Option Value} {G : Hp} : ∀ {rows : List (List Int)} {vs : List V}, RowsAt K G rows vs → Rfs K mg G (rows.map rowD) vs
  | _, _, .nil => .nil
  | _, _, .cons ⟨t, e, h⟩ r => by
    subst e
    exact .cons (.tup h (Rfs.of_ints _)) (rows_rf r)
theorem rf_rows {K : PySem.W.Frag} {mg : Str → Option Value} {G : Hp} : ∀ {rows : List (List Int)} {vs : List V}, Rfs K mg G (rows.map rowD) vs → RowsAt K G rows vs
  | [], _, r => by cases r; exact .nil
  | ns :: rows, _, r => by
    cases r with
    | cons h r =>
      cases h with
      | tup hT q =>
        have := q.ints
        subst this
        exact .cons ⟨_, rfl, hT⟩ (rf_rows r)
theorem RowsAt.mono {K : PySem.W.Frag} {G G' : Hp} (e : Le G G') {rows : List (List Int)} {vs : List V} (h : RowsAt K G rows vs) : RowsAt K G' rows vs := Paired.mapP h fun _ _ ⟨t, a, b⟩ => ⟨t, a, e.seqT b⟩
/-- what a hidden heap shows of tuples that a whole heap shows -/
theorem RowsAt.hide {K : PySem.W.Frag} {S : List Addr} {H : Hp} (al : ∀ a ∈ S, ∃ o, H a = some o ∧ Own o) {rows : List (List Int)} {vs : List V} (h : RowsAt K H rows vs) : RowsAt K (hide S H) rows vs := Paired.mapP h fun _ _ ⟨t, a, b⟩ => by
  refine ⟨t, a, ?_⟩
  have hid : ∀ o, H t = some o → ¬ Own o → TL.hide S H t = some o := fun o e n => hide_some.mpr ⟨fun z => by
    obtain ⟨o', e', w⟩ := al t z
    rw [e] at e'; cases e'; exact n w, e⟩
  rcases b with (b | ⟨o, b⟩) | b
  · exact .inl (.inl (hid _ b fun z => z))
  · exact .inl (.inr ⟨o, hid _ b fun z => z⟩)
  · exact .inr b
theorem co_sortR : CaO X (rSortedR X.K) (f1L sortR) := co1 fun S H d1 d v1 Q al r1 e q => by
  cases d1 <;> first | (cases e; done) | skip
  rename_i l
  obtain ⟨rows, e1, rfl⟩ := mapO (show (getRows l).map _ = some d from e)
  obtain ⟨rfl, hne⟩ := getRows_inv e1
  obtain ⟨a, vs, rfl, h1, q1⟩ := r1.lst_inv
  exact ⟨a, vs, rows, rfl, .of h1, (rf_rows q1).mono (hide_le _ _), hne, fun ys p hy hp => q p H ys (Grow.refl H) hp (rows_rf (hy.hide al))⟩
def sortInts (ns : List Int) : List Int := ns.mergeSort fun a b => decide (a ≤ b)
theorem sortInts_perm (l : List Int) : (sortInts l).Perm l := List.mergeSort_perm _ _
theorem sortInts_srt (l : List Int) : (sortInts l).Pairwise (· ≤ ·) := by
  have := List.pairwise_mergeSort (le := fun a b : Int => decide (a ≤ b)) (fun a b c h1 h2 => by
    simp only [decide_eq_true_eq] at h1 h2 ⊢
    omega) (fun a b => by
    simp only [Bool.or_eq_true, decide_eq_true_eq]
    omega) l
  exact this.imp fun h => by simpa using h
theorem ints_uniq {l m : List Int} (p : l.Perm m) (h1 : l.Pairwise (· ≤ ·)) (h2 : m.Pairwise (· ≤ ·)) : l = m :=
  srt_uniq (lt := fun a b : Int => decide (a < b)) (fun x y a b => by
    have := of_decide_eq_false a
    have := of_decide_eq_false b
    omega) p (h1.imp fun h => decide_eq_false (by omega)) (h2.imp fun h => decide_eq_false (by omega))
def sortI : D → Option (List D)
  | .lst l => (getInts l).map fun ns => (sortInts ns).map D.int
  | _ => none
theorem co_sortI : CaO X (rSortedI X.K) (f1L sortI) := co1 fun S H d1 d v1 Q al r1 e q => by
  cases d1 <;> first | (cases e; done) | skip
  rename_i l
  obtain ⟨ns, e1, rfl⟩ := mapO (show (getInts l).map _ = some d from e)
  have := getInts_map e1
  subst this
  obtain ⟨a, vs, rfl, h1, q1⟩ := r1.lst_inv
  have := q1.ints
  subst this
  refine ⟨a, ns, rfl, .of h1, fun ns' p hp hs hn => ?_⟩
  rw [ints_uniq (hp.trans (sortInts_perm ns).symm) hs (sortInts_srt ns)]
  exact q p H _ (Grow.refl H) hn (Rfs.of_ints _)
end
/-! ### zip -/
def zipD (l m : List D) : List D := (l.zip m).map fun p => .tup [p.1, p.2]
def iZp (f : Af) : Itf := fun ρ => (f ρ).bind fun p => match p.1 with
  | [.v (.lst l), .v (.lst m)] => some (zipD l m, p.2)
  | [.v (.tup l), .v (.tup m)] => some (zipD l m, p.2)
  | _ => none
section
variable {K : PySem.W.Frag} {mg : Str → Option Value} {G : Hp}
theorem zip_get {l m : List D} {i : Nat} {d : D} (e : (zipD l m)[i]? = some d) : ∃ a b, l[i]? = some a ∧ m[i]? = some b ∧ d = .tup [a, b] := by
  unfold zipD at e
  rw [List.getElem?_map] at e
  cases h : (l.zip m)[i]? with
  | none => rw [h] at e; cases e
  | some p =>
    rw [h] at e
    cases e
    obtain ⟨a, b⟩ := p
    obtain ⟨h1, h2⟩ := List.getElem?_zip_eq_some.mp h
    exact ⟨a, b, h1, h2, rfl⟩
theorem walks_zipT {a b : Addr} {vs ws : List V} {l m : List D} (h : SqT K G a vs) (k : SqT K G b ws) (r : Rfs K mg G l vs) (q : Rfs K mg G m ws) : Walks K mg (RZ.ItzT K a b) (zipD l m) G := fun i S H al le => by
  have h1 : SqT K H a vs := (hide_le S H).seqT (le.seqT h)
  have k1 : SqT K H b ws := (hide_le S H).seqT (le.seqT k)
  refine ⟨fun d e => ?_, fun e => ?_⟩
  · obtain ⟨x, y, e1, e2, rfl⟩ := zip_get e
    obtain ⟨v, ev, rv⟩ := r.get e1
    obtain ⟨w, ew, rw'⟩ := q.get e2
    refine ⟨⟨vs, ws, v, w, h1, k1, ev, ew⟩, fun z H' ⟨T, v', w', ez, nT, eH, f1, f2⟩ => ?_⟩
    subst ez; subst eH
    have a1 := f1 vs h1
    have a2 := f2 ws k1
    rw [ev] at a1; cases a1
    rw [ew] at a2; cases a2
    exact ⟨Grow.upd nT, new_tup al nT (.cons (rv.mono le) (.one (rw'.mono le)))⟩
  · refine ⟨vs, ws, h1, k1, ?_⟩
    have := r.length
    have := q.length
    unfold zipD at e
    simp at e
    omega
theorem walks_zipL {a b : Addr} {vs ws : List V} {l m : List D} (h : G a = some (.lst vs)) (k : G b = some (.lst ws)) (r : Rfs K mg G l vs) (q : Rfs K mg G m ws) : Walks K mg (Itz K a b) (zipD l m) G := fun i S H al le => by
  have h1 : SqL K H a vs := .of (hide_le _ _ _ _ (le _ _ h))
  have k1 : SqL K H b ws := .of (hide_le _ _ _ _ (le _ _ k))
  refine ⟨fun d e => ?_, fun e => ?_⟩
  · obtain ⟨x, y, e1, e2, rfl⟩ := zip_get e
    obtain ⟨v, ev, rv⟩ := r.get e1
    obtain ⟨w, ew, rw'⟩ := q.get e2
    refine ⟨⟨vs, ws, v, w, h1, k1, ev, ew⟩, fun z H' ⟨T, v', w', ez, nT, eH, f1, f2⟩ => ?_⟩
    subst ez; subst eH
    have a1 := f1 vs h1
    have a2 := f2 ws k1
    rw [ev] at a1; cases a1
    rw [ew] at a2; cases a2
    exact ⟨Grow.upd nT, new_tup al nT (.cons (rv.mono le) (.one (rw'.mono le)))⟩
  · refine ⟨vs, ws, h1, k1, ?_⟩
    have := r.length
    have := q.length
    unfold zipD at e
    simp at e
    omega
end
section
variable {X : Cx} {γ : Gm} {τ : List Ty} {e e2 o : Expr} {es : List Expr} {p pos tpos : Pos} {elts : List Expr} {kk : Nat}
theorem di_zip {f : Af} (hg : Gl X "zip") (hm : X.mg "zip" = none) (ha : DA X [e, e2] τ f) (hs : starEach [e, e2] X.env = (false, eval e X.env) :: starEach [e2] X.env := by rfl) (hpl : (backTo pos (starEach [e2] X.env)).any (·.1) = false := by rfl) :
    DI X (.Tuple elts kk tpos) (.Call (.Name "zip" p) [e, e2] [] pos) τ (iZp f) := pi_imp (RZ.pi_zipA hg hm ha hs hpl) fun σ H Q ⟨R, ρ, fs, ds, ρ', s, eq, q⟩ => by
  obtain ⟨w, e1, e2⟩ := bindO eq
  obtain ⟨w1, w2⟩ := w
  simp only at e2
  refine ⟨R, ρ, fs, _, _, s, e1, fun vs H' fs' t s' r => ?_⟩
  split at e2
  · cases e2
    cases r with
    | cons r1 rs =>
      cases rs with
      | cons r2 rs =>
        cases rs
        cases r1 with
        | lst h1 q1 =>
          cases r2 with
          | lst h2 q2 => exact ⟨_, _, _, _, rfl, .inl ⟨.of (hide_le _ _ _ _ h1), .of (hide_le _ _ _ _ h2), q _ H' fs' t s' (walks_zipL h1 h2 q1 q2)⟩⟩
  · cases e2
    cases r with
    | cons r1 rs =>
      cases rs with
      | cons r2 rs =>
        cases rs
        cases r1 with
        | tup h1 q1 =>
          cases r2 with
          | tup h2 q2 => exact ⟨_, _, _, _, rfl, .inr ⟨(hide_le _ _).seqT h1, (hide_le _ _).seqT h2, q _ H' fs' t s' (walks_zipT h1 h2 q1 q2)⟩⟩
  · cases e2
/-! ### methods -/
def isLst : D → Bool
  | .lst _ => true
  | _ => false
def eMtL (g : D → List D → Option D) (f : Ef) (a : Af) : Ef := fun ρ => (f ρ).bind fun p => if isLst (p.1.res p.2) then (a p.2).bind fun q => (g (p.1.res q.2) (q.1.map fun h => h.res q.2)).bind fun d => some (.v d, q.2) else none
/-- a built-in type's method: list T is seen as one -/
theorem de_mtL {r : V → List V → Hp → VK → Prop} {g : D → List D → Option D} {f : Ef} {a : Af} {name : Str} {id : String} {apos cpos : Pos} (slot : Slot "list" name id) (hty : typeOf (.builtin id) = pure (.type "method_descriptor")) (hm : MtR X id r) (o' : MtD X "list" r g)
    (ho : DE X o τ f) (ha : DA X (e :: es) τ a)
    (hbase : attributeBase o name X.env (eval o X.env) = eval o X.env := by rfl)
    (hfew : ((backTo cpos (starEach (e :: es) X.env)).all (fun x => !x.1) && (backToKw cpos (keywordEach [] X.env)).all (fun x => x.1.isSome)
      && decide ((e :: es).length + ([] : List Keyword).length + (if ([] : List Keyword).isEmpty then 0 else 1) < 30)) = true := by rfl)
    (hline : (apos.endLine == cpos.line) = true := by rfl) (hs : starEach (e :: es) X.env = (false, eval e X.env) :: starEach es X.env := by rfl) (hplain : (backTo cpos (starEach es X.env)).any (·.1) = false := by rfl) :
    DE X (.Call (.Attribute o name apos) (e :: es) [] cpos) τ (eMtL g f a) := pe_imp (pe_bm PySem.F.plainAttrs_list slot hty hm ho ha hbase hfew hline hs hplain) fun σ H Q ⟨R, ρ, fs, h, ρ', s, eq, q⟩ => by
  obtain ⟨w, e1, e2⟩ := bindO eq
  obtain ⟨hl, e2⟩ := ifSomeO e2
  obtain ⟨z, e3, e4⟩ := bindO e2
  obtain ⟨d, e5, e6⟩ := bindO e4
  cases e6
  refine ⟨R, ρ, fs, w.1, w.2, s, e1, fun v H1 fs1 t1 s1 r1 => ⟨?_, R, w.2, fs1, z.1, z.2, s1, e3, fun vs H2 fs2 t2 s2 r2 => ?_⟩⟩
  · have rv := s1.res r1
    revert rv hl
    generalize w.1.res w.2 = dd
    intro hl rv
    cases dd <;> first | (cases hl; done) | skip
    obtain ⟨a, vs, rfl, h1, _⟩ := rv.lst_inv
    exact .inl ⟨rfl, _, .of h1⟩
  · exact o' (R ++ fs2) H2 _ _ _ v vs Q s2.own (s2.res (s1.holdH t2 r1)) (s2.ress r2) e5 fun v4 H4 g4 rf => q v4 H4 fs2 ((t1.trans t2).trans (Step.grow g4 _)) (s2.grow g4) rf
def indexD : D → List D → Option D
  | .lst l, [d] => if pyOk 39 d && l.all (pyOk 39) then (l.findIdx? fun z => dq z d).map fun j => .int (j : Nat) else none
  | _, _ => none
theorem pys_get : ∀ {l : List D} {i : Nat}, (pys l)[i]? = (l[i]?).map py
  | [], i => by simp [pys]
  | a :: r, 0 => by simp [pys]
  | a :: r, i + 1 => by simpa [pys] using pys_get (l := r) (i := i)
theorem mtd_index : MtD X "list" (rIndexD X.K) indexD := fun S H d1 ds d v1 vs Q al r1 rs e q => by
  match d1, ds, rs, e with
  | .lst l, [x], rs, e =>
    obtain ⟨v, rfl, r2⟩ := rs.one
    obtain ⟨h, e⟩ := ifSomeO (show (if pyOk 39 x && l.all (pyOk 39) then (l.findIdx? fun z => dq z x).map fun j => D.int (j : Nat) else none) = some d from e)
    rw [Bool.and_eq_true] at h
    obtain ⟨j, e1, rfl⟩ := mapO e
    obtain ⟨hj, e2, e3⟩ := List.findIdx?_eq_some_iff_getElem.mp e1
    have r1' := r1.dpL h.2
    obtain ⟨a, ws, rfl, h1, q1⟩ := r1.lst_inv
    have hall : ∀ i (hi : i < l.length), pyOk 39 l[i] = true := fun i hi => List.all_eq_true.mp h.2 _ (List.getElem_mem hi)
    refine ⟨a, v, py x, pys l, j, py l[j], rfl, rfl, r1', r2.dp h.1, shaped_of (d := .lst l) h.2, shaped_of39 h.1, ?_, ?_, fun m z' hm hz => ?_, q _ H (Grow.refl H) (.int _)⟩
    · rw [pys_get, List.getElem?_eq_getElem hj]; rfl
    · rw [eqv_dq 39 _ _ (hall j hj) h.1]; exact e2
    · rw [pys_get, List.getElem?_eq_getElem (by omega)] at hz
      cases hz
      rw [eqv_dq 39 _ _ (hall m (by omega)) h.1]
      have := e3 m hm
      simpa using this
/-! ### isinstance(x, (list, tuple)) -/
def eIsLT (f : Ef) : Ef := fun ρ => (f ρ).bind fun p => (isB .list (p.1.res p.2)).bind fun k => (isB .tuple (p.1.res p.2)).bind fun k' => some (.v (.bl (k || k')), p.2)
theorem de_isLT {f : Ef} {x : Str} {p2 p3 pt : Pos} {kt : Nat} (hg : Gl X x) (hm : X.mg x = none) (hv : bootBuiltins x = some (.builtin "isinstance")) (hgl : Gl X "list") (hml : X.mg "list" = none) (hvl : bootBuiltins "list" = some (.type "list")) (hgt : Gl X "tuple") (hmt : X.mg "tuple" = none) (hvt : bootBuiltins "tuple" = some (.type "tuple")) (he : DE X e τ f) (hn : x ≠ "__name__" := by decide) (hdb : (x == ("__debug__" : Str)) = false := by decide)
    (hs : starEach [e, .Tuple [.Name "list" p2, .Name "tuple" p3] kt pt] X.env = (false, eval e X.env) :: starEach [.Tuple [.Name "list" p2, .Name "tuple" p3] kt pt] X.env := by rfl) (hpl : (backTo pos (starEach [Expr.Tuple [.Name "list" p2, .Name "tuple" p3] kt pt] X.env)).any (·.1) = false := by rfl) :
    DE X (.Call (.Name x p) [e, .Tuple [.Name "list" p2, .Name "tuple" p3] kt pt] [] pos) τ (eIsLT f) :=
  pe_imp (pe_callB call_isiT hg hm hv (pa_cons he (pa_cons (pe_tup (pa_cons (pe_bltn (v := .ty "list") hgl hml hvl rfl) (pa_cons (pe_bltn (v := .ty "tuple") hgt hmt hvt rfl) pa_nil rfl) rfl)) pa_nil rfl) hs) hn hdb hs hpl) fun σ H Q ⟨R, ρ, fs, h, ρ', s, e, q⟩ => by
  obtain ⟨w, e1, e2⟩ := bindO e
  obtain ⟨k, e3, e4⟩ := bindO e2
  obtain ⟨k', e5, e6⟩ := bindO e4
  cases e6
  refine ⟨R, ρ, fs, w.1, w.2, s, e1, fun v H1 fs1 t1 s1 r => ⟨by decide, fun tp htp => ?_⟩⟩
  have g := Grow.upd (o := .tup [V.ty "list", V.ty "tuple"]) htp
  refine ⟨v, tp, [.ty "list", .ty "tuple"], .type (tyNm (w.1.res w.2)), [.type "list", .type "tuple"], k || k', rfl, upd_same, .cons (.ty "list") (.cons (.ty "tuple") .nil), ?_, ?_, ?_⟩
  · exact ((s1.grow g).res ((s1.holdH (Step.grow g fs1) r))).tyx e3
  · refine kitAny_cons (b := k) (kit_isB e3) (fun hk => ?_) (fun hk => by rw [hk]; rfl)
    refine kitAny_cons (b := k') (kit_isB e5) (fun hk' => ?_) (fun hk' => by rw [hk']; simp)
    rw [hk, hk']
    exact kitAny_nil
  · exact q _ _ fs1 (t1.trans (Step.grow g _)) (s1.grow g) (.bl _)
end
/-! ### constants of the module -/
structure KC (K : PySem.W.Frag) (m : Str → Option Value) (x : Str) (d : D) where
  v : V
  u : Value
  mg : m x = some u
  rl : RelV v u
  rf : ∀ G, Rf K m G d v
/-! ### a list of lists: o[i][j] = e, the indices quiet -/
abbrev Qf := Rho → Option D
def tQ (X : Cx) (τ : List Ty) (f : Qf) : TE := fun σ H Q => ∃ R ρ fs d, SR X.K X.mg R τ ρ σ H fs ∧ f ρ = some d ∧ ∀ v H', Grow H H' → Rf X.K X.mg (hide (R ++ fs) H') d v → Q v H'
abbrev DQ (X : Cx) (e : Expr) (τ : List Ty) (f : Qf) : Prop := PE X e (tQ X τ f)
def qVar (i : Nat) : Qf := fun ρ => some (ρ.getD i .non)
def qInt (n : Int) : Qf := fun _ => some (.int n)
section
variable {X : Cx} {γ : Gm} {τ : List Ty} {e ok ei ej : Expr} {p pp pos : Pos}
theorem dq_var {e : Expr} (i : Nat) (h : PE X e (tVar i)) (ht : τ[i]? = some .sh := by rfl) : DQ X e τ (qVar i) := pe_imp h fun σ H Q ⟨R, ρ, fs, d, s, e, q⟩ => by
  cases e
  obtain ⟨v, f, ev, r, _⟩ := s.get ht (by intro z; cases z)
  cases r with
  | sh r => exact ⟨v, ev, q v H (Grow.refl H) r⟩
theorem dq_int {i j} {pos : Pos} : DQ X (.Constant (.int i) j pos) τ (qInt i) := pe_imp pe_int fun σ H Q ⟨R, ρ, fs, d, s, e, q⟩ => by
  cases e
  exact q _ H (Grow.refl H) (.int _)
theorem Rps.split {K : PySem.W.Frag} {mg : Str → Option Value} {H G : Hp} : ∀ {ts : List Ty} {ds : List D} {vs : List V} {f : List Addr} {i : Nat} {t : Ty}, Rps K mg H G ts ds vs f → ts[i]? = some t →
    ∃ d v f1 fo f2, ds[i]? = some d ∧ vs[i]? = some v ∧ f = f1 ++ fo ++ f2 ∧ Rp K mg H G t d v fo ∧
      ∀ {H' G' : Hp} {d' : D} {fo' : List Addr}, (∀ a ∈ f1 ++ f2, H' a = H a) → Le G G' → Rp K mg H' G' t d' v fo' → Rps K mg H' G' ts (ds.set i d') vs (f1 ++ fo' ++ f2)
  | _, _, _, _, _, _, .nil, e => by simp at e
  | _, _, _, _, 0, t, .cons (d := d) (v := v) (f := f0) (g := g) h r, e => by
    simp at e
    subst e
    refine ⟨d, v, [], f0, g, rfl, rfl, by simp, h, fun {H' G' d' fo'} k le h' => ?_⟩
    exact .cons h' (r.mono le fun a ha => k a (by simpa using ha))
  | _, _, _, _, i + 1, t, .cons (d := d0) (v := v0) (f := f0) (g := g) h r, e => by
    obtain ⟨d, v, f1, fo, f2, e1, e2, ef, hp, k⟩ := Rps.split (i := i) r (by simpa using e)
    refine ⟨d, v, f0 ++ f1, fo, f2, by simpa using e1, by simpa using e2, by rw [ef]; simp, hp, fun {H' G' d' fo'} kk le h' => ?_⟩
    have := Rps.cons (h.mono le fun a ha => kk a (by simp [ha])) (k (fun a ha => kk a (by simp at ha ⊢; rcases ha with h | h <;> simp [h])) le h')
    simpa using this
def sSetIx2 (i : Nat) (f : Ef) (fi fj : Qf) : Sf := fun ρ => (f ρ).bind fun p => (fi p.2).bind fun di => (fj p.2).bind fun dj => match p.1, di, dj, p.2.getD i .non with
  | .v d, .int k, .int m, .lst l => (ixN l.length k).bind fun j => (l[j]?).bind fun c => match c with
      | .lst r => (setL r m d).bind fun r' => some (.nx (p.2.set i (.lst (l.set j (.lst r')))))
      | _ => none
  | _, _, _, _ => none
theorem sSetIx2_inv {i : Nat} {f : Ef} {fi fj : Qf} {ρ : Rho} {o : Out} (e : sSetIx2 i f fi fj ρ = some o) : ∃ d ρ1 k m l j r j2, f ρ = some (.v d, ρ1) ∧ fi ρ1 = some (.int k) ∧ fj ρ1 = some (.int m) ∧ ρ1.getD i .non = .lst l ∧ ixN l.length k = some j ∧ l[j]? = some (.lst r) ∧ ixN r.length m = some j2 ∧ o = .nx (ρ1.set i (.lst (l.set j (.lst (r.set j2 d))))) := by
  obtain ⟨p, e1, e2⟩ := bindO e
  obtain ⟨di, e3, e4⟩ := bindO e2
  obtain ⟨dj, e5, e6⟩ := bindO e4
  obtain ⟨p1, p2⟩ := p
  cases p1 with
  | x i => cases e6
  | v d =>
    cases di <;> first | (cases e6; done) | skip
    cases dj <;> first | (cases e6; done) | skip
    rename_i k m
    simp only at e6 e3 e5
    cases hl : p2.getD i .non <;> rw [hl] at e6 <;> first | (cases e6; done) | skip
    rename_i l
    obtain ⟨j, e7, e8⟩ := bindO e6
    obtain ⟨c, e9, e10⟩ := bindO e8
    cases c <;> first | (cases e10; done) | skip
    rename_i r
    obtain ⟨r', e11, e12⟩ := bindO e10
    obtain ⟨j2, e13, e14⟩ := bindO e11
    cases e14
    cases e12
    exact ⟨d, p2, k, m, l, j, r, j2, e1, e3, e5, hl, e7, e9, e13, rfl⟩
theorem ds_setix2 {f : Ef} {fi fj : Qf} (i : Nat) (he : DE X e τ f) (ho : PE X ok (tVar i)) (hi : DQ X ei τ fi) (hj : DQ X ej τ fj) (ht : τ[i]? = some (.oL (.oL .sh)) := by rfl) (hpl : PlainIx ei := by exact fun _ _ => rfl)
    (ha : ∀ v, assign (.Subscript (.Subscript ok ei pp) ej p) X.env v = (do
      let ov ← holding [v] (eval (.Subscript ok ei pp) X.env)
      let iv ← holding [v, ov] (eval ej X.env)
      standAt p
      holding [v, ov, iv] (setItem ov iv v)
      release [v, ov, iv] []) := by intro _; rfl)
    (hs : swapsWithSole [.Subscript (.Subscript ok ei pp) ej p] e pos.line X.env = pure false := by rfl) (hw : swappedStores [.Subscript (.Subscript ok ei pp) ej p] e X.env = pure none := by rfl)
    (h1 : (assignEach [.Subscript (.Subscript ok ei pp) ej p] X.env).map (·.2) = [assign (.Subscript (.Subscript ok ei pp) ej p) X.env] := by rfl) :
    DS X γ (.Assign [.Subscript (.Subscript ok ei pp) ej p] e pos) τ (sSetIx2 i f fi fj) τ := ps_imp (ps_asg he (pg_sub (pe_ix ix_list ho hi hpl) hj set_list ha) hs hw h1) fun D σ H ⟨R, ρ, fs, out, s, e, q⟩ => by
  obtain ⟨d, ρ1, k, m, l, j, r, j2, e1, e3, e5, hl, e7, e9, e13, rfl⟩ := sSetIx2_inv e
  obtain ⟨v0, f0, ev0, r0, _⟩ := s.get ht (by intro z; cases z)
  refine ⟨R, ρ, fs, _, _, s, e1, fun v H1 fs1 t1 s1 rv => ⟨v0, ev0, R, ρ1, fs1, _, s1, e3, fun vi H2 g2 ri => ?_⟩⟩
  cases ri
  have s2 := s1.grow g2
  have rv2 : Rf X.K X.mg (hide (R ++ fs1) H2) d v := Rf.mono (hide_grow _ g2) rv
  obtain ⟨f1, fo, f2, ef, hos, _, _, h2', _⟩ := s2.sl.split ht
  rcases hos with ⟨z, _⟩ | ⟨v1, ev1, r1⟩
  · cases z
  rw [ev0] at ev1; cases ev1
  rw [hl] at r1
  cases r1 with
  | @oL t a vs ds g h rs =>
    have hjl : j < l.length := (List.getElem?_eq_some_iff.mp e9).1
    obtain ⟨dd, vb, g1, go, g2', ed, evb, eg, rb, mkb⟩ := rs.split (i := j) (t := .oL .sh) (by rw [List.getElem?_replicate, if_pos hjl])
    rw [e9] at ed; cases ed
    cases rb with
    | @oL t b ws ds' gg hb rbs =>
      obtain ⟨rfb, egg⟩ := rbs.to_sh
      subst egg
      refine ⟨a, vs, k, .ref b, rfl, rfl, .of h, ?_, R, ρ1, fs1, _, s2, e5, fun vj H3 g3 rj => ?_⟩
      · unfold atI
        rw [← rs.len, e7]
        exact evb
      cases rj
      have hb3 := g3 _ _ hb
      refine ⟨b, ws, m, j2, rfl, rfl, hb3, by rw [← rfb.length]; exact e13, ?_⟩
      have s3 := s2.grow g3
      have nd := s3.nd
      have hbfs : b ∈ fs1 := by rw [ef, eg]; simp
      have hab : a ≠ b := fun z => by
        rw [ef, eg] at nd
        simp only [List.nodup_append, List.nodup_cons, List.mem_append, List.mem_cons] at nd
        exact nd.2.1.1.2.1.1 (.inl (.inr (.inl z)))
      have le : Le (hide (R ++ fs1) H2) (hide (R ++ fs1) (upd H3 b (.lst (ws.set j2 v)))) := (hide_grow _ g3).trans (hide_mono fun c u n e => ⟨n, by rw [upd_ne fun z => n (by rw [z]; exact List.mem_append_right _ hbfs)]; exact e⟩)
      have keepF : ∀ c ∈ fs1, c ≠ b → upd H3 b (.lst (ws.set j2 v)) c = H2 c := fun c hc z => by
        obtain ⟨u, eu, _⟩ := s2.sl.there c hc
        rw [upd_ne z, eu]
        exact g3 _ _ eu
      have nin : ∀ c ∈ g1 ++ g2', c ≠ b := fun c hc z => by
        subst z
        rw [ef, eg] at nd
        simp only [List.nodup_append, List.nodup_cons, List.mem_append, List.mem_cons] at nd
        rcases List.mem_append.mp hc with hc | hc
        · exact nd.2.1.1.2.1.2.1.2.2 c hc c (.inl rfl) rfl
        · exact nd.2.1.1.2.1.2.2.2 c (.inr (.inl rfl)) c hc rfl
      have nin2 : ∀ c ∈ f1 ++ f2, c ≠ b := fun c hc z => by
        subst z
        rw [ef, eg] at nd
        simp only [List.nodup_append, List.nodup_cons, List.mem_append, List.mem_cons] at nd
        rcases List.mem_append.mp hc with hc | hc
        · exact nd.2.1.1.2.2 c hc c (.inr (.inl (.inr (.inl rfl)))) rfl
        · exact nd.2.1.2.2 c (.inr (.inr (.inl (.inr (.inl rfl))))) c hc rfl
      have rbn : Rp X.K X.mg (upd H3 b (.lst (ws.set j2 v))) (hide (R ++ fs1) (upd H3 b (.lst (ws.set j2 v)))) (.oL .sh) (.lst (r.set j2 d)) (.ref b) [b] := .oL upd_same (Rps.of_sh ((rfb.set j2 rv2).mono le))
      have rsn := mkb (fun c hc => keepF c (by rw [ef, eg]; simp only [List.mem_append, List.mem_cons] at hc ⊢; rcases hc with h | h <;> simp [h]) (nin c hc)) le rbn
      have ra : Rp X.K X.mg (upd H3 b (.lst (ws.set j2 v))) (hide (R ++ fs1) (upd H3 b (.lst (ws.set j2 v)))) (.oL (.oL .sh)) (.lst (l.set j (.lst (r.set j2 d)))) (.ref a) (a :: g) := by
        refine .oL (vs := vs) ?_ ?_
        · rw [upd_ne hab]; exact g3 _ _ h
        · rw [List.length_set, eg]; exact rsn
      have sl' := h2' (H' := upd H3 b (.lst (ws.set j2 v))) (fun c hc => keepF c (by rw [ef]; simp only [List.mem_append, List.mem_cons] at hc ⊢; rcases hc with h | h <;> simp [h]) (nin2 c hc)) le ev0 ra
      rw [set_at ht, ← ef] at sl'
      refine q σ _ fs1 (t1.trans ((Step.grow (g2.trans g3) fs1).trans ⟨fun c u n e => ?_, fun c hc => .inl hc, fun c u e => ?_⟩)) (Kp.refl _ _) ⟨sl', nd, fun c hc => ?_⟩
      · rw [upd_ne fun z => n (by rw [z]; exact hbfs)]; exact e
      · by_cases z : c = b
        · exact ⟨_, by rw [z, upd_same]⟩
        · exact ⟨u, by rw [upd_ne z]; exact e⟩
      · obtain ⟨u, eu, w⟩ := s3.al c hc
        exact ⟨u, by rw [upd_ne fun z => (List.nodup_append.mp nd).2.2 c hc b hbfs z]; exact eu, w⟩
end
end TL

namespace TL
open PySem PySem.Spec PyProof.Rows L2

def spL (K : PySem.W.Frag) : Sp := fun vs H Q _ => ∃ (a : Addr) (ns : List Int), vs = [.ref a] ∧ SqL K H a (ns.map V.int) ∧ ns.length ≤ 63 ∧ ∀ H', Q (.bl true) H'
theorem law_imp {K : PySem.W.Frag} {mg : Str → Option Value} {F : Fm} (h : lawF F) : ∀ vs H Q E, spL K vs H Q E → spD K mg sgL F vs H Q E := fun vs H Q E ⟨a, ns, ev, hS, hl, q⟩ => by
  subst ev
  obtain ⟨r, e⟩ := h ns hl
  refine ⟨[], [.scr ns], [], .bl true, r, ⟨.cons (f := []) (g := []) (.sh (.scr ?_)) .nil, List.nodup_nil, fun a ha => nomatch ha⟩, e, fun v H' fs' fv _ _ rp => ?_⟩
  · have eq : hide [] H = H := by funext a; simp [hide]
    rw [show ([] : List Addr) ++ [] = [] from rfl, eq]
    exact hS
  · cases rp with
    | sh rf => cases rf; exact q H'
theorem toL {P : Program} {w : World} {K : PySem.W.Frag} {mg : Str → Option Value} {fa : Addr} {k : Nat} {F : Fm} {B : FuncData → Prop} (h : lawF F)
    (x : ∃ fd : FuncData, B fd ∧ ∀ base : Heap, K.In base → base.Ns mainGlobals mg → FnOk P w K mg base CX0 k fa fd ["script"] (spD K mg sgL F)) :
    ∃ fd : FuncData, B fd ∧ ∀ base : Heap, K.In base → base.Ns mainGlobals mg → FnOk P w K mg base CX0 k fa fd ["script"] (spL K) := by
  obtain ⟨fd, b, f⟩ := x
  exact ⟨fd, b, fun base h1 h2 => (f base h1 h2).imp (law_imp h)⟩
theorem Cal.none {P : Program} {w : World} {K : PySem.W.Frag} {mg : Str → Option Value} {base : Heap} {f : Addr} {fd : FuncData} {x : Str} {st : Stmt} {k : Nat} {ps : List Str} {sg : Sg} (D : Dfn K mg x st ps f fd) : Cal P w K mg base f fd x k ps sg (fun _ => none) :=
  ⟨{ len := fun vs H Q E h => (by obtain ⟨_, _, _, _, _, _, e, _⟩ := h; cases e), run := fun A outer s H args us vs Q E _ _ _ _ h => (by obtain ⟨_, _, _, _, _, _, e, _⟩ := h; cases e) }, D.mg, D.fn.kp, D.bd, fun ds r e => by cases e⟩
end TL

namespace TL
open PySem PySem.Spec PyProof.Rows L2

section ev
variable (ρ : Rho) (f f' f'' : Ef) (t t' : Tf) (g : Af) (b b' : Sf) (o : Of)
@[simp] theorem v_eC (d : D) : eC d ρ = some (.v d, ρ) := rfl
@[simp] theorem v_eVar (i : Nat) : eVar i ρ = some (.v (ρ.getD i .non), ρ) := rfl
@[simp] theorem v_eOwn (i : Nat) : eOwn i ρ = some (.x i, ρ) := rfl
@[simp] theorem v_res (d : D) : Hd.res (.v d) ρ = d := rfl
@[simp] theorem x_res (i : Nat) : Hd.res (.x i) ρ = ρ.getD i .non := rfl
@[simp] theorem v_eBin (k : D → D → Option D) : eBin k f f' ρ = (f ρ).bind fun p => (f' p.2).bind fun q => (k (p.1.res q.2) (q.1.res q.2)).bind fun d => some (.v d, q.2) := rfl
@[simp] theorem v_eBinO (k : D → D → Option (List D)) : eBinO k f f' ρ = (f ρ).bind fun p => (f' p.2).bind fun q => (k (p.1.res q.2) (q.1.res q.2)).bind fun d => some (.lst d, q.2) := rfl
@[simp] theorem v_eF : eF o ρ = (o ρ).bind fun p => some (.v p.1, p.2) := rfl
@[simp] theorem v_tB : tB f ρ = (f ρ).bind fun p => (truthD (p.1.res p.2)).bind fun k => some (k, p.2) := rfl
def blOf (p : Hd × Rho) : Option (Bool × Rho) := match p.1 with
  | .v (.bl k) => some (k, p.2)
  | _ => none
@[simp] theorem v_blOf (k : Bool) : blOf (.v (.bl k), ρ) = some (k, ρ) := rfl
@[simp] theorem v_tBl : tBl f ρ = (f ρ).bind blOf := rfl
@[simp] theorem v_tAnd : tAnd' t t' ρ = (t ρ).bind fun p => if p.1 then t' p.2 else some (false, p.2) := rfl
@[simp] theorem v_tOr : tOr' t t' ρ = (t ρ).bind fun p => if p.1 then some (true, p.2) else t' p.2 := rfl
@[simp] theorem v_tNot : tNot' t ρ = (t ρ).bind fun p => some (!p.1, p.2) := rfl
@[simp] theorem v_tYes : tYesF ρ = some (true, ρ) := rfl
@[simp] theorem v_eAnd : eAnd f f' ρ = (f ρ).bind fun p => (truthD (p.1.res p.2)).bind fun k => if k then f' p.2 else some p := rfl
@[simp] theorem v_eOr : eOr f f' ρ = (f ρ).bind fun p => (truthD (p.1.res p.2)).bind fun k => if k then some p else f' p.2 := rfl
@[simp] theorem v_eNot : eNot f ρ = (f ρ).bind fun p => (truthD (p.1.res p.2)).bind fun k => some (.v (.bl (!k)), p.2) := rfl
@[simp] theorem v_eIf : eIf t f f' ρ = (t ρ).bind fun p => if p.1 then f p.2 else f' p.2 := rfl
def chain2 (k' : D → D → Option D) (q : Hd × Rho) (r : Ef) : D → Option (Hd × Rho)
  | .bl true => (r q.2).bind fun r => (k' (q.1.res r.2) (r.1.res r.2)).bind fun d' => some (.v d', r.2)
  | .bl false => some (.v (.bl false), q.2)
  | _ => none
@[simp] theorem v_chain2 (k' : D → D → Option D) (q : Hd × Rho) (r : Ef) (c : Bool) : chain2 k' q r (.bl c) = if c then (r q.2).bind fun r => (k' (q.1.res r.2) (r.1.res r.2)).bind fun d' => some (.v d', r.2) else some (.v (.bl false), q.2) := by
  cases c <;> rfl
@[simp] theorem v_eChain (k k' : D → D → Option D) : eChain k k' f f' f'' ρ = (f ρ).bind fun p => (f' p.2).bind fun q => (k (p.1.res q.2) (q.1.res q.2)).bind (chain2 k' q f'') := by
  unfold eChain
  congr 1
@[simp] theorem v_aNil : aNil ρ = some ([], ρ) := rfl
@[simp] theorem v_aCons : aCons f g ρ = (f ρ).bind fun p => (g p.2).bind fun q => some (p.1 :: q.1, q.2) := rfl
@[simp] theorem v_hv0 : hvals [] = some [] := rfl
@[simp] theorem v_hv1 (d : D) (r : List Hd) : hvals (.v d :: r) = (hvals r).bind fun ds => some (d :: ds) := rfl
@[simp] theorem v_eTup : eTup g ρ = (g ρ).bind fun p => (hvals p.1).bind fun ds => if okLen ds.length then some (.v (.tup ds), p.2) else none := rfl
@[simp] theorem v_oLst : oLst g ρ = (g ρ).bind fun p => (hvals p.1).bind fun ds => if okLen ds.length then some (.lst ds, p.2) else none := rfl
@[simp] theorem v_eUn (k : D → Option D) : eUn k f ρ = (f ρ).bind fun p => (k (p.1.res p.2)).bind fun d => some (.v d, p.2) := rfl
@[simp] theorem v_eCa (k : List D → Option D) : eCa k g ρ = (g ρ).bind fun p => (k (p.1.map fun h => h.res p.2)).bind fun d => some (.v d, p.2) := rfl
@[simp] theorem v_oCa (k : List D → Option (List D)) : oCa k g ρ = (g ρ).bind fun p => (k (p.1.map fun h => h.res p.2)).bind fun d => some (.lst d, p.2) := rfl
@[simp] theorem v_f1 (k : D → Option D) (d : D) : f1 k [d] = k d := rfl
@[simp] theorem v_f1L (k : D → Option (List D)) (d : D) : f1L k [d] = k d := rfl
@[simp] theorem v_f2 (k : D → D → Option D) (d e : D) : f2 k [d, e] = k d e := rfl
@[simp] theorem v_pNo : pNo ρ = some (none, ρ) := rfl
def ptOf (p : Hd × Rho) : Option (Option Int × Rho) := match p.1 with
  | .v (.int i) => some (some i, p.2)
  | _ => none
@[simp] theorem v_ptOf (i : Int) : ptOf (.v (.int i), ρ) = some (some i, ρ) := rfl
@[simp] theorem v_pSome : pSome f ρ = (f ρ).bind ptOf := rfl
@[simp] theorem v_eSl (k : D → Option Int → Option Int → Option D) (lo hi : Pf) : eSl k f lo hi ρ = (f ρ).bind fun p => (lo p.2).bind fun l => (hi l.2).bind fun h => (k (p.1.res h.2) l.1 h.1).bind fun d => some (.v d, h.2) := rfl
@[simp] theorem v_oSl (k : D → Option Int → Option Int → Option (List D)) (lo hi : Pf) : oSl k f lo hi ρ = (f ρ).bind fun p => (lo p.2).bind fun l => (hi l.2).bind fun h => (k (p.1.res h.2) l.1 h.1).bind fun d => some (.lst d, h.2) := rfl
@[simp] theorem v_eIsI (bt : Bt) : eIsI bt f ρ = (f ρ).bind fun p => (isB bt (p.1.res p.2)).bind fun k => some (.v (.bl k), p.2) := rfl
@[simp] theorem v_eIsLT : eIsLT f ρ = (f ρ).bind fun p => (isB .list (p.1.res p.2)).bind fun k => (isB .tuple (p.1.res p.2)).bind fun k' => some (.v (.bl (k || k')), p.2) := rfl
@[simp] theorem v_eMtL (k : D → List D → Option D) : eMtL k f g ρ = (f ρ).bind fun p => if isLst (p.1.res p.2) then (g p.2).bind fun q => (k (p.1.res q.2) (q.1.map fun h => h.res q.2)).bind fun d => some (.v d, q.2) else none := rfl
def oeOf (p : Hd × Rho) : Option (D × Rho) := match p.1 with
  | .v d => some (d, p.2)
  | _ => none
@[simp] theorem v_oeOf (d : D) : oeOf (.v d, ρ) = some (d, ρ) := rfl
@[simp] theorem v_oE : oE f ρ = (f ρ).bind oeOf := rfl
@[simp] theorem v_oCall (F : Fm) : oCall F g ρ = (g ρ).bind fun p => (hvals p.1).bind fun ds => (F ds).bind fun r => some (r.1, p.2) := rfl
@[simp] theorem v_oCallB (ty : Ty) (F : Fm) : oCallB ty F g ρ = (g ρ).bind fun p => (F (p.1.map fun h => h.res p.2)).bind fun r => if immR ty r.1 then some (r.1, p.2) else none := rfl
@[simp] theorem v_oCallI (F : Fm) (i j : Nat) : oCallI F i j g ρ = (g ρ).bind fun p => (hvI i p.1 j p.2).bind fun ds => (F ds).bind fun r => some (r.1, p.2.set i (r.2.getD j .non)) := rfl
@[simp] theorem v_hvI (i : Nat) (r : List Hd) : hvI i (.x i :: r) 0 ρ = (hvals r).bind fun ds => some (ρ.getD i .non :: ds) := by simp [hvI]
@[simp] theorem v_hvI1 (i j : Nat) (d : D) (r : List Hd) : hvI i (.v d :: r) (j + 1) ρ = (hvI i r j ρ).bind fun ds => some (d :: ds) := rfl
/-! statements -/
@[simp] theorem v_sNil : sNil ρ = some (.nx ρ) := rfl
def andThen (b : Sf) : Out → Option Out
  | .nx ρ => b ρ
  | o => some o
@[simp] theorem v_then_nx : andThen b (.nx ρ) = b ρ := rfl
@[simp] theorem v_then_rt (d : D) : andThen b (.rt d ρ) = some (.rt d ρ) := rfl
@[simp] theorem v_then_bk : andThen b (.bk ρ) = some (.bk ρ) := rfl
@[simp] theorem v_then_ct : andThen b (.ct ρ) = some (.ct ρ) := rfl
@[simp] theorem v_sSeq : sSeq b b' ρ = (b ρ).bind (andThen b') := by
  unfold sSeq
  congr 1
def thenKl (ks : List Nat) : Out → Option Out
  | .nx ρ => some (.nx (kill ks ρ))
  | o => some o
@[simp] theorem v_thenKl_nx (ks : List Nat) : thenKl ks (.nx ρ) = some (.nx (kill ks ρ)) := rfl
@[simp] theorem v_thenKl_rt (ks : List Nat) (d : D) : thenKl ks (.rt d ρ) = some (.rt d ρ) := rfl
@[simp] theorem v_thenKl_bk (ks : List Nat) : thenKl ks (.bk ρ) = some (.bk ρ) := rfl
@[simp] theorem v_thenKl_ct (ks : List Nat) : thenKl ks (.ct ρ) = some (.ct ρ) := rfl
@[simp] theorem v_sKl (ks : List Nat) : sKl ks b ρ = (b ρ).bind (thenKl ks) := by
  unfold sKl
  congr 1
@[simp] theorem v_sKb (ks : List Nat) : sKb ks b ρ = b (kill ks ρ) := rfl
@[simp] theorem v_sPass : sPass ρ = some (.nx ρ) := rfl
@[simp] theorem v_sBrk : sBrk ρ = some (.bk ρ) := rfl
@[simp] theorem v_sCont : sCont ρ = some (.ct ρ) := rfl
def rtOf (p : Hd × Rho) : Option Out := match p.1 with
  | .v d => some (.rt d p.2)
  | _ => none
@[simp] theorem v_rtOf (d : D) : rtOf (.v d, ρ) = some (.rt d ρ) := rfl
@[simp] theorem v_sRet : sRet f ρ = (f ρ).bind rtOf := rfl
@[simp] theorem v_sRetO : sRetO o ρ = (o ρ).bind fun p => some (.rt p.1 p.2) := rfl
@[simp] theorem v_sRetX (i : Nat) : sRetX i ρ = some (.rt (ρ.getD i .non) ρ) := rfl
@[simp] theorem v_sRetN : sRetN ρ = some (.rt .non ρ) := rfl
@[simp] theorem v_sIf : sIf t b b' ρ = (t ρ).bind fun p => if p.1 then b p.2 else b' p.2 := rfl
@[simp] theorem v_gNm (i : Nat) (d : D) : gNm i d ρ = some (ρ.set i d) := rfl
@[simp] theorem v_gsNil : gsNil [] ρ = some ρ := rfl
@[simp] theorem v_gsCons (k : Gf) (h : List D → Rho → Option Rho) (d : D) (r : List D) : gsCons k h (d :: r) ρ = (k d ρ).bind fun ρ' => h r ρ' := rfl
@[simp] theorem v_gTp (k : List D → Rho → Option Rho) (ds : List D) : gTp k (.tup ds) ρ = k ds ρ := rfl
def asgOf (k : Gf) (p : Hd × Rho) : Option Out := match p.1 with
  | .v d => (k d p.2).bind fun ρ' => some (.nx ρ')
  | _ => none
@[simp] theorem v_asgOf (k : Gf) (d : D) : asgOf k (.v d, ρ) = (k d ρ).bind fun ρ' => some (.nx ρ') := rfl
@[simp] theorem v_sAsg (k : Gf) : sAsg f k ρ = (f ρ).bind (asgOf k) := rfl
@[simp] theorem v_sSetO (i : Nat) : sSetO i o ρ = (o ρ).bind fun p => some (.nx (p.2.set i p.1)) := rfl
def appOf (i : Nat) (p : Hd × Rho) : Option Out := match p.1, p.2.getD i .non with
  | .v d, .lst l => if okLen (l.length + 1) then some (.nx (p.2.set i (.lst (l ++ [d])))) else none
  | _, _ => none
theorem v_appOf (i : Nat) (d : D) (l : List D) (h : ρ.getD i .non = .lst l) : appOf i (.v d, ρ) = if okLen (l.length + 1) then some (.nx (ρ.set i (.lst (l ++ [d])))) else none := by
  unfold appOf; simp only [h]
@[simp] theorem v_sApp (i : Nat) : sApp i f ρ = (f ρ).bind (appOf i) := rfl
def setIxOf (i : Nat) (fk : Ef) : Hd × Rho → Option Out := fun p => (fk p.2).bind fun q => match p.1, q.1, q.2.getD i .non with
  | .v d, .v (.int k), .lst l => (setL l k d).bind fun l' => some (.nx (q.2.set i (.lst l')))
  | _, _, _ => none
theorem v_setIxOf (i : Nat) (fk : Ef) (d : D) (k : Int) (ρ' : Rho) (l : List D) (h : fk ρ = some (.v (.int k), ρ')) (h' : ρ'.getD i .non = .lst l) : setIxOf i fk (.v d, ρ) = (setL l k d).bind fun l' => some (.nx (ρ'.set i (.lst l'))) := by
  unfold setIxOf; simp only [h, Option.bind_some, h']
@[simp] theorem v_sSetIx (i : Nat) (fk : Ef) : sSetIx i f fk ρ = (f ρ).bind (setIxOf i fk) := rfl
@[simp] theorem v_lNil : lNil ρ = some ([], ρ) := rfl
@[simp] theorem v_lCons (h : Lf) : lCons o h ρ = (o ρ).bind fun p => (h p.2).bind fun q => some (p.1 :: q.1, q.2) := rfl
def parOf (i j : Nat) : List D × Rho → Option Out
  | ([a, b], ρ) => some (.nx ((ρ.set i a).set j b))
  | _ => none
@[simp] theorem v_parOf (i j : Nat) (a b : D) : parOf i j ([a, b], ρ) = some (.nx ((ρ.set i a).set j b)) := rfl
@[simp] theorem v_sPar (i j : Nat) (h : Lf) : sPar i j h ρ = (h ρ).bind (parOf i j) := by
  unfold sPar
  congr 1; funext p; obtain ⟨p1, p2⟩ := p; unfold parOf; split <;> simp_all
def parOf3 (i j l : Nat) : List D × Rho → Option Out
  | ([a, b, c], ρ) => some (.nx (((ρ.set i a).set j b).set l c))
  | _ => none
@[simp] theorem v_parOf3 (i j l : Nat) (a b c : D) : parOf3 i j l ([a, b, c], ρ) = some (.nx (((ρ.set i a).set j b).set l c)) := rfl
@[simp] theorem v_sPar3 (i j l : Nat) (h : Lf) : sPar3 i j l h ρ = (h ρ).bind (parOf3 i j l) := by
  unfold sPar3
  congr 1; funext p; obtain ⟨p1, p2⟩ := p; unfold parOf3; split <;> simp_all
/-! walks -/
@[simp] theorem v_seqL (l : List D) : seqD (.v (.lst l)) = some l := rfl
@[simp] theorem v_seqT (l : List D) : seqD (.v (.tup l)) = some l := rfl
@[simp] theorem v_iSeq : iSeq f ρ = (f ρ).bind fun p => (seqD p.1).bind fun l => some (l, p.2) := rfl
def rng1Of : List Hd × Rho → Option (List D × Rho)
  | ([.v (.int j)], ρ) => if small62 j then some (intsD 0 j.toNat, ρ) else none
  | _ => none
@[simp] theorem v_rng1Of (j : Int) (h : small62 j = true) : rng1Of ([.v (.int j)], ρ) = some (intsD 0 j.toNat, ρ) := by
  simp only [rng1Of, h, if_true]
@[simp] theorem v_iRng1 : TL.iRng1 g ρ = (g ρ).bind rng1Of := by
  unfold TL.iRng1
  congr 1; funext p; obtain ⟨p1, p2⟩ := p; unfold rng1Of; split <;> simp_all
def rng2Of : List Hd × Rho → Option (List D × Rho)
  | ([.v (.int i), .v (.int j)], ρ) => if small62 i && small62 j then some (intsD i (j - i).toNat, ρ) else none
  | _ => none
@[simp] theorem v_rng2Of (i j : Int) (h : small62 i = true) (h' : small62 j = true) : rng2Of ([.v (.int i), .v (.int j)], ρ) = some (intsD i (j - i).toNat, ρ) := by
  simp only [rng2Of, h, h', Bool.and_self, if_true]
@[simp] theorem v_iRng2 : TL.iRng2 g ρ = (g ρ).bind rng2Of := by
  unfold TL.iRng2
  congr 1; funext p; obtain ⟨p1, p2⟩ := p; unfold rng2Of; split <;> simp_all
def zpOf : List Hd × Rho → Option (List D × Rho)
  | ([.v (.lst l), .v (.lst m)], ρ) => some (zipD l m, ρ)
  | ([.v (.tup l), .v (.tup m)], ρ) => some (zipD l m, ρ)
  | _ => none
@[simp] theorem v_zpL (l m : List D) : zpOf ([.v (.lst l), .v (.lst m)], ρ) = some (zipD l m, ρ) := rfl
@[simp] theorem v_zpT (l m : List D) : zpOf ([.v (.tup l), .v (.tup m)], ρ) = some (zipD l m, ρ) := rfl
@[simp] theorem v_iZp : iZp g ρ = (g ρ).bind zpOf := by
  unfold iZp
  congr 1; funext p; obtain ⟨p1, p2⟩ := p; unfold zpOf; split <;> simp_all
/-- one round of a loop -/
def stepB (k : Gf) (b : Sf) (d : D) (ρ : Rho) : Option Out := (k d ρ).bind b
@[simp] theorem v_stepB (k : Gf) (d : D) : stepB k b d ρ = (k d ρ).bind b := rfl
@[simp] theorem v_sFor (ks : List Nat) (it : Itf) (k : Gf) : sFor ks it k b ρ = (it ρ).bind fun p => loopF (stepB k b) ks p.1 (kill ks p.2) := rfl
@[simp] theorem v_stepLc (own : List Nat) (k : Gf) (el : Of) (d : D) : stepLc own k t el d ρ = (k d ρ).bind fun ρ1 => (t ρ1).bind fun p => if p.1 then (el p.2).bind fun q => some (some q.1, kill own q.2) else some (none, kill own p.2) := rfl
@[simp] theorem v_oLc (own : List Nat) (it : Itf) (k : Gf) (el : Of) : oLc own it k t el ρ = (it ρ).bind fun p => if okLen p.1.length then (lcF (stepLc own k t el) p.1 p.2).bind fun r => some (.lst r.1, r.2) else none := rfl
@[simp] theorem v_kill0 : kill [] ρ = ρ := rfl
@[simp] theorem v_kill1 (k : Nat) (ks : List Nat) : kill (k :: ks) ρ = kill ks (ρ.set k .non) := rfl
end ev

/-! ### values -/
@[simp] theorem d_add (i j : Int) : dAdd (.int i) (.int j) = some (.int (i + j)) := rfl
@[simp] theorem d_sub (i j : Int) : dSub (.int i) (.int j) = some (.int (i - j)) := rfl
@[simp] theorem d_lt (i j : Int) : dLt (.int i) (.int j) = some (.bl (decide (i < j))) := rfl
@[simp] theorem d_le (i j : Int) : dLe (.int i) (.int j) = some (.bl (decide (i ≤ j))) := rfl
@[simp] theorem d_gt (i j : Int) : dGt (.int i) (.int j) = some (.bl (decide (j < i))) := rfl
@[simp] theorem d_ge (i j : Int) : dGe (.int i) (.int j) = some (.bl (decide (j ≤ i))) := rfl
@[simp] theorem d_mod (i j : Int) : dMod (.int i) (.int j) = if decide (0 < j) then some (.int (i % j)) else none := rfl
@[simp] theorem d_div (i j : Int) : dDiv (.int i) (.int j) = if decide (0 < j) && sm j then some (.int (i / j)) else none := rfl
@[simp] theorem d_mul (i j : Int) : dMul (.int i) (.int j) = if sm i && sm j then some (.int (i * j)) else none := rfl
@[simp] theorem d_neg (i : Int) : dNeg (.int i) = some (.int (-i)) := rfl
@[simp] theorem d_is0 (a : D) : dIs a .non = some (.bl (isNonD a)) := by cases a <;> rfl
@[simp] theorem d_isb (a b : Bool) : dIs (.bl a) (.bl b) = some (.bl (decide (a = b))) := rfl
@[simp] theorem d_isNot0 (a : D) : dIsNot a .non = some (.bl (!isNonD a)) := by cases a <;> rfl
@[simp] theorem d_isNotb (a b : Bool) : dIsNot (.bl a) (.bl b) = some (.bl (!decide (a = b))) := rfl
@[simp] theorem d_nn : isNonD .non = true := rfl
@[simp] theorem d_ni (i : Int) : isNonD (.int i) = false := rfl
@[simp] theorem d_nb (i : Bool) : isNonD (.bl i) = false := rfl
@[simp] theorem d_ns (i : Str) : isNonD (.str i) = false := rfl
@[simp] theorem d_nt (i : List D) : isNonD (.tup i) = false := rfl
@[simp] theorem d_nl (i : List D) : isNonD (.lst i) = false := rfl
@[simp] theorem d_eqi (i j : Int) : dEq (.int i) (.int j) = some (.bl (i == j)) := rfl
@[simp] theorem d_nei (i j : Int) : dNe (.int i) (.int j) = some (.bl (!(i == j))) := rfl
@[simp] theorem d_eqb (i j : Bool) : dEq (.bl i) (.bl j) = some (.bl (i == j)) := rfl
@[simp] theorem d_neb (i j : Bool) : dNe (.bl i) (.bl j) = some (.bl (!(i == j))) := rfl
@[simp] theorem pyOk_n (n : Nat) : pyOk n .non = true := by cases n <;> rfl
@[simp] theorem pyOk_b (n : Nat) (b : Bool) : pyOk n (.bl b) = true := by cases n <;> rfl
@[simp] theorem pyOk_i (n : Nat) (b : Int) : pyOk n (.int b) = true := by cases n <;> rfl
@[simp] theorem pyOk_s (n : Nat) (b : Str) : pyOk n (.str b) = sOk b := by cases n <;> rfl
theorem d_eqs (s : Str) (h : sOk s = true) : dEq (.str s) (.str s) = some (.bl true) := by
  unfold dEq; rw [pyOk_s, h]; simp [dq]
@[simp] theorem d_tr_n : truthD .non = some false := rfl
@[simp] theorem d_tr_b (b : Bool) : truthD (.bl b) = some b := rfl
@[simp] theorem d_tr_i (i : Int) : truthD (.int i) = some (i != 0) := rfl
@[simp] theorem d_tr_t (l : List D) : truthD (.tup l) = some (!l.isEmpty) := rfl
@[simp] theorem d_tr_l (l : List D) : truthD (.lst l) = some (!l.isEmpty) := rfl
@[simp] theorem d_len_t (l : List D) : lenD (.tup l) = some (.int l.length) := rfl
@[simp] theorem d_len_l (l : List D) : lenD (.lst l) = some (.int l.length) := rfl
@[simp] theorem d_abs (i : Int) : absD (.int i) = some (.int (if i < 0 then -i else i)) := rfl
@[simp] theorem d_int (i : Int) : intD (.int i) = some (.int i) := rfl
@[simp] theorem d_intb (i : Bool) : intD (.bl i) = some (.int (if i then 1 else 0)) := rfl
@[simp] theorem d_max2 (i j : Int) : max2D (.int i) (.int j) = some (.int (if j > i then j else i)) := rfl
@[simp] theorem d_min2 (i j : Int) : min2D (.int i) (.int j) = some (.int (if j < i then j else i)) := rfl
@[simp] theorem d_tup_l (l : List D) : tupleD (.lst l) = some (.tup l) := rfl
@[simp] theorem d_tup_t (l : List D) : tupleD (.tup l) = some (.tup l) := rfl
@[simp] theorem d_lst_l (l : List D) : listD (.lst l) = some l := rfl
@[simp] theorem d_lst_t (l : List D) : listD (.tup l) = some l := rfl
@[simp] theorem d_lst_s (l : List Int) : listD (.scr l) = some (l.map D.int) := rfl
@[simp] theorem d_ix_l (l : List D) (i : Int) : dIx (.lst l) (.int i) = atI l i := rfl
@[simp] theorem d_ix_t (l : List D) (i : Int) : dIx (.tup l) (.int i) = atI l i := rfl
@[simp] theorem d_sl_t (l : List D) (lo hi : Option Int) : dSl (.tup l) lo hi = some (.tup (cutD l lo hi)) := rfl
@[simp] theorem d_sl_l (l : List D) (lo hi : Option Int) : dSl (.lst l) lo hi = some (.lst (cutD l lo hi)) := rfl
@[simp] theorem d_slL (l : List D) (lo hi : Option Int) : dSlL (.lst l) lo hi = some (cutD l lo hi) := rfl
@[simp] theorem d_addL (l m : List D) : dAddL (.lst l) (.lst m) = if okLen (l.length + m.length) then some (l ++ m) else none := rfl
@[simp] theorem d_add_l (l m : List D) : dAdd (.lst l) (.lst m) = if okLen (l.length + m.length) then some (.lst (l ++ m)) else none := rfl
@[simp] theorem d_add_t (l m : List D) : dAdd (.tup l) (.tup m) = if okLen (l.length + m.length) then some (.tup (l ++ m)) else none := rfl
@[simp] theorem d_isB_n (b : Bt) : isB b .non = some false := by cases b <;> rfl
@[simp] theorem d_isB_b (b : Bt) (x : Bool) : isB b (.bl x) = some (decide (b = .bool) || decide (b = .int)) := by cases b <;> rfl
@[simp] theorem d_isB_i (b : Bt) (x : Int) : isB b (.int x) = some (decide (b = .int)) := by cases b <;> rfl
@[simp] theorem d_isB_s (b : Bt) (x : Str) : isB b (.str x) = some (decide (b = .str)) := by cases b <;> rfl
@[simp] theorem d_isB_t (b : Bt) (x : List D) : isB b (.tup x) = some (decide (b = .tuple)) := by cases b <;> rfl
@[simp] theorem d_isB_l (b : Bt) (x : List D) : isB b (.lst x) = some (decide (b = .list)) := by cases b <;> rfl
theorem ix_nat {α : Type} (l : List α) (n : Nat) (h : n < l.length) : atI l (n : Int) = some l[n] := by
  unfold atI ixN; simp [h]
theorem ix_get {α : Type} (l : List α) (i : Int) (h0 : 0 ≤ i) (h : i < l.length) : atI l i = l[i.toNat]? := by
  unfold atI ixN; simp [h0, h]
@[simp] theorem ix_0 {α : Type} (a : α) (l : List α) : atI (a :: l) 0 = some a := by
  unfold atI ixN; simp
@[simp] theorem ix_1 {α : Type} (a b : α) (l : List α) : atI (a :: b :: l) 1 = some b := by
  unfold atI ixN; simp
  rw [if_pos (by omega)]; rfl
@[simp] theorem ix_2 {α : Type} (a b c : α) (l : List α) : atI (a :: b :: c :: l) 2 = some c := by
  unfold atI ixN; simp
  rw [if_pos (by omega)]; rfl
@[simp] theorem ix_3 {α : Type} (a b c d : α) (l : List α) : atI (a :: b :: c :: d :: l) 3 = some d := by
  unfold atI ixN; simp
  rw [if_pos (by omega)]; rfl
theorem s62_of {i : Int} (h : -1000000000000 ≤ i) (h' : i ≤ 1000000000000) : small62 i = true := by
  exact Nat.ble_eq_true_of_le (by omega)
theorem okLen_of {n : Nat} (h : n ≤ 16777216) : okLen n = true := by
  unfold okLen; simpa using h
theorem sm_of {i : Int} (h : -1000000000000000000 ≤ i) (h' : i ≤ 1000000000000000000) : sm i = true := by
  exact Nat.ble_eq_true_of_le (by omega)
@[simp] theorem intsD_len (lo : Int) (n : Nat) : (intsD lo n).length = n := by simp [intsD]

/-! ### calls -/
def fin (n : Nat) : Out → Option (D × List D)
  | .rt d ρ => some (d, ρ.take n)
  | .nx ρ => some (.non, ρ.take n)
  | _ => none
@[simp] theorem fin_rt (n : Nat) (d : D) (ρ : Rho) : fin n (.rt d ρ) = some (d, ρ.take n) := rfl
@[simp] theorem fin_nx (n : Nat) (ρ : Rho) : fin n (.nx ρ) = some (.non, ρ.take n) := rfl
theorem v_runF (b : Sf) (n m : Nat) (ds : List D) (h : ds.length = n) : runF b n m ds = (b (ds ++ List.replicate m .non)).bind (fin n) := by
  unfold runF; rw [if_pos h]
  congr 1
theorem v_run1 (b : Sf) (m : Nat) (a0 : D) : runF b 1 m [a0] = (b ([a0] ++ List.replicate m .non)).bind (fin 1) := v_runF _ _ _ _ rfl
theorem v_run2 (b : Sf) (m : Nat) (a0 b0 : D) : runF b 2 m [a0, b0] = (b ([a0, b0] ++ List.replicate m .non)).bind (fin 2) := v_runF _ _ _ _ rfl
theorem v_run3 (b : Sf) (m : Nat) (a0 b0 c0 : D) : runF b 3 m [a0, b0, c0] = (b ([a0, b0, c0] ++ List.replicate m .non)).bind (fin 3) := v_runF _ _ _ _ rfl
theorem v_run4 (b : Sf) (m : Nat) (a0 b0 c0 d0 : D) : runF b 4 m [a0, b0, c0, d0] = (b ([a0, b0, c0, d0] ++ List.replicate m .non)).bind (fin 4) := v_runF _ _ _ _ rfl
theorem v_run5 (b : Sf) (m : Nat) (a0 b0 c0 d0 e0 : D) : runF b 5 m [a0, b0, c0, d0, e0] = (b ([a0, b0, c0, d0, e0] ++ List.replicate m .non)).bind (fin 5) := v_runF _ _ _ _ rfl
theorem v_run6 (b : Sf) (m : Nat) (a0 b0 c0 d0 e0 f0 : D) : runF b 6 m [a0, b0, c0, d0, e0, f0] = (b ([a0, b0, c0, d0, e0, f0] ++ List.replicate m .non)).bind (fin 6) := v_runF _ _ _ _ rfl
theorem v_run7 (b : Sf) (m : Nat) (a0 b0 c0 d0 e0 f0 g0 : D) : runF b 7 m [a0, b0, c0, d0, e0, f0, g0] = (b ([a0, b0, c0, d0, e0, f0, g0] ++ List.replicate m .non)).bind (fin 7) := v_runF _ _ _ _ rfl
theorem v_run8 (b : Sf) (m : Nat) (a0 b0 c0 d0 e0 f0 g0 h0 : D) : runF b 8 m [a0, b0, c0, d0, e0, f0, g0, h0] = (b ([a0, b0, c0, d0, e0, f0, g0, h0] ++ List.replicate m .non)).bind (fin 8) := v_runF _ _ _ _ rfl

/-! ### loops -/
theorem loop_nil (b : D → Rho → Option Out) (ks : List Nat) (ρ : Rho) : loopF b ks [] ρ = some (.nx ρ) := rfl
theorem loop_nx {b : D → Rho → Option Out} {ks : List Nat} {d : D} {ds : List D} {ρ ρ' : Rho} (h : b d ρ = some (.nx ρ')) : loopF b ks (d :: ds) ρ = loopF b ks ds (kill ks ρ') := by
  show (b d ρ).bind _ = _
  rw [h]; rfl
theorem loop_rt {b : D → Rho → Option Out} {ks : List Nat} {d e : D} {ds : List D} {ρ ρ' : Rho} (h : b d ρ = some (.rt e ρ')) : loopF b ks (d :: ds) ρ = some (.rt e ρ') := by
  show (b d ρ).bind _ = _
  rw [h]; rfl
/-- what goes on behind a round -/
def nxOf (ks : List Nat) : Out → Option Rho
  | .nx ρ => some (kill ks ρ)
  | .ct ρ => some (kill ks ρ)
  | _ => none
@[simp] theorem v_nxOf (ks : List Nat) (ρ : Rho) : nxOf ks (.nx ρ) = some (kill ks ρ) := rfl
@[simp] theorem v_nxOfc (ks : List Nat) (ρ : Rho) : nxOf ks (.ct ρ) = some (kill ks ρ) := rfl
theorem loop_go {b : D → Rho → Option Out} {ks : List Nat} {d : D} {ds : List D} {ρ ρ' : Rho} (h : (b d ρ).bind (nxOf ks) = some ρ') : loopF b ks (d :: ds) ρ = loopF b ks ds ρ' := by
  show (b d ρ).bind _ = _
  cases e : b d ρ with
  | none => rw [e] at h; cases h
  | some o =>
    rw [e] at h
    cases o with
    | nx r => cases h; rfl
    | ct r => cases h; rfl
    | bk r => cases h
    | rt d r => cases h
/-- a loop that goes through: the state as a fold -/
theorem loop_fold {α σ : Type} {b : D → Rho → Option Out} {ks : List Nat} (emb : α → D) (st : σ → Rho) (f : σ → α → σ) (inv : σ → Prop) : ∀ (l : List α) (s : σ), inv s →
    (∀ a ∈ l, ∀ s, inv s → inv (f s a) ∧ (b (emb a) (st s)).bind (nxOf ks) = some (st (f s a))) → loopF b ks (l.map emb) (st s) = some (.nx (st (l.foldl f s)))
  | [], s, _, _ => rfl
  | a :: l, s, hi, h => by
    obtain ⟨i1, e1⟩ := h a (by simp) s hi
    rw [List.map_cons, loop_go e1]
    exact loop_fold emb st f inv l _ i1 fun a ha => h a (by simp [ha])
/-- .. with an invariant only -/
theorem loop_inv {α σ : Type} {b : D → Rho → Option Out} {ks : List Nat} (emb : α → D) (st : σ → Rho) (I : List α → σ → Prop) : ∀ (l pre : List α) (s : σ), I pre s →
    (∀ pre' a post, pre ++ l = pre' ++ a :: post → ∀ s, I pre' s → ∃ s', (b (emb a) (st s)).bind (nxOf ks) = some (st s') ∧ I (pre' ++ [a]) s') → ∃ s', loopF b ks (l.map emb) (st s) = some (.nx (st s')) ∧ I (pre ++ l) s'
  | [], pre, s, hi, _ => ⟨s, rfl, by simpa using hi⟩
  | a :: l, pre, s, hi, h => by
    obtain ⟨s', e1, i1⟩ := h pre a l rfl s hi
    obtain ⟨s2, e2, i2⟩ := loop_inv emb st I l (pre ++ [a]) _ i1 fun pre' a' post e => h pre' a' post (by simpa using e)
    exact ⟨s2, by rw [List.map_cons, loop_go e1, e2], by simpa using i2⟩
/-- a search -/
theorem loop_find {α : Type} {b : D → Rho → Option Out} {ks : List Nat} (emb : α → D) (ρ : Rho) (p : α → Bool) (res : α → D) (rr : α → Rho) : ∀ (l : List α),
    (∀ a ∈ l, if p a then b (emb a) ρ = some (.rt (res a) (rr a)) else (b (emb a) ρ).bind (nxOf ks) = some ρ) →
    loopF b ks (l.map emb) ρ = match l.find? p with | some a => some (.rt (res a) (rr a)) | none => some (.nx ρ)
  | [], _ => rfl
  | a :: l, h => by
    have h1 := h a (by simp)
    cases hp : p a with
    | true =>
      rw [hp, if_pos rfl] at h1
      rw [List.map_cons, loop_rt h1, List.find?_cons, hp]
    | false =>
      rw [hp, if_neg (by simp)] at h1
      rw [List.map_cons, loop_go h1, List.find?_cons, hp]
      exact loop_find emb ρ p res rr l fun a ha => h a (by simp [ha])
/-- comprehensions -/
theorem lc_map {α : Type} {step : D → Rho → Option (Option D × Rho)} (emb : α → D) (g : α → Option D) (ρ : Rho) : ∀ (l : List α), (∀ a ∈ l, step (emb a) ρ = some (g a, ρ)) → lcF step (l.map emb) ρ = some (l.filterMap g, ρ)
  | [], _ => rfl
  | a :: l, h => by
    show (step (emb a) ρ).bind _ = _
    rw [h a (by simp)]
    simp only [Option.bind_some]
    rw [lc_map emb g ρ l fun a ha => h a (by simp [ha])]
    simp only [Option.bind_some, List.filterMap_cons]
    cases g a <;> rfl
theorem lc_all {α : Type} {step : D → Rho → Option (Option D × Rho)} (emb : α → D) (g : α → D) (ρ : Rho) (l : List α) (h : ∀ a ∈ l, step (emb a) ρ = some (some (g a), ρ)) : lcF step (l.map emb) ρ = some (l.map g, ρ) := by
  rw [lc_map emb (fun a => some (g a)) ρ l h]
  simp
/-- .. with a state that changes -/
theorem lc_st {α σ : Type} {step : D → Rho → Option (Option D × Rho)} (emb : α → D) (st : σ → Rho) (inv : σ → Prop) (Q : α → D → Prop) : ∀ (l : List α) (s : σ), inv s →
    (∀ a ∈ l, ∀ s, inv s → ∃ d s', inv s' ∧ Q a d ∧ step (emb a) (st s) = some (some d, st s')) → ∃ (ds : List D) (s' : σ), inv s' ∧ ds.length = l.length ∧ (∀ (i : Nat) (a : α) (d : D), l[i]? = some a → ds[i]? = some d → Q a d) ∧ lcF step (l.map emb) (st s) = some (ds, st s')
  | [], s, hi, _ => ⟨[], s, hi, rfl, by simp, rfl⟩
  | a :: l, s, hi, h => by
    obtain ⟨d, s1, i1, q1, e1⟩ := h a (by simp) s hi
    obtain ⟨ds, s2, i2, hl, q2, e2⟩ := lc_st emb st inv Q l s1 i1 fun a ha => h a (by simp [ha])
    refine ⟨d :: ds, s2, i2, by simp [hl], fun i a' d' ha hd => ?_, ?_⟩
    · cases i with
      | zero => simp at ha hd; subst ha; subst hd; exact q1
      | succ i => simp at ha hd; exact q2 i a' d' ha hd
    · show (step (emb a) (st s)).bind _ = _
      rw [e1]
      simp only [Option.bind_some]
      rw [e2]; rfl
theorem loop_ext {α β : Type} {b : D → Rho → Option Out} {ks : List Nat} (emb : α → D) (st : List β → Rho) (g : α → List β) (M B : Nat) : ∀ (l : List α) (acc : List β),
    (∀ a ∈ l, (g a).length ≤ M) → acc.length + l.length * M ≤ B →
    (∀ a ∈ l, ∀ acc : List β, acc.length + M ≤ B → (b (emb a) (st acc)).bind (nxOf ks) = some (st (acc ++ g a))) → loopF b ks (l.map emb) (st acc) = some (.nx (st (acc ++ l.flatMap g)))
  | [], acc, _, _, _ => by simp [loop_nil]
  | a :: l, acc, hM, hB, h => by
    have hl : (a :: l).length * M = l.length * M + M := by simp [Nat.succ_mul]
    have e1 := h a (by simp) acc (by omega)
    have hg := hM a (by simp)
    rw [List.map_cons, loop_go e1, loop_ext emb st g M B l (acc ++ g a) (fun a ha => hM a (by simp [ha])) (by simp; omega) fun a ha => h a (by simp [ha])]
    simp
theorem len_flat {α β : Type} (g : α → List β) (M : Nat) : ∀ l : List α, (∀ a ∈ l, (g a).length ≤ M) → (l.flatMap g).length ≤ l.length * M
  | [], _ => by simp
  | a :: l, h => by
    have h1 := len_flat g M l fun a ha => h a (by simp [ha])
    have h2 := h a (by simp)
    simp only [List.flatMap_cons, List.length_append, List.length_cons, Nat.succ_mul]
    omega
theorem intsD0 (n : Nat) : intsD 0 n = (List.range n).map fun i : Nat => D.int (i : Int) := by
  unfold intsD; simp
theorem loopF_cons (b : D → Rho → Option Out) (ks : List Nat) (d : D) (ds : List D) (ρ : Rho) : loopF b ks (d :: ds) ρ = (b d ρ).bind fun o => match o with
    | .nx ρ' => loopF b ks ds (kill ks ρ')
    | .ct ρ' => loopF b ks ds (kill ks ρ')
    | .bk ρ' => some (.nx (kill ks ρ'))
    | .rt d ρ' => some (.rt d ρ') := rfl
theorem lcF_nil (b : D → Rho → Option (Option D × Rho)) (ρ : Rho) : lcF b [] ρ = some ([], ρ) := rfl
theorem lcF_cons (b : D → Rho → Option (Option D × Rho)) (d : D) (ds : List D) (ρ : Rho) : lcF b (d :: ds) ρ = (b d ρ).bind fun q => (lcF b ds q.2).bind fun w => some (q.1.toList ++ w.1, w.2) := rfl
end TL

namespace TL
open PySem PySem.Spec PyProof.Rows L2

def b__law_draw : Sf := (sRetO (oLst (aCons (eF (oCa (f1L listD) (aCons (eVar 0) aNil))) (aCons (eC (.int 0)) (aCons (eC (.int 0)) (aCons (eC (.int 17)) aNil))))))
def b__law_next : Sf := (sSeq (sIf (tBl (eBin dGt (eBin dIx (eOwn 0) (eC (.int 2))) (eC (.int 0)))) (sSeq (sAsg (eBin dMod (eCa (f1 intD) (aCons (eBin dIx (eOwn 0) (eC (.int 2))) aNil)) (eVar 1)) (gNm 2)) (sSeq (sSetIx 0 (eBin dDiv (eBin dIx (eOwn 0) (eC (.int 2))) (eVar 1)) (eC (.int 2))) (sRet (eVar 2)))) sNil) (sSeq (sIf (tBl (eBin dLt (eBin dIx (eOwn 0) (eC (.int 1))) (eCa (f1 lenD) (aCons (eBin dIx (eOwn 0) (eC (.int 0))) aNil)))) (sKl [3] (sSeq (sAsg (eCa (f1 absD) (aCons (eBin dIx (eBin dIx (eOwn 0) (eC (.int 0))) (eBin dIx (eOwn 0) (eC (.int 1)))) aNil)) (gNm 3)) (sSeq (sSetIx 0 (eBin dAdd (eBin dIx (eOwn 0) (eC (.int 1))) (eC (.int 1))) (eC (.int 1))) (sSeq (sIf (tBl (eBin dGe (eVar 3) (eBin dPow (eC (.int 10)) (eC (.int 18))))) (sSeq (sSetIx 0 (eBin dDiv (eVar 3) (eVar 1)) (eC (.int 2))) (sRet (eBin dMod (eCa (f1 intD) (aCons (eVar 3) aNil)) (eVar 1)))) sNil) (sSetIx 0 (eBin dMod (eCa (f1 intD) (aCons (eBin dAdd (eBin dAdd (eBin dMul (eBin dIx (eOwn 0) (eC (.int 3))) (eC (.int 48271))) (eVar 3)) (eC (.int 11))) aNil)) (eC (.int 2147483647))) (eC (.int 3))))))) (sSetIx 0 (eBin dMod (eCa (f1 intD) (aCons (eBin dAdd (eBin dMul (eBin dIx (eOwn 0) (eC (.int 3))) (eC (.int 48271))) (eC (.int 12345))) aNil)) (eC (.int 2147483647))) (eC (.int 3)))) (sRet (eBin dMod (eBin dDiv (eCa (f1 intD) (aCons (eBin dMod (eBin dMul (eBin dIx (eOwn 0) (eC (.int 3))) (eC (.int 69621))) (eC (.int 2147483629))) aNil)) (eC (.int 7))) (eVar 1)))))
def b__law_same (G__law_same : Fm) : Sf := (sSeq (sIf (tB (eIsLT (eVar 1))) (sSeq (sIf (tOr' (tBl (eBin dNe (eIsI .list (eVar 1)) (eIsI .list (eVar 0)))) (tBl (eBin dNe (eIsI .tuple (eVar 1)) (eIsI .tuple (eVar 0))))) (sRet (eC (.bl false))) sNil) (sSeq (sIf (tBl (eBin dNe (eCa (f1 lenD) (aCons (eVar 0) aNil)) (eCa (f1 lenD) (aCons (eVar 1) aNil)))) (sRet (eC (.bl false))) sNil) (sRet (eCa (f1 allD) (aCons (eF (oLc [2] (TL.iRng1 (aCons (eCa (f1 lenD) (aCons (eVar 1) aNil)) aNil)) (gNm 2) tYesF (oE (eF (oCall G__law_same (aCons (eBin dIx (eVar 0) (eVar 2)) (aCons (eBin dIx (eVar 1) (eVar 2)) aNil))))))) aNil))))) sNil) (sSeq (sIf (tBl (eBin dIs (eVar 1) (eC .non))) (sRet (eBin dIs (eVar 0) (eC .non))) sNil) (sSeq (sIf (tBl (eBin dNe (eIsI .bool (eVar 1)) (eIsI .bool (eVar 0)))) (sRet (eC (.bl false))) sNil) (sSeq (sIf (tB (eIsI .str (eVar 1))) (sRet (eAnd (eIsI .str (eVar 0)) (eBin dEq (eVar 0) (eVar 1)))) sNil) (sRet (eAnd (eIsI .int (eVar 0)) (eBin dEq (eVar 0) (eVar 1))))))))
/-! ### draws -/
structure Dr where
  pos : Int
  pend : Int
  seed : Int
def drD (ns : List Int) (s : Dr) : D := .lst [.lst (ns.map D.int), .int s.pos, .int s.pend, .int s.seed]
def Dr.ok (s : Dr) : Prop := 0 ≤ s.pos ∧ 0 ≤ s.seed ∧ s.seed < 2147483647
def Dr0 : Dr := ⟨0, 0, 17⟩
theorem Dr0.ok : Dr0.ok := by simp [Dr.ok, Dr0]
theorem draw_ok (ns : List Int) : runF b__law_draw 1 0 [.scr ns] = some (drD ns Dr0, [.scr ns]) := by
  simp [v_run1, b__law_draw, okLen, drD, Dr0]
theorem setL_1 (a b : D) (l : List D) (d : D) : setL (a :: b :: l) 1 d = some (a :: d :: l) := by
  unfold setL ixN; simp; rw [if_pos (by omega)]; rfl
theorem setL_2 (a b c : D) (l : List D) (d : D) : setL (a :: b :: c :: l) 2 d = some (a :: b :: d :: l) := by
  unfold setL ixN; simp; rw [if_pos (by omega)]; rfl
theorem setL_3 (a b c e : D) (l : List D) (d : D) : setL (a :: b :: c :: e :: l) 3 d = some (a :: b :: c :: d :: l) := by
  unfold setL ixN; simp; rw [if_pos (by omega)]; rfl
theorem next_ok (ns : List Int) (s : Dr) (h : s.ok) (m : Int) (h0 : 0 < m) (hm : m ≤ 1000000000000000000) : ∃ v s', s'.ok ∧ 0 ≤ v ∧ v < m ∧ runF b__law_next 2 2 [drD ns s, .int m] = some (.int v, [drD ns s', .int m]) := by
  obtain ⟨pos, pend, seed⟩ := s
  obtain ⟨k1, k2, k3⟩ := h
  simp only at k1 k2 k3
  have hsm : sm m = true := sm_of (by omega) (by omega)
  have fin7 : ∀ (z : Int), 0 ≤ z → z < 2147483647 → sm z = true := fun z a b => sm_of (by omega) (by omega)
  simp only [v_run2]
  unfold b__law_next
  by_cases hp : 0 < pend
  · refine ⟨pend % m, ⟨pos, pend / m, seed⟩, ⟨k1, k2, k3⟩, Int.emod_nonneg _ (by omega), Int.emod_lt_of_pos _ h0, ?_⟩
    simp [drD, hp, h0, hsm, setIxOf, setL_2]
  · by_cases hq : pos < ns.length
    · have e1 : atI (ns.map D.int) pos = some (.int (ns[pos.toNat]'(by omega))) := by
        rw [ix_get _ _ k1 (by simpa using hq)]
        simp [List.getElem?_eq_getElem (show pos.toNat < ns.length by omega)]
      generalize ns[pos.toNat]'(by omega) = c at e1
      have e2 : dPow (.int 10) (.int 18) = some (.int 1000000000000000000) := by kernel_rfl
      generalize hcell : (if c < 0 then -c else c) = cell
      have hc0 : 0 ≤ cell := by subst hcell; split <;> omega
      by_cases hb : 1000000000000000000 ≤ cell
      · refine ⟨cell % m, ⟨pos + 1, cell / m, seed⟩, ⟨by simp; omega, k2, k3⟩, Int.emod_nonneg _ (by omega), Int.emod_lt_of_pos _ h0, ?_⟩
        simp [drD, hp, hq, h0, hsm, setIxOf, setL_1, setL_2, e1, e2, hcell, hb]
      · have r1 := Int.emod_nonneg (seed * 48271 + cell + 11) (show (2147483647 : Int) ≠ 0 by omega)
        have r2 := Int.emod_lt_of_pos (seed * 48271 + cell + 11) (show (0 : Int) < 2147483647 by omega)
        generalize hr : (seed * 48271 + cell + 11) % 2147483647 = r at r1 r2
        refine ⟨r * 69621 % 2147483629 / 7 % m, ⟨pos + 1, pend, r⟩, ⟨by simp; omega, r1, r2⟩, Int.emod_nonneg _ (by omega), Int.emod_lt_of_pos _ h0, ?_⟩
        simp [drD, hp, hq, h0, hsm, setIxOf, setL_1, setL_3, e1, e2, hcell, hb, fin7 seed k2 k3, fin7 r r1 r2, sm_of (i := 48271) (by omega) (by omega), sm_of (i := 69621) (by omega) (by omega), sm_of (i := 7) (by omega) (by omega), hr]
    · have r1 := Int.emod_nonneg (seed * 48271 + 12345) (show (2147483647 : Int) ≠ 0 by omega)
      have r2 := Int.emod_lt_of_pos (seed * 48271 + 12345) (show (0 : Int) < 2147483647 by omega)
      generalize hr : (seed * 48271 + 12345) % 2147483647 = r at r1 r2
      refine ⟨r * 69621 % 2147483629 / 7 % m, ⟨pos, pend, r⟩, ⟨k1, r1, r2⟩, Int.emod_nonneg _ (by omega), Int.emod_lt_of_pos _ h0, ?_⟩
      simp [drD, hp, hq, h0, hsm, setIxOf, setL_3, fin7 seed k2 k3, fin7 r r1 r2, sm_of (i := 48271) (by omega) (by omega), sm_of (i := 69621) (by omega) (by omega), sm_of (i := 7) (by omega) (by omega), hr]
/-! ### the same -/
def R_same : Nat → Fm
  | 0 => fun _ => none
  | r + 1 => runF (b__law_same (R_same r)) 2 1
def okS (n : Nat) : Bool := Nat.ble n 10000
theorem okS_le {n : Nat} (h : okS n = true) : n ≤ 10000 := Nat.le_of_ble_eq_true h
theorem okS_of {n : Nat} (h : n ≤ 10000) : okS n = true := Nat.ble_eq_true_of_le h
def plain : Nat → D → Bool
  | _, .non => true
  | _, .bl _ => true
  | _, .int _ => true
  | _, .str s => sOk s
  | n + 1, .tup l => okS l.length && l.all (plain n)
  | n + 1, .lst l => okS l.length && l.all (plain n)
  | _, _ => false
mutual
theorem dq_self : ∀ (n : Nat) (d : D), plain n d = true → dq d d = true
  | n, .non, _ => rfl
  | n, .bl _, _ => by simp [dq]
  | n, .int _, _ => by simp [dq]
  | n, .str _, _ => by simp [dq]
  | n + 1, .tup l, h => by
    simp only [plain, Bool.and_eq_true, List.all_eq_true] at h
    simp only [dq]; exact dqs_self n l h.2
  | n + 1, .lst l, h => by
    simp only [plain, Bool.and_eq_true, List.all_eq_true] at h
    simp only [dq]; exact dqs_self n l h.2
  | 0, .tup _, h => by simp [plain] at h
  | 0, .lst _, h => by simp [plain] at h
  | n, .dct _, h => by cases n <;> simp [plain] at h
  | n, .set _, h => by cases n <;> simp [plain] at h
  | n, .obj _ _, h => by cases n <;> simp [plain] at h
  | n, .scr _, h => by cases n <;> simp [plain] at h
theorem dqs_self : ∀ (n : Nat) (l : List D), (∀ d ∈ l, plain n d = true) → dqs l l = true
  | n, [], _ => rfl
  | n, d :: l, h => by
    simp only [dqs, Bool.and_eq_true]
    exact ⟨dq_self n d (h d (by simp)), dqs_self n l fun d hd => h d (by simp [hd])⟩
end
theorem getBls_true (n : Nat) : getBls (List.replicate n (D.bl true)) = some (List.replicate n true) := by
  induction n with
  | zero => rfl
  | succ n ih => simp [List.replicate_succ, getBls, ih]
theorem same_ok : ∀ (n : Nat) (d : D), plain n d = true → R_same (n + 1) [d, d] = some (.bl true, [d, d]) := by
  intro n
  induction n with
  | zero =>
    intro d h
    show runF (b__law_same (R_same 0)) 2 1 [d, d] = _
    rw [v_run2]
    unfold b__law_same
    cases d <;> first | (cases h; done) | skip
    · simp
    · simp
    · simp
    · simp [d_eqs _ (show sOk _ = true from h)]
  | succ n ih =>
    intro d h
    show runF (b__law_same (R_same (n + 1))) 2 1 [d, d] = _
    rw [v_run2]
    unfold b__law_same
    have key : ∀ (l : List D), l.length ≤ 10000 → (∀ d ∈ l, plain n d = true) → ∀ (w : List D → D), (∀ m : List D, w m = .tup m ∨ w m = .lst m) →
        lcF (stepLc [2] (gNm 2) tYesF (oE (eF (oCall (R_same (n + 1)) (aCons (eBin dIx (eVar 0) (eVar 2)) (aCons (eBin dIx (eVar 1) (eVar 2)) aNil)))))) (intsD 0 l.length) [w l, w l, .non] = some (List.replicate l.length (.bl true), [w l, w l, .non]) := by
      intro l hl hp w hw
      unfold intsD
      rw [lc_all (fun i : Nat => D.int (0 + (i : Nat))) (fun _ => D.bl true)]
      · have : (List.range l.length).map (fun _ => D.bl true) = List.replicate l.length (D.bl true) := by
          rw [List.map_const', List.length_range]
        rw [this]
      · intro a ha
        have ha := List.mem_range.mp ha
        have e := ix_nat l a ha
        have e2 := ih l[a] (hp _ (List.getElem_mem ha))
        rcases hw l with e3 | e3 <;> simp [e3, e, e2]
    match d, h with
    | .non, _ => simp
    | .bl _, _ => simp
    | .int _, _ => simp
    | .str _, h => simp [d_eqs _ (show sOk _ = true from h)]
    | .dct _, h => simp [plain] at h
    | .set _, h => simp [plain] at h
    | .obj _ _, h => simp [plain] at h
    | .scr _, h => simp [plain] at h
    | .tup l, h =>
      simp only [plain, Bool.and_eq_true, List.all_eq_true] at h
      have h1 := okS_le h.1
      simp [s62_of (i := (l.length : Int)) (by omega) (by omega), okLen_of (n := l.length) (by omega), key l h1 h.2 D.tup (fun m => .inl rfl), allD, getBls_true]
    | .lst l, h =>
      simp only [plain, Bool.and_eq_true, List.all_eq_true] at h
      have h1 := okS_le h.1
      simp [s62_of (i := (l.length : Int)) (by omega) (by omega), okLen_of (n := l.length) (by omega), key l h1 h.2 D.lst (fun m => .inr rfl), allD, getBls_true]
end TL

namespace TL
open PySem PySem.Spec PyProof.Rows L2
/-! ### the order of data -/
def rLtG (K : PySem.W.Frag) : R2 := fun x y H Q => ∃ d e, Dp K H x d ∧ Dp K H y e ∧ PySem.W.alike d e = true ∧ d ≠ .none ∧ d.depth ≤ 60 ∧ Q (.bl (PySem.W.dataLt d e)) H
theorem op_ltG {X : Cx} (hu : X.A.units + 64 < cLine) : OpR X (compareOp .Lt) (rLtG X.K) := by
  intro pins s σ H x y v u Q I rx ry h
  obtain ⟨d, e, hd, he, hal, hn, dp, q⟩ := h
  obtain ⟨as, r1⟩ := Dp.reads I d x v hd rx
  obtain ⟨bs, r2⟩ := Dp.reads I e y u he ry
  have R := PySem.W.rcLt_alike d e X.A s v u as bs r1 r2 hal hn (by omega)
  exact R X.prog X.w X.xe (EP X pins σ Q) ⟨.bl _, H, I, rfl, q⟩
def alikeD (a b : D) : Bool := PySem.W.alike (py a) (py b)
def ltD (a b : D) : Bool := PySem.W.dataLt (py a) (py b)
def dLtG (a b : D) : Option D := if pyOk 40 a && pyOk 40 b && alikeD a b && !isNonD a then some (.bl (ltD a b)) else none
theorem py_none {n : Nat} {d : D} (h : pyOk n d = true) (h2 : isNonD d = false) : py d ≠ .none := by
  cases d <;> cases n <;> simp_all [py, isNonD, pyOk]
theorem od_ltG {X : Cx} : OpD X (rLtG X.K) dLtG := fun S H d1 d2 d v1 v2 Q al r1 r2 e q => by
  obtain ⟨h, e⟩ := ifSome' e
  subst e
  simp only [Bool.and_eq_true, Bool.not_eq_true'] at h
  obtain ⟨⟨⟨h1, h2⟩, h3⟩, h4⟩ := h
  have sh := (pyOk_ok 40 d1 h1).2
  exact ⟨_, _, r1.dp h1, r2.dp h2, h3, py_none h1 h4, by omega, q _ H (Grow.refl H) (.bl _)⟩
end TL

namespace PySem.W
open PySem PySem.SeqAt PyProof.Rows
section
variable {prog : Program} {w : World} {A : Around} {E : Value → Shared → Prop} {s : Shared}
/-- min(a, b) of two alike data -/
theorem min_two_data {a b : Value} {da db : PyData} {as bs : List Addr} {Q : Value → Shared → Prop} (hh : A.handled = none) (ra : Reads s.heap a da as) (rb : Reads s.heap b db bs) (hal : AlikeAll [da, db]) (hu : A.units + 1 + PyData.depthAll [da, db] < cLine)
    (h : ∀ h' tk, (∀ c o, s.heap.get? c = some o → h'.get? c = some o) → Q (if dataLt db da then b else a) { s with heap := h', toks := tk }) : wpAny (model prog w) A (call (.builtin "min") [a, b]) Q E s := by
  have hname : (toString "min" ++ toString ".loop" : String) = "min.loop" := by decide
  refine call_function_tree F.kind_min F.plain_min F.entry_min (F.args_min2 _ _) ?_; show wpAny _ A.in1 (Builtin.Builtins.bindParams "min" ["key", "default"] 0 ⟨[], []⟩ >>= _) _ _ s
  refine wpAny_bind (wpAny_of_eq (show Builtin.Builtins.bindParams "min" ["key", "default"] 0 ⟨[], []⟩ = pure [none, none] from rfl) ?_); show wpAny _ A.in1 (newTuple [a, b] >>= _) _ _ s
  refine wpAny_bind (wpAny_newObj_type (wpAny_bind ?_))
  have g1 : ∀ c o, s.heap.get? c = some o → (s.heap.push { cls := .type "tuple", data := .seq #[a, b] }).get? c = some o := fun c o e => Heap.get?_push_of_some _ e
  have hT : (s.heap.push { cls := .type "tuple", data := .seq #[a, b] }).IsTuple s.heap.objs.size #[a, b] := ⟨_, Heap.get?_push_size _ rfl, rfl, 0, rfl⟩
  have hr : ReadsAll (s.heap.push { cls := .type "tuple", data := .seq #[a, b] }) [a, b] [da, db] (as ++ (bs ++ [])) := .cons (reads_keeps g1 ra) (.cons (reads_keeps g1 rb) .nil)
  refine iter_tupleW (s := { s with heap := s.heap.push { cls := .type "tuple", data := .seq #[a, b] } }) (A := A.in1) hh hT fun s₂ e W st hfp hw hk => wpAny_bind (wpAny_newObj_type ?_)
  have hSf : s₂.heap.objs.size ∉ _ := fun hm => Nat.lt_irrefl _ (hfp _ hm)
  rw [hname]
  refine wpAny_pure ⟨plainId_quiet F.plain_min_loop _, codeAny_min_loop_firstH W _ hw _ (cmpIn_lt (s := { s with heap := s.heap.push { cls := .type "tuple", data := .seq #[a, b] } }) (A := A.in1) (vs := #[a, b]) hr hal (by show A.units + 1 + _ < _; exact hu)) s₂.heap.objs.size hSf (fresh_in hk) _ (by simp) (fun b o e => Heap.get?_push_of_some _ (hk b o e)) (W.frame 0 s₂ _ s₂.toks st (Nat.le_refl _) fun b _ o e => Heap.get?_push_of_some _ e) (Heap.get?_push_size _ rfl) fun v s' hP hm => ?_⟩
  obtain ⟨h', tk, rfl, hk'⟩ := moved_old e rfl (Moved.drop_new (tk := s₂.toks) hm (Nat.le_refl _))
  have hv : v = if dataLt db da then b else a := by
    have hP' : (#[a, b] : Array Value)[argBest (fun i j => dataLt ([da, db].getD i .none) ([da, db].getD j .none)) 1]? = some v := hP
    cases hd : dataLt db da <;> simp [argBest, hd] at hP' <;> simp [hP']
  rw [hv]
  exact h h' tk fun c o e2 => hk' c o (g1 c o e2)
end
end PySem.W
namespace TL
open PySem PySem.Spec PyProof.Rows L2
def rMin2G (K : PySem.W.Frag) : List V → Hp → VK → Prop := fun xs H Q => ∃ x y d e, xs = [x, y] ∧ Dp K H x d ∧ Dp K H y e ∧ PySem.W.AlikeAll [d, e] ∧ d.depth ≤ 60 ∧ e.depth ≤ 60 ∧ Q (if PySem.W.dataLt e d then y else x) H
theorem call_min2G {X : Cx} (hc : X.calm = true) (hu : X.A.units + 64 < cLine) : CallR X (.builtin "min") (rMin2G X.K) := by
  intro pins s σ H xs us Q I r h
  obtain ⟨x, y, d, e, rfl, hd, he, hal, d1, d2, q⟩ := h
  obtain ⟨u, w', rfl, r1, r2⟩ := vals2 r
  obtain ⟨as, ra⟩ := Dp.reads I d x u hd r1
  obtain ⟨bs, rb⟩ := Dp.reads I e y w' he r2
  refine PySem.W.min_two_data (I.ok.hd hc) ra rb hal (by simp only [PyData.depthAll]; omega) fun h' tk k => ⟨_, H, I.kept k, ?_, q⟩
  cases PySem.W.dataLt e d
  · exact r1
  · exact r2
def loose : D → Bool
  | .lst _ => false
  | .dct _ => false
  | _ => true
theorem Rv.rf_of {K : PySem.W.Frag} {mg : Str → Option Value} {S : List Addr} {H : Hp} {d : D} {v : V} (r : Rv K mg S H d v) (h : loose d = true) : Rf K mg (hide S H) d v := by
  cases r with
  | rf r => exact r
  | lst _ _ => cases h
  | dK _ _ _ => cases h
  | dT _ _ _ => cases h
def min2G (a b : D) : Option D := if (pyOk 40 a && pyOk 40 b && loose a && loose b && !isNonD a && !isNonD b) && (alikeD a a && alikeD a b && alikeD b a && alikeD b b) then some (if ltD b a then b else a) else none
theorem ca_min2G {X : Cx} : CaD X (rMin2G X.K) (f2 min2G) := ca2 fun S H d1 d2 d v1 v2 Q al r1 r2 e q => by
  obtain ⟨h, e⟩ := ifSome' e
  simp only [Bool.and_eq_true, Bool.not_eq_true'] at h
  obtain ⟨⟨⟨⟨⟨⟨h1, h2⟩, h3⟩, h4⟩, h5⟩, h6⟩, ⟨⟨h7, h8⟩, h9⟩, h10⟩ := h
  have s1 := (pyOk_ok 40 d1 h1).2
  have s2 := (pyOk_ok 40 d2 h2).2
  refine ⟨_, _, _, _, rfl, r1.dp h1, r2.dp h2, ⟨fun x hx y hy => ?_, fun x hx => ?_⟩, by omega, by omega, ?_⟩
  · simp only [List.mem_cons, List.not_mem_nil, or_false] at hx hy
    rcases hx with rfl | rfl <;> rcases hy with rfl | rfl <;> assumption
  · simp only [List.mem_cons, List.not_mem_nil, or_false] at hx
    rcases hx with rfl | rfl
    · exact py_none h1 h5
    · exact py_none h2 h6
  · show Q (if ltD d2 d1 then v2 else v1) H
    cases hl : ltD d2 d1
    · rw [hl] at e; subst e; exact q _ H (Grow.refl H) (r1.rf_of h3)
    · rw [hl] at e; subst e; exact q _ H (Grow.refl H) (r2.rf_of h4)
end TL

namespace L2
open PySem PySem.Spec PyProof.Rows
/-- t * 1 is t -/
theorem tuple_mul1 (l : Addr) (items : Array Value) (n : Nat) (dd : Option Addr) (sl : Array (Option Value)) (u : Tok) :
    Meets (Builtin.«tuple.__mul__» ⟨[.ref l, .int 1 u], []⟩) (fun _ R s => s.heap.get? l = some { cls := .type "tuple", dict := dd, data := .seq items n, slots := sl } ∧ R (.ok (.ret (Value.ref l))) s) :=
  .of_wp fun prog w A R s h => by
    obtain ⟨hp, g, d, tk, os⟩ := s; obtain ⟨hl, h⟩ := h
    have f1 := AutoSeq1.idx_int
    have c0 : (decide ((1 : Int) < -(2 ^ 63)) || decide ((1 : Int) ≥ 2 ^ 63)) = false := by decide
    have c1 : (items.isEmpty || (1 : Int) == 1) = true := by simp
    wp_walk using wpAny_loadPart' hl
    repeat (first | (refine wpAny_ite_false (decide_eq_false (by rw [c0]; exact Bool.false_ne_true)) ?_; wp_walk using wpAny_loadPart' hl) | (refine wpAny_ite_true (decide_eq_true c1) ?_; wp_walk using wpAny_loadPart' hl))
    all_goals first | exact ⟨_, rfl, h⟩ | skip
def rRepT1 (K : PySem.W.Frag) : R2 := fun x y H Q => ∃ l xs, x = .ref l ∧ y = .int 1 ∧ SqT K H l xs ∧ Q (.ref l) H
theorem op_repT1 {X : Cx} : OpR X (binaryOp .Mult) (rRepT1 X.K) := by
  intro pins s σ H x y v u Q I rx ry h
  obtain ⟨l, xs, rfl, rfl, hT, q⟩ := h
  cases rx; obtain ⟨t, rfl⟩ := ry
  obtain ⟨its, r, ⟨⟨cls, dd, data, sl⟩, ho, hc, n, hd⟩, hs⟩ := I.tuple hT
  simp only at hc hd; subst hc hd
  exact wpAny_binaryOp_repeat_ref (T := "tuple") (U := "int") (by decide) ⟨_, ho, rfl⟩ (fun s' => typeIs_int s' 1 t) noFill_tuple_mul F.fills_int_mul F.slot_int_rmul repeat_tuple F.slot_int_index.lookup (call_meets F.slot_int_rmul (typeIs_int s 1 t) F.entry_int_rmul (F.args_int_rmul_2 _ _) (int_rmul_tuple 1 t l its.toArray n dd sl) ⟨ho, rfl, ⟨_, ho, rfl⟩, call_meets F.slot_tuple_mul ⟨_, ho, rfl⟩ F.entry_tuple_mul (F.args_tuple_mul_2 _ _) (tuple_mul1 l its.toArray n dd sl t) ⟨ho, ⟨.ref l, H, I, rfl, q⟩⟩⟩)
end L2
namespace TL
open PySem PySem.Spec PyProof.Rows L2
def dMulT1 : D → D → Option D
  | .tup l, .int i => if i == 1 then some (.tup l) else none
  | _, _ => none
theorem od_mulT1 {X : Cx} : OpD X (rRepT1 X.K) dMulT1 := fun S H d1 d2 d v1 v2 Q al r1 r2 e q => by
  cases d1 <;> cases d2 <;> first | (cases e; done) | skip
  obtain ⟨h, e⟩ := ifSome' e
  subst e
  have hi := eq_of_beq h
  subst hi
  obtain ⟨a, vs, rfl, h1, h1', q1⟩ := r1.tup_inv
  exact ⟨a, vs, rfl, r2.int_inv, h1, q _ H (Grow.refl H) (r1.rf_of rfl)⟩
/-- * with a tuple once -/
def dMul' : D → D → Option D := orG dMul dMulT1
theorem op_mulD' {X : Cx} : OpR X (binaryOp .Mult) (fun x y H Q => rMulD X.K x y H Q ∨ rRepT1 X.K x y H Q) := OpR.or op_mulD op_repT1
theorem od_mul' {X : Cx} : OpD X (fun x y H Q => rMulD X.K x y H Q ∨ rRepT1 X.K x y H Q) dMul' := OpD.or od_mul od_mulT1
/-- < of ints or of data -/
def dLt' : D → D → Option D := orG dLt dLtG
end TL

namespace TL
open PySem PySem.Spec PyProof.Rows L2
/-! side conditions for simp (disch := omega) -/
theorem okLen_s {n : Nat} (h : n ≤ 16777216) : okLen n = true := okLen_of h
theorem s62_s {i : Int} (h : -1000000000000 ≤ i ∧ i ≤ 1000000000000) : small62 i = true := s62_of h.1 h.2
theorem sm_s {i : Int} (h : -1000000000000000000 ≤ i ∧ i ≤ 1000000000000000000) : sm i = true := sm_of h.1 h.2
theorem ix_s {α : Type} [Inhabited α] (f : α → D) (l : List α) (i : Int) (h : 0 ≤ i ∧ i < l.length) : atI (l.map f) i = some (f (l.getD i.toNat default)) := by
  rw [ix_get _ _ h.1 (by simpa using h.2), List.getElem?_map, List.getElem?_eq_getElem (by omega)]
  simp [List.getD_eq_getElem?_getD, List.getElem?_eq_getElem (show i.toNat < l.length by omega)]
theorem ix_last {α : Type} [Inhabited α] (f : α → D) (l : List α) (h : 0 < l.length) : atI (l.map f) (-1) = some (f (l.getD (l.length - 1) default)) := by
  unfold atI ixN
  rw [if_neg (by omega), if_pos (by simp; omega)]
  have e : ((-1 : Int) + ((l.map f).length : Int)).toNat = l.length - 1 := by simp; omega
  rw [e, Option.bind_some, List.getElem?_map, List.getElem?_eq_getElem (by omega)]
  simp [List.getD_eq_getElem?_getD, List.getElem?_eq_getElem (show l.length - 1 < l.length by omega)]
theorem ix_snoc (l : List D) (d : D) : atI (l ++ [d]) (-1) = some d := by
  unfold atI ixN
  rw [if_neg (by omega), if_pos (by simp; omega)]
  simp
  rw [show ((-1 : Int) + ((l.length : Int) + 1)).toNat = l.length by omega]
  simp
theorem setL_snoc (l : List D) (d e : D) : setL (l ++ [d]) (-1) e = some (l ++ [e]) := by
  unfold setL ixN
  rw [if_neg (by omega), if_pos (by simp; omega)]
  simp
  rw [show ((-1 : Int) + ((l.length : Int) + 1)).toNat = l.length by omega]
  simp
theorem setL_s {α : Type} (f : α → D) (l : List α) (i : Int) (a : α) (h : 0 ≤ i ∧ i < l.length) : setL (l.map f) i (f a) = some ((l.set i.toNat a).map f) := by
  unfold setL ixN
  rw [if_pos h.1]
  simp [List.map_set, h]
/-! slices -/
theorem cut_from (l : List D) (k : Int) (h : 0 ≤ k) : cutD l (some k) none = l.drop k.toNat := by
  obtain ⟨n, rfl⟩ : ∃ n : Nat, k = n := ⟨k.toNat, by omega⟩
  unfold cutD
  rw [HT.sIx_nat, HT.sIx_none, Int.toNat_natCast]
  rw [List.take_of_length_le (by simp)]
  by_cases hn : n ≤ l.length
  · rw [Nat.min_eq_left hn]
  · rw [Nat.min_eq_right (by omega), List.drop_eq_nil_of_le (Nat.le_refl _), List.drop_eq_nil_of_le (by omega)]
theorem cut_to (l : List D) (k : Int) (h : 0 ≤ k) : cutD l none (some k) = l.take k.toNat := by
  obtain ⟨n, rfl⟩ : ∃ n : Nat, k = n := ⟨k.toNat, by omega⟩
  unfold cutD
  rw [HT.sIx_nat, HT.sIx_none, Int.toNat_natCast]
  rw [List.drop_zero, Nat.sub_zero]
  by_cases hn : n ≤ l.length
  · rw [Nat.min_eq_left hn]
  · rw [Nat.min_eq_right (by omega), List.take_of_length_le (Nat.le_refl _), List.take_of_length_le (by omega)]
theorem cut_mid (l : List D) (k m : Int) (h : 0 ≤ k) (h' : 0 ≤ m) : cutD l (some k) (some m) = (l.take m.toNat).drop k.toNat := by
  obtain ⟨n, rfl⟩ : ∃ n : Nat, k = n := ⟨k.toNat, by omega⟩
  obtain ⟨j, rfl⟩ : ∃ n : Nat, m = n := ⟨m.toNat, by omega⟩
  unfold cutD
  rw [HT.sIx_nat, HT.sIx_nat, Int.toNat_natCast, Int.toNat_natCast]
  apply List.ext_getElem?
  intro i
  rw [List.getElem?_take, List.getElem?_drop, List.getElem?_drop, List.getElem?_take]
  by_cases h1 : n ≤ l.length
  · rw [Nat.min_eq_left h1]
    by_cases h2 : n + i < l.length
    · by_cases h3 : n + i < j
      · rw [if_pos (by omega), if_pos h3]
      · rw [if_neg (by omega), if_neg h3]
    · rw [List.getElem?_eq_none (by omega)]
      simp
  · have a1 : l[l.length + i]? = none := List.getElem?_eq_none (by omega)
    have a2 : l[n + i]? = none := List.getElem?_eq_none (by omega)
    rw [Nat.min_eq_right (show l.length ≤ n by omega), a1, a2]
    simp
/-! sums, all, any of embedded lists -/
theorem getInts_m {α : Type} (f : α → Int) (l : List α) : getInts (l.map fun a => D.int (f a)) = some (l.map f) := by
  have := getInts_of (l.map f)
  rwa [List.map_map] at this
theorem getBls_m {α : Type} (f : α → Bool) (l : List α) : getBls (l.map fun a => D.bl (f a)) = some (l.map f) := by
  have := getBls_of (l.map f)
  rwa [List.map_map] at this
theorem sum_m {α : Type} (f : α → Int) (l : List α) : sumD (.lst (l.map fun a => D.int (f a))) = some (.int (l.map f).sum) := by
  show (getInts _).map _ = _
  rw [getInts_m]; rfl
theorem all_m {α : Type} (f : α → Bool) (l : List α) : allD (.lst (l.map fun a => D.bl (f a))) = some (.bl (l.all f)) := by
  show (getBls _).map _ = _
  rw [getBls_m]; simp
theorem any_m {α : Type} (f : α → Bool) (l : List α) : anyD (.lst (l.map fun a => D.bl (f a))) = some (.bl (l.any f)) := by
  show (getBls _).map _ = _
  rw [getBls_m]; simp
/-! while -/
theorem loopW_succ (t : Tf) (b : Sf) (ks : List Nat) (n : Nat) (ρ : Rho) : loopW t b ks (n + 1) ρ = (t ρ).bind fun p => if p.1 then (b p.2).bind fun o => match o with
      | .nx ρ' => loopW t b ks n (kill ks ρ')
      | .ct ρ' => loopW t b ks n (kill ks ρ')
      | .bk ρ' => some (.nx (kill ks ρ'))
      | .rt d ρ' => some (.rt d ρ')
    else some (.nx p.2) := rfl
theorem loopW_go {t : Tf} {b : Sf} {ks : List Nat} {n : Nat} {ρ ρ1 ρ2 : Rho} (h : t ρ = some (true, ρ1)) (k : (b ρ1).bind (nxOf ks) = some ρ2) : loopW t b ks (n + 1) ρ = loopW t b ks n ρ2 := by
  rw [loopW_succ, h]
  simp only [Option.bind_some, if_true]
  cases e : b ρ1 with
  | none => rw [e] at k; cases k
  | some o =>
    rw [e] at k
    cases o with
    | nx r => cases k; rfl
    | ct r => cases k; rfl
    | bk r => cases k
    | rt d r => cases k
theorem loopW_end {t : Tf} {b : Sf} {ks : List Nat} {n : Nat} {ρ ρ1 : Rho} (h : t ρ = some (false, ρ1)) : loopW t b ks (n + 1) ρ = some (.nx ρ1) := by
  rw [loopW_succ, h]; rfl
theorem sWhile_eq (n : Nat) (ks : List Nat) (t : Tf) (b : Sf) (ρ : Rho) : sWhile n ks t b ρ = loopW t b ks n (kill ks ρ) := rfl
/-- a loop whose turns all go on: by the turn's function on states -/
theorem loop_all {α σ : Type} {b : D → Rho → Option Out} {ks : List Nat} (emb : α → D) (st : σ → Rho) (f : σ → α → σ) (I : List α → σ → Prop) : ∀ (l pre : List α) (s : σ), I pre s →
    (∀ pre' a post, pre ++ l = pre' ++ a :: post → ∀ s, I pre' s → (b (emb a) (st s)).bind (nxOf ks) = some (st (f s a)) ∧ I (pre' ++ [a]) (f s a)) → loopF b ks (l.map emb) (st s) = some (.nx (st (l.foldl f s))) ∧ I (pre ++ l) (l.foldl f s)
  | [], pre, s, hi, _ => ⟨rfl, by simpa using hi⟩
  | a :: l, pre, s, hi, h => by
    obtain ⟨e1, i1⟩ := h pre a l rfl s hi
    obtain ⟨e2, i2⟩ := loop_all emb st f I l (pre ++ [a]) _ i1 fun pre' a' post e => h pre' a' post (by simpa using e)
    exact ⟨by rw [List.map_cons, loop_go e1, e2]; rfl, by simpa using i2⟩
/-! zip -/
theorem zip_m {α β : Type} (f : α → D) (g : β → D) (l : List α) (m : List β) : zipD (l.map f) (m.map g) = (l.zip m).map fun p => D.tup [f p.1, g p.2] := by
  unfold zipD
  rw [List.zip_map, List.map_map]
  rfl
/-! the order of data is total -/
theorem ltD_irr (a : D) : ltD a a = false := PyProof.Rows.lex_irrefl _
theorem ltD_asym {a b : D} (h : ltD a b = true) : ltD b a = false := by
  cases e : ltD b a with
  | false => rfl
  | true =>
    have := PyProof.Rows.lex_trans _ _ _ h e
    rw [PyProof.Rows.lex_irrefl] at this
    cases this
theorem ltD_tri {a b : D} (h : ltD a b = false) (k : ltD b a = false) : PySem.W.keyToks (py a) = PySem.W.keyToks (py b) := PyProof.Rows.lex_total _ _ h k
theorem ltD_trans {a b c : D} (h : ltD a b = true) (k : ltD b c = true) : ltD a c = true := PyProof.Rows.lex_trans _ _ _ h k
theorem pys_map {α : Type} (f : α → D) : ∀ l : List α, pys (l.map f) = l.map fun a => py (f a)
  | [] => rfl
  | a :: l => by rw [List.map_cons, List.map_cons, pys, pys_map f l]
end TL

namespace TL
open PySem PySem.Spec PyProof.Rows L2
/-- a loop that may end with a result -/
theorem loop_ret {α : Type} {b : D → Rho → Option Out} {ks : List Nat} (emb : α → D) (ρ : Rho) (p : α → Bool) (d : D) : ∀ (l : List α),
    (∀ a ∈ l, (p a = true → ∃ r, b (emb a) ρ = some (.rt d r)) ∧ (p a = false → (b (emb a) ρ).bind (nxOf ks) = some ρ)) →
    (l.any p = true → ∃ r, loopF b ks (l.map emb) ρ = some (.rt d r)) ∧ (l.any p = false → loopF b ks (l.map emb) ρ = some (.nx ρ))
  | [], h => ⟨fun h => by simp at h, fun _ => rfl⟩
  | a :: l, h => by
    obtain ⟨h1, h2⟩ := h a (by simp)
    obtain ⟨h3, h4⟩ := loop_ret emb ρ p d l fun a ha => h a (by simp [ha])
    cases hp : p a with
    | true =>
      obtain ⟨r, e⟩ := h1 hp
      refine ⟨fun _ => ⟨r, ?_⟩, fun k => ?_⟩
      · rw [List.map_cons, loop_rt e]
      · simp [hp] at k
    | false =>
      rw [List.any_cons, hp, Bool.false_or, List.map_cons, loop_go (h2 hp)]
      exact ⟨h3, h4⟩
/-- a result, whatever becomes of the slots -/
theorem exo {α β : Type} {x : Option (α × β)} {v : α} (h : x.map (fun p => p.1) = some v) : ∃ l, x = some (v, l) := by
  cases x with
  | none => cases h
  | some p => obtain ⟨a, b⟩ := p; simp at h; subst h; exact ⟨b, rfl⟩
/-- ends with True -/
def Tru (b : Sf) (ρ : Rho) : Prop := ∃ r, b ρ = some (.rt (.bl true) r)
theorem Tru.seq {f g : Sf} {ρ ρ1 : Rho} (h : f ρ = some (.nx ρ1)) (k : Tru g ρ1) : Tru (sSeq f g) ρ := by
  obtain ⟨r, e⟩ := k
  exact ⟨r, by rw [v_sSeq, h]; exact e⟩
theorem Tru.law {b : Sf} {m : Nat} {ns : List Int} (h : Tru b ([D.scr ns] ++ List.replicate m .non)) : ∃ r, runF b 1 m [.scr ns] = some (.bl true, r) := by
  obtain ⟨r, e⟩ := h
  rw [v_run1, e]
  exact ⟨_, rfl⟩
theorem next_nat (ns : List Int) (s : Dr) (h : s.ok) (m : Int) (h0 : 0 < m) (hm : m ≤ 1000000000000000000) : ∃ (v : Nat) (s' : Dr), s'.ok ∧ (v : Int) < m ∧ runF b__law_next 2 2 [drD ns s, .int m] = some (.int (v : Int), [drD ns s', .int m]) := by
  obtain ⟨v, s', ok, v0, vm, e⟩ := next_ok ns s h m h0 hm
  refine ⟨v.toNat, s', ok, by omega, ?_⟩
  rw [show ((v.toNat : Nat) : Int) = v by omega]
  exact e
/-- prefix of a range -/
theorem range_pre {n : Nat} {pre post : List Nat} {a : Nat} (h : [] ++ List.range n = pre ++ a :: post) : a = pre.length ∧ pre.length < n := by
  have h1 : (List.range n)[pre.length]? = some a := by
    rw [List.nil_append] at h
    rw [h]; simp
  have h2 : pre.length < n := by
    have := (List.getElem?_eq_some_iff.mp h1).1
    simpa using this
  rw [List.getElem?_range h2] at h1
  exact ⟨(Option.some.inj h1).symm, h2⟩
end TL

set_option maxHeartbeats 2000000
/-! itertools.combinations, at the library's level -/
namespace CpComb
open PySem PySem.Spec
open Sem (wp)
theorem mro_cmb : mroOf (.type "itertools.combinations") = pure [.type "itertools.combinations", .type "object"] := by rw [mroOf_type]; kernel_rfl
theorem lookup_cmb_new : typeLookup (.type "itertools.combinations") "__new__" = pure (some (.builtin "itertools.combinations.__new__")) := by rw [typeLookup_type, builtinLookup_eq_fast]; kernel_rfl
theorem slot_cmb_init : Slot "itertools.combinations" "__init__" "object.__init__" :=
  .of (owner := "object") (n := "__init__") (by rw [typeLookup_type, builtinLookup_eq_fast]; kernel_rfl) (by decide +kernel) (by decide +kernel) (by decide +kernel)
    (by first | exact .inl (by decide +kernel) | exact .inr (by decide +kernel)) (by rw [isSubtype_type]; kernel_rfl)
theorem sub_cmb : isSubtype (.type "itertools.combinations") (.type "itertools.combinations") = pure true := by rw [isSubtype_type]; kernel_rfl
theorem called_cmb : TypeCalled "itertools.combinations" "itertools.combinations.__new__" "object.__init__" :=
  ⟨by decide +kernel, by decide +kernel, ⟨_, _, mro_cmb⟩, madeBy_type mro_cmb lookup_cmb_new (by decide +kernel), by decide +kernel, sub_cmb, slot_cmb_init⟩
theorem typeCall_cmb_2 (a b : Value) : checkTypeCall "itertools.combinations" ⟨[a, b], []⟩ = pure () := by kernel_rfl
theorem newCall_cmb_2 (a b : Value) : checkBuiltinCall "itertools.combinations.__new__" ⟨[.type "itertools.combinations", a, b], []⟩ = pure () := by kernel_rfl
theorem entry_cmb_new : entryFor table "itertools.combinations.__new__" = some Builtin.«itertools.combinations.__new__» := entryFor_of_tree (by kernel_rfl)
theorem plain_cmb_new : plainId "itertools.combinations.__new__" = true := by decide +kernel
theorem slot_cmb_iter : Slot "itertools.combinations" "__iter__" "itertools.combinations.__iter__" :=
  .of (owner := "itertools.combinations") (n := "__iter__") (by rw [typeLookup_type, builtinLookup_eq_fast]; kernel_rfl) (by decide +kernel) (by decide +kernel) (by decide +kernel)
    (by first | exact .inl (by decide +kernel) | exact .inr (by decide +kernel)) sub_cmb
theorem slot_cmb_next : Slot "itertools.combinations" "__next__" "itertools.combinations.__next__" :=
  .of (owner := "itertools.combinations") (n := "__next__") (by rw [typeLookup_type, builtinLookup_eq_fast]; kernel_rfl) (by decide +kernel) (by decide +kernel) (by decide +kernel)
    (by first | exact .inl (by decide +kernel) | exact .inr (by decide +kernel)) sub_cmb
theorem entry_cmb_iter : entryFor table "itertools.combinations.__iter__" = some Builtin.«dict_keyiterator.__iter__» :=
  entryFor_alias (id' := "dict_keyiterator.__iter__") (by kernel_rfl) (by first | rfl | decide +kernel | (unfold String.splitOn; simp +decide [String.splitOnAux])) (by decide +kernel) (by kernel_rfl)
theorem entry_cmb_next : entryFor table "itertools.combinations.__next__" = some Builtin.«itertools.combinations.__next__» := entryFor_of_tree (by kernel_rfl)
theorem owner_cmb : Manifest.owners.lookup (String.ofList ("itertools.combinations".toList.reverse).reverse) = some Manifest.sig_itertools_combinations := by kernel_rfl
theorem args_cmb_iter (a : Value) : argsOk "itertools.combinations.__iter__" ⟨[a], []⟩ := by
  unfold argsOk; rw [signature?_of (id := "itertools.combinations.__iter__") (n := "__iter__".toList.reverse) (o := "itertools.combinations".toList.reverse) (by kernel_rfl) owner_cmb]; kernel_rfl
theorem args_cmb_next (a : Value) : argsOk "itertools.combinations.__next__" ⟨[a], []⟩ := by
  unfold argsOk; rw [signature?_of (id := "itertools.combinations.__next__") (n := "__next__".toList.reverse) (o := "itertools.combinations".toList.reverse) (by kernel_rfl) owner_cmb]; kernel_rfl
theorem noDict_cmb : typeHasDict (.type "itertools.combinations") = false := by decide +kernel
/-- the next row of places -/
def nextC (n : Nat) (indices : List Nat) : Option (List Nat) :=
  let r := indices.length
  match (List.range r).reverse.find? fun i => indices.getD i 0 != i + n - r with
  | none => none
  | some i => some (indices.take i ++ (List.range (r - i)).map (indices.getD i 0 + 1 + ·))
end CpComb

set_option maxHeartbeats 2000000
namespace CpComb
open PySem PySem.Spec
open Sem (wp)
/-- a combinations object: its pool, 0 ahead of the first, 1 then, 2 at its end; what it gave; its places -/
abbrev IsCmb (h : Heap) (it : Addr) (pool : Addr) (st : Int) (cur : Value) (idx : List Nat) : Prop :=
  h.get? it = some { cls := .type "itertools.combinations", dict := none, data := .fields ([.ref pool, .int st 0, cur] ++ idx.map fun n : Nat => rawInt n).toArray, slots := #[] }
section
variable {prog : Program} {w : World} {A : Around} {E : Value → Shared → Prop} {s : Shared}
/-- collecting a thing gives some items -/
def Coll (prog : Program) (w : World) (E : Value → Shared → Prop) (v : Value) (P : Shared → List Value → Prop) (s : Shared) : Prop :=
  ∀ (A : Around) (Q : List Value → Shared → Prop), A.handled = none → (∀ (h' : Heap) (tk : Nat) (us : List Value), (∀ b o, s.heap.get? b = some o → h'.get? b = some o) → P { s with heap := h', toks := tk } us → Q us { s with heap := h', toks := tk }) →
    wpAny (model prog w) A (collect v) Q E s
theorem code_cmb_new {v : Value} {k : Nat} {t : Tok} {P : Shared → List Value → Prop} {Q₁ : Value → Shared → Prop} (hh : A.handled = none) (hk : k ≤ 1000) (hc : Coll prog w E v P s)
    (hlen : ∀ s' us, P s' us → us.length ≤ 100000)
    (h : ∀ (h' : Heap) (tk : Nat) (us : List Value), (∀ b o, s.heap.get? b = some o → h'.get? b = some o) → P { s with heap := h', toks := tk } us →
      Q₁ (.ref (h'.push { cls := .type "tuple", data := .seq us.toArray }).objs.size) { s with heap := (h'.push { cls := .type "tuple", data := .seq us.toArray }).push { cls := .type "itertools.combinations", data := .fields ([.ref h'.objs.size, rawInt (if k > us.length then 2 else 0), .none] ++ (List.range k).map fun (i : Nat) => rawInt i).toArray }, toks := tk }) :
    codeAny (model prog w) A (.call (.builtin "itertools.combinations.__new__") ⟨[.type "itertools.combinations", v, .int k t], []⟩) (wants Q₁ E) s := by
  refine codeAny_of_tree ?_
  show wpAny _ A.in1 (do checkBuiltinCall "itertools.combinations.__new__" ⟨[.type "itertools.combinations", v, .int k t], []⟩; again (.builtin "itertools.combinations.__new__" ⟨[.type "itertools.combinations", v, .int k t], []⟩)) _ _ s
  refine wpAny_bind (wpAny_of_eq (newCall_cmb_2 _ _) (wpAny_pure ⟨plainId_quiet plain_cmb_new _, codeAny_builtin entry_cmb_new ?_⟩))
  rw [Around.under_plainId plain_cmb_new _]
  have hh1 : A.in1.handled = none := hh
  have e1 : Builtin.Itertools.itClassAndRest "combinations" ⟨[.type "itertools.combinations", v, .int k t], []⟩ = pure (.type "itertools.combinations", [v, .int k t]) := by
    kernel_rfl
  have e2 : ∀ a b : Value, Builtin.Itertools.itBindNamed "combinations" ["iterable", "r"] 2 2 [a, b] [] = pure [some a, some b] := fun a b => by kernel_rfl
  have e4 : asIndex (.int k t) = pure (k : Int) := by kernel_rfl
  have k1 : (decide ((k : Int) < -(2 ^ 63 : Int)) || decide ((k : Int) ≥ 2 ^ 63)) = false := by
    rw [decide_eq_false (by omega), decide_eq_false (by omega)]; rfl
  have k2 : ¬ (k : Int) < 0 := by omega
  have k3 : Builtin.Itertools.itTooMany (k : Int) = false := decide_eq_false (by omega)
  refine wpAny_bind ?_
  show wpAny _ _ (Builtin.Itertools.itClassAndRest "combinations" _ >>= _) _ _ s
  refine wpAny_bind (wpAny_of_eq e1 ?_)
  show wpAny _ _ (Builtin.Itertools.itBindNamed "combinations" ["iterable", "r"] 2 2 [v, .int k t] [] >>= _) _ _ s
  refine wpAny_bind (wpAny_of_eq (e2 _ _) ?_)
  show wpAny _ _ (Builtin.Itertools.itSsizeArg (.int k t) >>= _) _ _ s
  refine wpAny_bind ?_
  show wpAny _ _ (asIndex (.int k t) >>= _) _ _ s
  refine wpAny_bind (wpAny_of_eq e4 ?_)
  show wpAny _ _ (if (decide ((k : Int) < -(2 ^ 63 : Int)) || decide ((k : Int) ≥ 2 ^ 63)) = true then _ else _) _ _ s
  rw [k1, if_neg Bool.false_ne_true]
  refine wpAny_pure ?_
  show wpAny _ _ (collect v >>= _) _ _ s
  refine wpAny_bind (hc _ _ hh1 fun h' tk us hk' hP => ?_)
  show wpAny _ _ (if (k : Int) < 0 then _ else _) _ _ _
  rw [if_neg k2]
  show wpAny _ _ (if Builtin.Itertools.itTooMany (k : Int) = true then _ else _) _ _ _
  rw [k3, if_neg Bool.false_ne_true]
  show wpAny _ _ (newTuple us >>= _) _ _ _
  refine wpAny_bind ?_
  simp only [newTuple]
  refine wpAny_newObj_type ?_ ?_
  · refine wpAny_pure ?_
    rw [Int.toNat_natCast]
    refine wpAny_bind ?_
    show wpAny _ _ (if (!typeHasDict (.type "itertools.combinations")) = true then _ else _) _ _ _
    rw [noDict_cmb, if_pos (by rfl)]
    refine wpAny_newObj_type ?_ ?_
    · refine wpAny_pure ?_
      exact h h' tk us hk' hP
    · show _ ≤ sizeLine + 2
      rw [sizeLine_eq]
      simp
      omega
  · show us.toArray.size ≤ sizeLine
    have := hlen _ us hP
    rw [sizeLine_eq]
    simp
    omega

theorem call_cmb {v : Value} {k : Nat} {t : Tok} {P : Shared → List Value → Prop} {Q : Value → Shared → Prop} (hh : A.handled = none) (hk : k ≤ 1000) (hc : Coll prog w E v P s) (hlen : ∀ s' us, P s' us → us.length ≤ 100000)
    (h : ∀ (h1 h' : Heap) (pool it : Addr) (tk : Nat) (us : List Value), (∀ b o, s.heap.get? b = some o → h1.get? b = some o) → P { s with heap := h1, toks := tk } us → (∀ b o, h1.get? b = some o → h'.get? b = some o) → h1.objs.size ≤ pool → h1.objs.size ≤ it → pool ≠ it →
      h'.get? pool = some { cls := .type "tuple", data := .seq us.toArray } → IsCmb h' it pool (if k > us.length then 2 else 0) .none (List.range k) → Q (.ref it) { s with heap := h', toks := tk }) :
    wpAny (model prog w) A (call (.type "itertools.combinations") [v, .int k t]) Q E s := by
  refine callType_codes (Q₁ := fun obj s₁ => s₁.TypeIs obj "itertools.combinations" ∧ Q obj s₁) called_cmb (typeCall_cmb_2 _ _) F.entry_object_init
    (code_cmb_new (A := A.in1) hh hk hc hlen fun h' tk us hk' hP => ⟨⟨_, Heap.get?_push_size _ rfl, rfl⟩, ?_⟩) fun obj s₁ h₁ => ?_
  · refine h h' _ h'.objs.size _ tk us hk' hP (fun b o e => Heap.get?_push_of_some _ (Heap.get?_push_of_some _ e)) (Nat.le_refl _) ?_ ?_ ?_ ?_
    · rw [Heap.size_push]; exact Nat.le_succ _
    · rw [Heap.size_push]; exact Nat.ne_of_lt (Nat.lt_succ_self _)
    · exact Heap.get?_push_of_some _ (Heap.get?_push_size _ rfl)
    · exact Heap.get?_push_size _ rfl
  · exact ⟨h₁.1, F.args_object_init_3 obj _ _, object_init_meets called_cmb.init.lookup called_cmb.made (by decide) prog w A.in1 _ s₁ ⟨h₁.1, rfl, h₁.2⟩⟩
theorem iter_cmb {it pool : Addr} {st : Int} {cur : Value} {idx : List Nat} {Q : Value → Shared → Prop} (hit : IsCmb s.heap it pool st cur idx) (h : Q (.ref it) s) : wpAny (model prog w) A (pyIter (.ref it)) Q E s := by
  have hT : s.TypeIs (.ref it) "itertools.combinations" := ⟨_, hit, rfl⟩
  refine wpAny_pyIter_slot hT slot_cmb_iter (wpAny_call_entry slot_cmb_iter hT entry_cmb_iter ?_ (args_cmb_iter _))
  show wpAny _ _ (ret (.ref it)) _ _ s
  exact wpAny_pure ⟨_, rfl, "itertools.combinations", _, hT, slot_cmb_next.lookup, h⟩
theorem nums_of (idx : List Nat) (a b c : Value) : (([a, b, c] ++ idx.map fun n : Nat => rawInt n).toArray.toList.drop 3).map (fun v => match v with | .int n _ => n.toNat | _ => 0) = idx := by
  show ((idx.map fun n : Nat => rawInt n)).map _ = idx
  rw [List.map_map]
  conv => rhs; rw [← List.map_id idx]
  rfl
theorem give {it pool : Addr} {cur : Value} {idx : List Nat} {us : List Value} {Q : Value → Shared → Prop} (hne : pool ≠ it) (hit : IsCmb s.heap it pool 1 cur idx) (hp : s.heap.get? pool = some { cls := .type "tuple", data := .seq us.toArray }) (hl : idx.length ≤ 1000)
    (hQ : ∀ h', IsCmb h' it pool 1 (.ref s.heap.objs.size) idx → h'.get? s.heap.objs.size = some { cls := .type "tuple", data := .seq (idx.map fun i => us.toArray.getD i .none).toArray } → (∀ b o, b ≠ it → s.heap.get? b = some o → h'.get? b = some o) → Q (.ref s.heap.objs.size) { s with heap := h' }) :
    wpAny (model prog w) A (do
      let out ← (do
        let xs ← Builtin.Itertools.itPoolItems (.ref pool)
        newTuple (idx.map fun i => xs.getD i .none))
      let was ← field (.ref it) 2
      setField (.ref it) 2 out
      letGo [was] [out]
      ret out : Sem PySem.Fin) (fun r s' => ∃ v, r = .done (.ret v) ∧ Q v s') E s := by
  have lit : it < s.heap.objs.size := Heap.lt_size hit
  refine wpAny_bind (wpAny_bind ?_)
  show wpAny _ _ (seqItems? (.ref pool) >>= _) _ _ s
  refine wpAny_bind (wpAny_seqItems hp rfl ?_)
  refine wpAny_pure ?_
  simp only [newTuple]
  refine wpAny_newObj_type ?_ ?_
  · have hit1 : IsCmb (s.heap.push { cls := .type "tuple", data := .seq (idx.map fun i => us.toArray.getD i .none).toArray }) it pool 1 cur idx := Heap.get?_push_of_some _ hit
    refine wpAny_bind (wpAny_field hit1 rfl (x := cur) (by rfl) ?_)
    refine wpAny_bind (wpAny_setField hit1 rfl (by simp) ?_)
    refine wpAny_bind (wpAny_letGo ?_)
    refine wpAny_pure ⟨_, rfl, hQ _ ?_ ?_ fun b o hb e => ?_⟩
    · exact Heap.get?_update_self _ hit1 rfl
    · exact (Heap.get?_update_other _ _ (Nat.ne_of_lt lit)).trans (Heap.get?_push_size _ rfl)
    · exact (Heap.get?_update_other _ _ (Ne.symm hb)).trans (Heap.get?_push_of_some _ e)
  · show (idx.map fun i => us.toArray.getD i .none).toArray.size ≤ sizeLine
    rw [sizeLine_eq]; simp; omega

theorem cmb_first {it pool : Addr} {cur : Value} {idx : List Nat} {us : List Value} {Q : Option Value → Shared → Prop} (hne : pool ≠ it) (hit : IsCmb s.heap it pool 0 cur idx) (hp : s.heap.get? pool = some { cls := .type "tuple", data := .seq us.toArray }) (hl : idx.length ≤ 1000)
    (hQ : ∀ h', IsCmb h' it pool 1 (.ref s.heap.objs.size) idx → h'.get? s.heap.objs.size = some { cls := .type "tuple", data := .seq (idx.map fun i => us.toArray.getD i .none).toArray } → (∀ b o, b ≠ it → s.heap.get? b = some o → h'.get? b = some o) → Q (some (.ref s.heap.objs.size)) { s with heap := h' }) :
    wpAny (model prog w) A (callSpecial? (.ref it) "__next__") Q E s := by
  have hT : s.TypeIs (.ref it) "itertools.combinations" := ⟨_, hit, rfl⟩
  refine wpAny_callSpecial?_slot (name := Str.ofString "__next__") hT slot_cmb_next (wpAny_call_entry slot_cmb_next hT entry_cmb_next ?_ (args_cmb_next _))
  show wpAny _ _ (field (.ref it) 0 >>= _) _ _ s
  refine wpAny_bind (wpAny_field hit rfl (x := .ref pool) (by rfl) ?_)
  show wpAny _ _ (Builtin.Itertools.itNumbersFrom (.ref it) 3 >>= _) _ _ s
  refine wpAny_bind ?_
  show wpAny _ _ (load it >>= _) _ _ s
  refine wpAny_bind (wpAny_load hit ?_)
  refine wpAny_pure ?_
  show wpAny _ _ (Builtin.Itertools.itIntField (.ref it) 1 >>= _) _ _ s
  refine wpAny_bind ?_
  show wpAny _ _ (field (.ref it) 1 >>= _) _ _ s
  refine wpAny_bind (wpAny_field hit rfl (x := .int 0 0) (by rfl) (wpAny_pure ?_))
  show wpAny _ _ (setField (.ref it) 1 (rawInt 1) >>= _) _ _ s
  refine wpAny_bind (wpAny_setField hit rfl (by simp) ?_)
  have hit1 : IsCmb (s.heap.update it (Obj.mapFields fun x => x.setIfInBounds 1 (rawInt 1))) it pool 1 cur idx := Heap.get?_update_self _ hit rfl
  have hp1 : (s.heap.update it (Obj.mapFields fun x => x.setIfInBounds 1 (rawInt 1))).get? pool = some { cls := .type "tuple", data := .seq us.toArray } := (Heap.get?_update_other _ _ (Ne.symm hne)).trans hp
  have sz : (s.heap.update it (Obj.mapFields fun x => x.setIfInBounds 1 (rawInt 1))).objs.size = s.heap.objs.size := (Heap.SameBut.update s.heap it _).1
  have key := give (prog := prog) (w := w) (A := A.in1) (E := E) (s := { s with heap := s.heap.update it (Obj.mapFields fun x => x.setIfInBounds 1 (rawInt 1)) }) (Q := fun v s' => Q (some v) s') hne hit1 hp1 hl fun h' a b c => by
    simp only [sz] at a b ⊢
    exact hQ h' a b fun x o hx e => c x o hx ((Heap.get?_update_other _ _ (Ne.symm hx)).trans e)
  have e := nums_of idx (.ref pool) (.int 0 0) cur
  erw [e]
  exact key
theorem cmb_next {it pool : Addr} {cur : Value} {idx idx' : List Nat} {us : List Value} {Q : Option Value → Shared → Prop} (hne : pool ≠ it) (hit : IsCmb s.heap it pool 1 cur idx) (hp : s.heap.get? pool = some { cls := .type "tuple", data := .seq us.toArray }) (hn : nextC us.length idx = some idx') (hl : idx'.length ≤ 1000)
    (hQ : ∀ h', IsCmb h' it pool 1 (.ref s.heap.objs.size) idx' → h'.get? s.heap.objs.size = some { cls := .type "tuple", data := .seq (idx'.map fun i => us.toArray.getD i .none).toArray } → (∀ b o, b ≠ it → s.heap.get? b = some o → h'.get? b = some o) → Q (some (.ref s.heap.objs.size)) { s with heap := h' }) :
    wpAny (model prog w) A (callSpecial? (.ref it) "__next__") Q E s := by
  have hT : s.TypeIs (.ref it) "itertools.combinations" := ⟨_, hit, rfl⟩
  refine wpAny_callSpecial?_slot (name := Str.ofString "__next__") hT slot_cmb_next (wpAny_call_entry slot_cmb_next hT entry_cmb_next ?_ (args_cmb_next _))
  show wpAny _ _ (field (.ref it) 0 >>= _) _ _ s
  refine wpAny_bind (wpAny_field hit rfl (x := .ref pool) (by rfl) ?_)
  show wpAny _ _ (Builtin.Itertools.itNumbersFrom (.ref it) 3 >>= _) _ _ s
  refine wpAny_bind ?_
  show wpAny _ _ (load it >>= _) _ _ s
  refine wpAny_bind (wpAny_load hit ?_)
  refine wpAny_pure ?_
  have e := nums_of idx (.ref pool) (.int 1 0) cur
  erw [e]
  show wpAny _ _ (Builtin.Itertools.itIntField (.ref it) 1 >>= _) _ _ s
  refine wpAny_bind ?_
  show wpAny _ _ (field (.ref it) 1 >>= _) _ _ s
  refine wpAny_bind (wpAny_field hit rfl (x := .int 1 0) (by rfl) (wpAny_pure ?_))
  show wpAny _ _ (Builtin.Itertools.itPoolItems (.ref pool) >>= _) _ _ s
  refine wpAny_bind ?_
  show wpAny _ _ (seqItems? (.ref pool) >>= _) _ _ s
  refine wpAny_bind (wpAny_seqItems hp rfl (wpAny_pure ?_))
  have hsz : us.toArray.size = us.length := by simp
  rw [← hsz] at hn
  show wpAny _ _ (match nextC us.toArray.size idx with | some next => _ | none => _) _ _ s
  rw [hn]
  show wpAny _ _ (Builtin.Itertools.itSetNumbersFrom (.ref it) 3 idx' >>= _) _ _ s
  refine wpAny_bind ?_
  show wpAny _ _ (updateFields it (fun fs => fs.extract 0 3 ++ (idx'.map fun (n : Nat) => rawInt n).toArray)) _ _ s
  refine wpAny_updateFields hit rfl ?_ ?_
  · have hit1 : IsCmb (s.heap.update it (Obj.mapFields fun fs => fs.extract 0 3 ++ (idx'.map fun (n : Nat) => rawInt n).toArray)) it pool 1 cur idx' := by
      refine (Heap.get?_update_self _ hit rfl).trans ?_
      simp [Obj.mapFields]
    have hp1 : (s.heap.update it (Obj.mapFields fun fs => fs.extract 0 3 ++ (idx'.map fun (n : Nat) => rawInt n).toArray)).get? pool = some { cls := .type "tuple", data := .seq us.toArray } := (Heap.get?_update_other _ _ (Ne.symm hne)).trans hp
    have sz : (s.heap.update it (Obj.mapFields fun fs => fs.extract 0 3 ++ (idx'.map fun (n : Nat) => rawInt n).toArray)).objs.size = s.heap.objs.size := (Heap.SameBut.update s.heap it _).1
    exact give (prog := prog) (w := w) (A := A.in1) (E := E) (s := { s with heap := s.heap.update it (Obj.mapFields fun fs => fs.extract 0 3 ++ (idx'.map fun (n : Nat) => rawInt n).toArray) }) (Q := fun v s' => Q (some v) s') hne hit1 hp1 hl fun h' a b c => by
      simp only [sz] at a b ⊢
      exact hQ h' a b fun x o hx e => c x o hx ((Heap.get?_update_other _ _ (Ne.symm hx)).trans e)
  · rw [sizeLine_eq]; simp; omega
theorem stop_cmb {Q : Option Value → Shared → Prop} {it : Addr} (hh : A.handled = none) (hQ : ∀ e h', CpRep.StopE e h' → Heap.ExtBut it s.heap h' → E e { s with heap := h' }) :
    wpAny (model prog w) A.in1 (Builtin.Itertools.itStop : Sem PySem.Fin) (fun r s' => ∃ v, r = .done (.ret v) ∧ Q (some v) s') E s := by
  refine wpAny_bind ?_
  simp only [newExc, newTuple]
  refine wpAny_bind (wpAny_newObj_type ?_ (by size_fits))
  refine wpAny_bind (m := firstArgMember _ _) (wpAny_of_eq (a := Value.none) (by first | rfl | (simp only [firstArgMember]; rfl)) ?_)
  refine wpAny_newObj_type ?_ (by size_fits)
  simp only [raiseNew]
  refine wpAny_bind (wpAny_handled ?_)
  first | rw [show A.in1.handled = none from hh] | rw [hh]
  refine wpAny_bind (wpAny_pure (wpAny_throw ?_))
  exact hQ _ _ ⟨_, _, _, rfl, Heap.get?_push_size _ rfl, rfl, rfl, rfl⟩ (((Heap.ExtBut.refl it s.heap).push _).push _)
theorem cmb_end {it pool : Addr} {cur : Value} {idx : List Nat} {us : List Value} {st : Int} {Q : Option Value → Shared → Prop} (hh : A.handled = none) (hne : pool ≠ it) (hit : IsCmb s.heap it pool st cur idx) (hp : s.heap.get? pool = some { cls := .type "tuple", data := .seq us.toArray }) (hst : st = 2 ∨ (st = 1 ∧ nextC us.length idx = none))
    (hQ : ∀ e h', CpRep.StopE e h' → (∀ b o, b ≠ it → s.heap.get? b = some o → h'.get? b = some o) → E e { s with heap := h' }) : wpAny (model prog w) A (callSpecial? (.ref it) "__next__") Q E s := by
  have hT : s.TypeIs (.ref it) "itertools.combinations" := ⟨_, hit, rfl⟩
  refine wpAny_callSpecial?_slot (name := Str.ofString "__next__") hT slot_cmb_next (wpAny_call_entry slot_cmb_next hT entry_cmb_next ?_ (args_cmb_next _))
  show wpAny _ _ (field (.ref it) 0 >>= _) _ _ s
  refine wpAny_bind (wpAny_field hit rfl (x := .ref pool) (by rfl) ?_)
  show wpAny _ _ (Builtin.Itertools.itNumbersFrom (.ref it) 3 >>= _) _ _ s
  refine wpAny_bind ?_
  show wpAny _ _ (load it >>= _) _ _ s
  refine wpAny_bind (wpAny_load hit ?_)
  refine wpAny_pure ?_
  have e := nums_of idx (.ref pool) (.int st 0) cur
  erw [e]
  show wpAny _ _ (Builtin.Itertools.itIntField (.ref it) 1 >>= _) _ _ s
  refine wpAny_bind ?_
  show wpAny _ _ (field (.ref it) 1 >>= _) _ _ s
  refine wpAny_bind (wpAny_field hit rfl (x := .int st 0) (by rfl) (wpAny_pure ?_))
  rcases hst with rfl | ⟨rfl, hn⟩
  · refine wpAny_bind (wpAny_rule ?_)
    exact stop_cmb hh fun e h' se k => hQ e h' se fun b o hb q => k b o hb q
  · show wpAny _ _ (Builtin.Itertools.itPoolItems (.ref pool) >>= _) _ _ s
    refine wpAny_bind ?_
    show wpAny _ _ (seqItems? (.ref pool) >>= _) _ _ s
    refine wpAny_bind (wpAny_seqItems hp rfl (wpAny_pure ?_))
    have hsz : us.toArray.size = us.length := by simp
    rw [← hsz] at hn
    show wpAny _ _ (match nextC us.toArray.size idx with | some next => _ | none => _) _ _ s
    rw [hn]
    show wpAny _ _ (setField (.ref it) 1 (rawInt 2) >>= _) _ _ s
    refine wpAny_bind (wpAny_setField hit rfl (by simp) ?_)
    exact stop_cmb hh fun e h' se k => hQ e h' se fun b o hb q => k b o hb ((Heap.get?_update_other _ _ (Ne.symm hb)).trans q)
end
end CpComb

set_option maxHeartbeats 2000000
/-! itertools.combinations, walked -/
namespace CpComb
open PySem PySem.Spec PyProof.Rows L2
def seqC (n k : Nat) : Nat → Option (List Nat)
  | 0 => if k ≤ n then some (List.range k) else none
  | i + 1 => (seqC n k i).bind (nextC n)
theorem nextC_len {n : Nat} {a b : List Nat} (h : nextC n a = some b) : b.length = a.length := by
  unfold nextC at h
  simp only at h
  split at h
  · cases h
  · rename_i i e
    cases h
    have hm := List.mem_of_find?_eq_some e
    have hi : i < a.length := by simpa using hm
    simp
    omega
theorem seqC_len {n k : Nat} : ∀ {i : Nat} {a : List Nat}, seqC n k i = some a → a.length = k
  | 0, a, h => by
    unfold seqC at h
    split at h
    · cases h; simp
    · cases h
  | i + 1, a, h => by
    unfold seqC at h
    cases e : seqC n k i with
    | none => rw [e] at h; cases h
    | some b => rw [e] at h; rw [nextC_len (show nextC n b = some a from h), seqC_len e]
theorem seqC_none {n k : Nat} {i : Nat} (h : seqC n k i = none) : ∀ j, i ≤ j → seqC n k j = none
  | 0, hj => by
    have : i = 0 := by omega
    rw [← this]; exact h
  | j + 1, hj => by
    by_cases e : i = j + 1
    · rw [← e]; exact h
    · unfold seqC; rw [seqC_none h j (by omega)]; rfl
def ItC (xs : List V) (k : Nat) : It :=
  ⟨fun i _ => (seqC xs.length k i).isSome = true, fun i H v H' => ∃ T idx, seqC xs.length k i = some idx ∧ v = .ref T ∧ H T = none ∧ H' = upd H T (.tup (idx.map fun j => xs.getD j .non)), fun i _ => seqC xs.length k i = none⟩
theorem vals_getD {xs : List V} {us : List Value} (r : Vals xs us) (j : Nat) : RelV (xs.getD j .non) (us.toArray.getD j .none) := by
  rw [List.getD_eq_getElem?_getD]
  cases e : xs[j]? with
  | none =>
    have e' := r.none_of e
    have : us.toArray.getD j .none = .none := by
      rw [Array.getD_eq_getD_getElem?]; simp [e']
    rw [this]; rfl
  | some x =>
    obtain ⟨u, e', ru⟩ := r.get e
    have : us.toArray.getD j .none = u := by
      rw [Array.getD_eq_getD_getElem?]; simp [e']
    rw [this]; exact ru
theorem vals_map {xs : List V} {us : List Value} (r : Vals xs us) : ∀ idx : List Nat, Vals (idx.map fun j => xs.getD j .non) (idx.map fun j => us.toArray.getD j .none)
  | [] => .nil
  | j :: idx => .cons (vals_getD r j) (vals_map r idx)
theorem turn_cmb {P : Program} {w : World} {K : PySem.W.Frag} {tg : Expr} {xs : List V} {us : List Value} {k : Nat} {pool it : Addr} (hne : pool ≠ it) (hk : k ≤ 1000) (rv : Vals xs us) :
    Turn P w K tg (ItC xs k) [it, pool] it (fun i h => h.get? pool = some { cls := .type "tuple", data := .seq us.toArray } ∧ (match i with
      | 0 => ∃ cur, IsCmb h it pool (if k > us.length then 2 else 0) cur (List.range k)
      | i + 1 => ∃ idx cur, seqC us.length k i = some idx ∧ IsCmb h it pool 1 cur idx)) where
  mem := by simp
  obj := fun i h st c hc => by
    obtain ⟨hp, hs⟩ := st
    have e' : c = it ∨ c = pool := by simpa using hc
    rcases e' with q | q
    · rw [q]
      cases i with
      | zero => obtain ⟨cur, e⟩ := hs; exact ⟨_, e, fun v q => nomatch q⟩
      | succ i => obtain ⟨idx, cur, _, e⟩ := hs; exact ⟨_, e, fun v q => nomatch q⟩
    · rw [q]; exact ⟨_, hp, fun v q => nomatch q⟩
  keep := fun i h h' st kk => by
    obtain ⟨hp, hs⟩ := st
    refine ⟨kk pool (by simp) _ hp, ?_⟩
    cases i with
    | zero => obtain ⟨cur, e⟩ := hs; exact ⟨cur, kk it (by simp) _ e⟩
    | succ i => obtain ⟨idx, cur, e0, e⟩ := hs; exact ⟨idx, cur, e0, kk it (by simp) _ e⟩
  item := by
    intro X hP hw hK hc i pins s σ H E I hf st hg
    subst hP hw hK
    obtain ⟨hp, hs⟩ := st
    have hl := rv.length
    have main : ∀ idx : List Nat, seqC us.length k i = some idx → ∀ (E : Value → Shared → Prop) (Q : Option Value → Shared → Prop),
        (∀ h', IsCmb h' it pool 1 (.ref s.heap.objs.size) idx → h'.get? s.heap.objs.size = some { cls := .type "tuple", data := .seq (idx.map fun i => us.toArray.getD i .none).toArray } → (∀ b o, b ≠ it → s.heap.get? b = some o → h'.get? b = some o) → Q (some (.ref s.heap.objs.size)) { s with heap := h' }) →
        wpAny (model X.prog X.w) X.A (callSpecial? (.ref it) "__next__") Q E s := by
      intro idx he E Q hQ
      have hil := seqC_len he
      cases i with
      | zero =>
        obtain ⟨cur, e⟩ := hs
        unfold seqC at he
        split at he
        · rename_i hkn
          cases he
          rw [if_neg (by omega)] at e
          exact cmb_first hne e hp (by omega) hQ
        · cases he
      | succ i =>
        obtain ⟨idx0, cur, e0, e⟩ := hs
        unfold seqC at he
        rw [e0] at he
        exact cmb_next hne e hp he (by omega) hQ
    have hg' : (seqC xs.length k i).isSome = true := hg
    cases he : seqC us.length k i with
    | none => rw [hl, he] at hg'; cases hg'
    | some idx =>
      unfold pyNext
      refine wpAny_bind (wpAny_attempt (main idx he _ _ fun h' hit hT hkp => ?_))
      have new : ObjOk X.prog X.w (upd H s.heap.objs.size (.tup (idx.map fun j => xs.getD j .non))) h' s.heap.objs.size (.tup (idx.map fun j => xs.getD j .non)) := by
        refine ⟨?_, _, vals_map rv idx, ⟨_, hT, rfl, _, rfl⟩⟩
        rw [List.length_map, seqC_len he, sizeLine_eq]; omega
      have I1 : Inv X pins σ (upd H s.heap.objs.size (.tup (idx.map fun j => xs.getD j .non))) { s with heap := h' } :=
        I.turnedNew (t' := s.toks) (ch := [it, pool]) (fun c o hb q => hkp c o (fun q' => hb (by simp [q'])) q) hf (Nat.le_refl _) new
      refine wpAny_pure ⟨_, rfl, ?_⟩
      have ho : h'.get? it = some _ := hit
      refine go_of (s := { s with heap := h' }) ho rfl rfl (by decide) ⟨.ref s.heap.objs.size, _, I1, rfl, ⟨_, idx, by rw [hl]; exact he, rfl, I.hok.fresh (Nat.le_refl _), rfl⟩, ⟨hkp _ _ hne hp, idx, _, he, hit⟩, fun c hcm => ?_⟩
      have hlt : c < s.heap.objs.size := by
        have e' : c = it ∨ c = pool := by simpa using hcm
        rcases e' with q | q
        · rw [q]
          cases i with
          | zero => obtain ⟨cur, e⟩ := hs; exact Heap.lt_size e
          | succ i => obtain ⟨idx, cur, _, e⟩ := hs; exact Heap.lt_size e
        · rw [q]; exact Heap.lt_size hp
      rw [upd_ne (Nat.ne_of_lt hlt)]
      exact (hf c hcm).1
  done := by
    intro X hP hw hK hc i pins s σ H E I hf st hg
    subst hP hw hK
    obtain ⟨hp, hs⟩ := st
    have hl := rv.length
    have hg' : seqC us.length k i = none := by rw [← hl]; exact hg
    unfold pyNext
    have fin : ∀ e h', CpRep.StopE e h' → (∀ b o, b ≠ it → s.heap.get? b = some o → h'.get? b = some o) →
        wpAny (model X.prog X.w) X.A (do if ← isInstance e (.type "StopIteration") then pure none else throw e : Sem (Option Value)) (fun r s1 => r = none ∧ Inv X pins σ H s1) E { s with heap := h' } := by
      intro e h' ⟨a, o, vs, he, ho, hcl, _, _⟩ hk'
      subst he
      refine wpAny_bind (wpAny_isInstance (T := "StopIteration") (b := true) ⟨o, ho, hcl⟩ isSubtype_stop ?_)
      refine wpAny_pure ⟨rfl, I.turnedL (t' := s.toks) (ch := [it, pool]) (fun c o hb q => hk' c o (fun q' => hb (by simp [q'])) q) hf⟩
    refine wpAny_bind (wpAny_attempt ?_)
    cases i with
    | zero =>
      obtain ⟨cur, e⟩ := hs
      have hkn : ¬ k ≤ us.length := by
        intro z
        unfold seqC at hg'
        rw [if_pos z] at hg'; cases hg'
      rw [if_pos (by omega)] at e
      exact cmb_end (I.ok.hd hc) hne e hp (.inl rfl) fin
    | succ i =>
      obtain ⟨idx, cur, e0, e⟩ := hs
      unfold seqC at hg'
      rw [e0] at hg'
      exact cmb_end (I.ok.hd hc) hne e hp (.inr ⟨rfl, hg'⟩) fin
  self := fun A i s Q E st h => by
    obtain ⟨hp, hs⟩ := st
    cases i with
    | zero => obtain ⟨cur, e⟩ := hs; exact iter_cmb e h
    | succ i => obtain ⟨idx, cur, _, e⟩ := hs; exact iter_cmb e h
end CpComb

set_option maxHeartbeats 2000000
namespace L2
open PySem PySem.Spec PyProof.Rows
theorem cr_range1 {X : Cx} : CallR X (.type "range") (fun vs H Q => ∃ i, vs = [V.int i] ∧ ∀ p, H p = none → Q (.ref p) (upd H p (.rng 0 i))) := by
  intro pins s σ H vs us Q I r h
  obtain ⟨i, rfl, q⟩ := h
  obtain ⟨u, rfl, ru⟩ := r.one
  obtain ⟨t, rfl⟩ := ru
  exact call_range_1 ⟨.ref s.heap.objs.size, upd H s.heap.objs.size (.rng 0 i), I.laid (t' := s.toks + 2) (fun b o e => Heap.get?_push_of_some _ e) (Nat.le_refl _) ⟨_, _, _, Heap.get?_push_size _ rfl⟩, rfl, q _ (I.hok.fresh (Nat.le_refl _))⟩
end L2
namespace CpComb
open PySem PySem.Spec PyProof.Rows L2
/-- where the items come from -/
def Src (K : PySem.W.Frag) (H : Hp) (v : V) (xs : List V) : Prop :=
  (∃ r lo hi, v = .ref r ∧ H r = some (.rng lo hi) ∧ RgOk lo hi ∧ xs = rgV lo hi) ∨ ∃ a, v = .ref a ∧ (SqL K H a xs ∨ SqT K H a xs)
theorem pi_cmb {X : Cx} {tg a b : Expr} {t : TA} {x : Str} {p pos : Pos} (hc : X.calm = true) (hg : Gl X x) (hm : X.mg x = some (.type "itertools.combinations")) (ha : PA X [a, b] t)
    (hdb : (x == ("__debug__" : Str)) = false := by decide) (hs : starEach [a, b] X.env = (false, eval a X.env) :: starEach [b] X.env := by rfl) (hpl : (backTo pos (starEach [b] X.env)).any (·.1) = false := by rfl) :
    PI X tg (.Call (.Name x p) [a, b] [] pos) (fun σ H R => t σ H fun vs H1 => ∃ pv xs k, vs = [pv, .int ((k : Nat) : Int)] ∧ k ≤ 1000 ∧ xs.length ≤ 100000 ∧ Src X.K H1 pv xs ∧ R (ItC xs k) H1) := by
  refine ⟨fun pins s σ H R I h => ?_⟩
  refine wpAny_Call_Name_kw (ld_glob I hg hm ?_ hdb)
  refine PyProof.Rows.callWith_type1 (thn (ha.run pos pins s σ H _ I h) fun us s1 ⟨vs, H1, I1, r1, q1⟩ => ?_) hs hpl
  obtain ⟨pv, xs, k, rfl, hk, hxl, src, q⟩ := q1
  cases r1 with
  | cons rp rr =>
    cases rr with
    | cons rk rr =>
      cases rr
      obtain ⟨tk, rfl⟩ := rk
      have fin : ∀ (v : Value), Coll X.prog X.w X.xe v (fun s' us => Vals xs us) s1 → wpAny (model X.prog X.w) X.A (call (.type "itertools.combinations") [v, .int (k : Int) tk]) (fun v s1 => wpAny (model X.prog X.w) X.A (pyIter v) (PIE X pins σ tg R) X.xe s1) X.xe s1 := by
        intro v hcol
        refine call_cmb (I1.ok.hd hc) hk hcol (fun s' us r => by rw [← r.length]; exact hxl) fun h1 h' pool it tk' us k1 rv k2 hp hi hne hpool hit => ?_
        refine iter_cmb hit ?_
        have I2 : Inv X pins σ H1 { s1 with heap := h1, toks := tk' } := I1.kept (t' := tk') k1
        have I3 : Inv X pins σ H1 { s1 with heap := h', toks := tk' } := I2.kept (t' := tk') k2
        refine ⟨it, [it, pool], _, ItC xs k, H1, rfl, I3, turn_cmb hne hk rv, ⟨hpool, _, hit⟩, fun c hc' => ?_, q⟩
        have e' : c = it ∨ c = pool := by simpa using hc'
        rcases e' with z | z
        · rw [z]; exact I2.fpOk hi (I2.hok.fresh hi)
        · rw [z]; exact I2.fpOk hp (I2.hok.fresh hp)
      rcases src with ⟨r, lo, hi, rfl, hr, ok, rfl⟩ | ⟨a, rfl, hq⟩
      · cases rp
        obtain ⟨t1, t2, t3, hr'⟩ := I1.hok _ _ hr
        obtain ⟨b1, b2, b3, b4, b5⟩ := ok
        refine fin _ fun A Q hh hQ => ?_
        exact collect_range hh hr' (small_one b1 b2 b3 b4) (rangeSize_nat lo hi) b5 fun h' tk acc hk' hi' => hQ h' tk acc.toList hk' (vals_rg hi')
      · cases rp
        rcases hq with hq | hq
        · obtain ⟨its, rv, pl, hz⟩ := I1.list hq
          obtain ⟨o, ho, hcl, n, hd⟩ := pl.isList
          refine fin _ fun A Q hh hQ => ?_
          refine wpAny_collect_seq a (.inl rfl) ho hcl hd (fun h' hk' => ?_) (by rw [List.size_toArray, ← rv.length]; exact hz)
          have := hQ h' s1.toks its hk' rv
          rw [List.toList_toArray]; exact this
        · obtain ⟨its, rv, pl, hz⟩ := I1.tuple hq
          obtain ⟨o, ho, hcl, n, hd⟩ := pl
          refine fin _ fun A Q hh hQ => ?_
          refine wpAny_collect_seq a (.inr rfl) ho hcl hd (fun h' hk' => ?_) (by rw [List.size_toArray, ← rv.length]; exact hz)
          have := hQ h' s1.toks its hk' rv
          rw [List.toList_toArray]; exact this
end CpComb

set_option maxHeartbeats 2000000
namespace EnumT
open PySem PySem.Spec PyProof.Rows L2
theorem meets_enum_T (l : Addr) (items : Array Value) :
    Meets (Builtin.«enumerate.__new__» ⟨[.type "enumerate", .ref l], []⟩) (fun _ R s => s.heap.IsTuple l items ∧
      R (.ok (.ret (.ref (s.heap.push { cls := .type "tuple_iterator", data := .fields #[.ref l, .int 0 0] }).objs.size)))
        { s with heap := (s.heap.push { cls := .type "tuple_iterator", data := .fields #[.ref l, .int 0 0] }).push { cls := .type "enumerate", data := .fields #[.none, .bool false, .ref s.heap.objs.size, rawInt 0, .none, .none] } }) :=
  .of_wp fun prog w A R s h => by
    obtain ⟨hp, g, d, tk, os⟩ := s; obtain ⟨hl, h⟩ := h
    have hsub := sub_enumerate
    have hL : Heap.IsTuple (Shared.heap ⟨hp, g, d, tk, os⟩) l items := hl
    wp_walk
    refine wpAny_stack_any fun st => wpAny_pure ?_
    split
    · rename_i c _ _ _ _ _
      cases (c == Value.type "enumerate")
      · wp_walk using wpAny_pyIter_tuple hL
        exact ⟨_, rfl, h⟩
      · wp_walk using wpAny_pyIter_tuple hL
        exact ⟨_, rfl, h⟩
    · wp_walk using wpAny_pyIter_tuple hL
      exact ⟨_, rfl, h⟩
section
variable {prog : Program} {w : World} {A : Around} {E : Value → Shared → Prop} {s : Shared}
theorem call_enumT {l : Addr} {items : Array Value} {Q : Value → Shared → Prop} (hL : s.heap.IsTuple l items)
    (h : ∀ h', IsEnum h' (s.heap.objs.size + 1) s.heap.objs.size 0 .none → h'.IsTupleIter s.heap.objs.size l 0 → h'.objs.size = s.heap.objs.size + 2 →
      (∀ b o, s.heap.get? b = some o → h'.get? b = some o) → Q (.ref (s.heap.objs.size + 1)) { s with heap := h' }) :
    wpAny (model prog w) A (call (.type "enumerate") [.ref l]) Q E s := by
  refine callType_new F.called_enumerate (by decide) (F.typeCall_enumerate_1 _) (F.newCall_enumerate_1 _) (fun obj => F.args_object_init_2 obj _) F.entry_enumerate_new
    (meets_enum_T l items) ⟨hL, ?_⟩
  have hz : (s.heap.push { cls := .type "tuple_iterator", data := .fields #[.ref l, .int 0 0] }).objs.size = s.heap.objs.size + 1 := Heap.size_push ..
  show _ ∧ _
  rw [hz]
  have he : IsEnum ((s.heap.push { cls := .type "tuple_iterator", data := .fields #[.ref l, .int 0 0] }).push
      { cls := .type "enumerate", data := .fields #[.none, .bool false, .ref s.heap.objs.size, rawInt 0, .none, .none] }) (s.heap.objs.size + 1) s.heap.objs.size 0 .none := by
    have := Heap.get?_push_size (s.heap.push { cls := .type "tuple_iterator", data := .fields #[.ref l, .int 0 0] })
      (o := { cls := .type "enumerate", data := .fields #[.none, .bool false, .ref s.heap.objs.size, rawInt 0, .none, .none] }) rfl
    rw [hz] at this; exact this
  refine ⟨⟨_, he, rfl⟩, h _ he ⟨_, Heap.get?_push_of_some _ (Heap.get?_push_size _ rfl), rfl, rfl⟩ (by rw [Heap.size_push, hz]) fun b o x => Heap.get?_push_of_some _ (Heap.get?_push_of_some _ x)⟩
end
def IteT (K : PySem.W.Frag) (a : Addr) : It :=
  ⟨fun i H => ∃ (xs : List V) (x : V), SqT K H a xs ∧ xs[i]? = some x, fun i H v H' => ∃ T x, v = .ref T ∧ H T = none ∧ H' = upd H T (.tup [.int (i : Nat), x]) ∧ ∀ xs, SqT K H a xs → xs[i]? = some x, fun i H => ∃ xs : List V, SqT K H a xs ∧ xs.length ≤ i⟩
theorem turn_enumT {P : Program} {w : World} {K : PySem.W.Frag} {elts : List Expr} {kk : Nat} {tpos : Pos} (a e it : Addr) (hea : a ≠ e) (hia : a ≠ it) :
    Turn P w K (.Tuple elts kk tpos) (IteT K a) [e, it] e (fun i h => (∃ old, IsEnum h e it ((i : Nat) : Int) old) ∧ h.IsTupleIter it a i ∧ e ≠ it) where
  mem := by simp
  obj := fun i h st b hb => by
    obtain ⟨⟨old, he⟩, ⟨o, ho, hc, hd⟩, _⟩ := st
    have e' : b = e ∨ b = it := by simpa using hb
    rcases e' with z | z
    · rw [z]; exact ⟨_, he, fun v q => nomatch q⟩
    · rw [z]; exact ⟨o, ho, fun v q => by rw [hd] at q; cases q⟩
  keep := fun i h h' st k => let ⟨⟨old, he⟩, hi, hne⟩ := st; ⟨⟨old, k e (by simp) _ he⟩, hi.at fun o q => k it (by simp) o q, hne⟩
  item := by
    intro X hP hw hK hc i pins s σ H E I hf st hg
    subst hP hw hK
    obtain ⟨⟨old, he⟩, hit, hne⟩ := st
    obtain ⟨xs, x, hq, hx⟩ := hg
    obtain ⟨its, rv, p, hz⟩ := I.tuple hq
    obtain ⟨u, hu, ru⟩ := rv.get hx
    have hel : e < s.heap.objs.size := Heap.lt_size he
    have hil : it < s.heap.objs.size := by obtain ⟨_, q, _⟩ := hit; exact Heap.lt_size q
    have hlt : i < its.toArray.size := by
      have := (List.getElem?_eq_some_iff.mp hu).1
      simpa using this
    refine wpAny_pyNext_enum_itemD (Draws.tuple (A := X.A.in1) (I.ok.hd hc) it a hia its.toArray) he ⟨hit, p⟩ hlt hne (by simp [hne, hea.symm]) fun y h' tk hy ho hst hT hsz hk => ?_
    have hy : u = y := by
      have : its.toArray[i]? = some u := by simpa using hu
      rw [this] at hy; exact Option.some.inj hy
    subst hy
    refine ⟨_, rfl, wpAny_letOwnedTupleGo_enum (s := { s with heap := h', toks := tk + 1 }) ho fun h'' he' sb => ?_⟩
    have hT2 : h''.get? s.heap.objs.size = some { cls := .type "tuple", data := .seq #[.int i tk, u] } := (sb.2 _ (Nat.ne_of_gt hel)).trans hT
    have new : ObjOk X.prog X.w (upd H s.heap.objs.size (.tup [.int (i : Nat), x])) h'' s.heap.objs.size (.tup [.int (i : Nat), x]) :=
      ⟨by show 2 ≤ sizeLine; decide, [.int i tk, u], .cons ⟨_, rfl⟩ (.cons ru .nil), ⟨_, hT2, rfl, _, rfl⟩⟩
    have I1 : Inv X pins σ (upd H s.heap.objs.size (.tup [.int (i : Nat), x])) { s with heap := h'', toks := tk + 1 } :=
      I.turnedNew (ch := [e, it]) (fun b ob hb q => (sb.2 b (fun z => hb (by simp [z]))).trans (hk b ob (fun z => hb (by simp [z])) (fun z => hb (by simp [z])) q)) hf (Nat.le_refl _) new
    refine ⟨.ref s.heap.objs.size, _, I1, rfl, ⟨_, x, rfl, I.hok.fresh (Nat.le_refl _), rfl, fun ys hy => by rw [I.tuple_inj hy hq]; exact hx⟩, ⟨⟨u, ?_⟩, hst.1.at fun o q => (sb.2 it (Ne.symm hne)).trans q, hne⟩, fun b hb => ?_⟩
    · have e1 : ((i + 1 : Nat) : Int) = (i : Int) + 1 := by omega
      rw [e1]; exact he'
    · have hb' : b < s.heap.objs.size := by
        have e' : b = e ∨ b = it := by simpa using hb
        rcases e' with z | z
        · rw [z]; exact hel
        · rw [z]; exact hil
      rw [upd_ne (Nat.ne_of_lt hb')]
      exact (hf b hb).1
  done := by
    intro X hP hw hK hc i pins s σ H E I hf st hg
    subst hP hw hK
    obtain ⟨⟨old, he⟩, hit, hne⟩ := st
    obtain ⟨xs, hq, hx⟩ := hg
    obtain ⟨its, rv, p, hz⟩ := I.tuple hq
    have hl := rv.length
    have hi : its.toArray[i]? = none := Array.getElem?_eq_none (by rw [List.size_toArray, ← hl]; exact hx)
    have hT : s.TypeIs (.ref e) "enumerate" := ⟨_, he, rfl⟩
    unfold pyNext
    refine wpAny_bind (wpAny_attempt (wpAny_callSpecial?_slot (name := Str.ofString "__next__") hT F.slot_enumerate_next
      (wpAny_call_entry F.slot_enumerate_next hT F.entry_enumerate_next ?_ (F.args_enumerate_next_1 _))))
    show wpAny _ _ (field (.ref e) 2 >>= _) _ _ _
    refine wpAny_bind (wpAny_field he rfl (x := .ref it) rfl ?_)
    refine wpAny_bind (wpAny_nextOf_tuple_end (A := X.A.in1) (I.ok.hd hc) hit (show s.heap.IsTuple a its.toArray from p) hi fun h' x eb hx' => ?_)
    obtain ⟨o, ho, hcl⟩ := hx'
    refine wpAny_bind (wpAny_isInstance (T := "StopIteration") (b := true) ⟨o, ho, hcl⟩ isSubtype_stop ?_)
    exact wpAny_pure ⟨rfl, I.turnedL (t' := s.toks) (ch := [e, it]) (fun b o hb q => eb b o (fun z => hb (by simp [z])) q) hf⟩
  self := fun A i s Q E st h => let ⟨⟨_, he⟩, _⟩ := st; wpAny_pyIter_enum he h
def iEnumA (K : PySem.W.Frag) (ta : TA) : TI := fun σ H R => ta σ H fun vs H1 => ∃ a xs, vs = [.ref a] ∧ ((SqL K H1 a xs ∧ R (Ite K a) H1) ∨ (SqT K H1 a xs ∧ R (IteT K a) H1))
theorem pi_enumA {X : Cx} {e : Expr} {ta : TA} {p pos tpos : Pos} {elts : List Expr} {kk : Nat} (hg : Gl X "enumerate") (hm : X.mg "enumerate" = none) (ha : PA X [e] ta) (hs : starEach [e] X.env = [(false, eval e X.env)] := by rfl) :
    PI X (.Tuple elts kk tpos) (.Call (.Name "enumerate" p) [e] [] pos) (iEnumA X.K ta) := by
  refine ⟨fun pins s σ H R I h => ?_⟩
  refine Call_ (ld_blt I hg hm boot_enumerate (PyProof.Rows.callWith_type1 (thn (ha.run pos pins s σ H _ I h) fun us s1 ⟨vs, H1, I1, r1, q1⟩ => ?_) hs rfl))
  obtain ⟨a, xs, ex, q⟩ := q1
  subst ex
  cases r1 with
  | cons r rr =>
    cases rr
    cases r
    have fresh : ∀ b ∈ [s1.heap.objs.size + 1, s1.heap.objs.size], FpOk X pins H1 b := fun b hb => by
      have e' : b = s1.heap.objs.size + 1 ∨ b = s1.heap.objs.size := by simpa using hb
      have hle : s1.heap.objs.size ≤ b := by
        rcases e' with z | z
        · rw [z]; exact Nat.le_add_right _ _
        · rw [z]; exact Nat.le_refl _
      exact I1.fpOk hle (I1.hok.fresh hle)
    rcases q with ⟨hq, q⟩ | ⟨hq, q⟩
    · obtain ⟨its, rv, p', hz⟩ := I1.list hq
      refine call_enumerate_list p'.isList fun h' he hit hsz hk => wpAny_pyIter_enum he ?_
      have I2 : Inv X pins σ H1 { s1 with heap := h' } := I1.kept (t' := s1.toks) hk
      exact ⟨s1.heap.objs.size + 1, [s1.heap.objs.size + 1, s1.heap.objs.size], _, _, H1, rfl, I2, turn_enum a (s1.heap.objs.size + 1) s1.heap.objs.size, ⟨⟨.none, he⟩, hit, Nat.succ_ne_self _⟩, fresh, q⟩
    · obtain ⟨its, rv, p', hz⟩ := I1.tuple hq
      obtain ⟨o, ho, _⟩ := id p'
      have hlt : a < s1.heap.objs.size := Heap.lt_size ho
      refine call_enumT (show s1.heap.IsTuple a its.toArray from p') fun h' he hit hsz hk => wpAny_pyIter_enum he ?_
      have I2 : Inv X pins σ H1 { s1 with heap := h' } := I1.kept (t' := s1.toks) hk
      exact ⟨s1.heap.objs.size + 1, [s1.heap.objs.size + 1, s1.heap.objs.size], _, _, H1, rfl, I2, turn_enumT a (s1.heap.objs.size + 1) s1.heap.objs.size (Nat.ne_of_lt (Nat.lt_succ_of_lt hlt)) (Nat.ne_of_lt hlt), ⟨⟨.none, he⟩, hit, Nat.succ_ne_self _⟩, fresh, q⟩
end EnumT

set_option maxHeartbeats 2000000
namespace PySem.W
open PySem PySem.SeqAt PyProof.Rows
section
variable {prog : Program} {w : World} {A : Around} {E : Value → Shared → Prop} {s : Shared}
/-- min of a list of alike data, with its place -/
theorem min_list_ix {l : Addr} {vs : Array Value} {x : PyData} {xs : List PyData} {as : List Addr} {Q : Value → Shared → Prop} (hh : A.handled = none) (hl : s.heap.IsList l vs) (hr : ReadsAll s.heap vs.toList (x :: xs) as) (ha : AlikeAll (x :: xs)) (hu : A.units + 1 + PyData.depthAll (x :: xs) < cLine)
    (h : ∀ v h' tk, vs[argBest (fun i j => dataLt ((x :: xs).getD i .none) ((x :: xs).getD j .none)) xs.length]? = some v → (∀ b o, s.heap.get? b = some o → h'.get? b = some o) → Q v { s with heap := h', toks := tk }) :
    wpAny (model prog w) A (call (.builtin "min") [.ref l]) Q E s := by
  have hn : vs.size = xs.length + 1 := readsAll_len hr
  refine call_min_walkH (iter_listW (A := A.in1) hh hl fun s₂ e W st hfp hw hk => ?_)
  refine ⟨_, _, _, _, _, _, _, s.heap, _, rfl, W, st, hfp, by omega, hw, hk, cmpIn_lt (A := A.in1) hr ha (by show A.units + 1 + _ < _; exact hu), fun v s' hP m => ?_⟩
  obtain ⟨h', tk, rfl, hk'⟩ := moved_old e rfl m
  have e1 : vs.size - 1 = xs.length := by omega
  rw [e1] at hP
  exact h v h' tk hP hk'
end
end PySem.W
namespace TL
open PySem PySem.Spec PyProof.Rows L2
/-! ### min of a list of data -/
def rMinLG (K : PySem.W.Frag) : List V → Hp → VK → Prop := fun xs H Q => ∃ a ys d ds, xs = [.ref a] ∧ SqL K H a ys ∧ DpAll K H ys (d :: ds) ∧ PySem.W.AlikeAll (d :: ds) ∧ PyData.depthAll (d :: ds) ≤ 60 ∧
  ∀ y, ys[PySem.argBest (fun i j => PySem.W.dataLt ((d :: ds).getD i .none) ((d :: ds).getD j .none)) ds.length]? = some y → Q y H
theorem DpAll.reads' {X : Cx} {pins : List (Addr × Obj)} {σ : L2.St} {H : Hp} {s : Shared} (I : Inv X pins σ H s) : ∀ {ds : List PyData} {vs : List V} {us : List Value}, DpAll X.K H vs ds → Vals vs us → ∃ as, ReadsAll s.heap us ds as
  | [], _, _, .nil, .nil => ⟨_, .nil⟩
  | _ :: _, _, _, .cons h hs, .cons r rs => by
    obtain ⟨as, ra⟩ := Dp.reads I _ _ _ h r
    obtain ⟨bs, rb⟩ := DpAll.reads' I hs rs
    exact ⟨_, .cons ra rb⟩
theorem call_minLG {X : Cx} (hc : X.calm = true) (hu : X.A.units + 64 < cLine) : CallR X (.builtin "min") (rMinLG X.K) := by
  intro pins s σ H xs us Q I r h
  obtain ⟨a, ys, d, ds, rfl, hq, hd, hal, hdep, q⟩ := h
  obtain ⟨u, rfl, ru⟩ := r.one
  cases ru
  obtain ⟨its, rv, p, hz⟩ := I.list hq
  obtain ⟨as, ra⟩ := DpAll.reads' I hd rv
  refine PySem.W.min_list_ix (I.ok.hd hc) p.isList (vs := its.toArray) (by simpa using ra) hal (by omega) fun v h' tk hv k => ?_
  have hv' : its[PySem.argBest (fun i j => PySem.W.dataLt ((d :: ds).getD i .none) ((d :: ds).getD j .none)) ds.length]? = some v := by simpa using hv
  have hl := rv.length
  have hi := (List.getElem?_eq_some_iff.mp hv').1
  have ey : ys[PySem.argBest (fun i j => PySem.W.dataLt ((d :: ds).getD i .none) ((d :: ds).getD j .none)) ds.length]? = some _ := List.getElem?_eq_getElem (by rw [hl]; exact hi)
  obtain ⟨v', ev', rv'⟩ := rv.get ey
  rw [hv'] at ev'; cases ev'
  exact ⟨_, H, I.kept k, rv', q _ ey⟩
/-- the first of the least -/
def minLG : D → Option D
  | .lst (d :: ds) => if (d :: ds).all (fun x => pyOk 40 x && loose x && !isNonD x) && (d :: ds).all (fun x => (d :: ds).all fun y => alikeD x y) then some (ds.foldl (fun a y => if ltD y a then y else a) d) else none
  | _ => none
theorem depthAll_le : ∀ (l : List D) (n : Nat), (∀ x ∈ l, (py x).depth ≤ n) → PyData.depthAll (l.map py) ≤ n
  | [], n, _ => by simp [PyData.depthAll]
  | x :: l, n, h => by
    have h1 := h x (by simp)
    have h2 := depthAll_le l n fun y hy => h y (by simp [hy])
    simp only [List.map_cons, PyData.depthAll]
    omega
theorem dpAll_of {K : PySem.W.Frag} {mg : Str → Option Value} {G H : Hp} (le : Le G H) : ∀ {ds : List D} {vs : List V}, (∀ x ∈ ds, pyOk 40 x = true) → Rfs K mg G ds vs → DpAll K H vs (ds.map py)
  | _, _, _, .nil => .nil
  | _, _, h, .cons r rs => .cons (dp_of le 40 (h _ (by simp)) r) (dpAll_of le (fun x hx => h x (by simp [hx])) rs)
theorem ca_minLG {X : Cx} : CaD X (rMinLG X.K) (f1 minLG) := ca1 fun S H d1 d v1 Q al r1 e q => by
  cases d1 with
  | lst l =>
    cases l with
    | nil => cases e
    | cons x xs =>
      obtain ⟨hc, e⟩ := ifSome' e
      rw [Bool.and_eq_true] at hc
      simp only [List.all_eq_true, Bool.and_eq_true, Bool.not_eq_true'] at hc
      obtain ⟨h1, h2⟩ := hc
      obtain ⟨a, vs, rfl, ha, rf⟩ := r1.lst_inv
      have dp := dpAll_of (K := X.K) (mg := X.mg) (hide_le S H) (fun y hy => (h1 y hy).1.1) rf
      rw [List.map_cons] at dp
      refine ⟨a, vs, py x, xs.map py, rfl, .of ha, dp, ⟨fun y hy z hz => ?_, fun y hy => ?_⟩, ?_, fun y hy => ?_⟩
      · rw [← List.map_cons] at hy hz
        obtain ⟨y', hy', rfl⟩ := List.mem_map.mp hy
        obtain ⟨z', hz', rfl⟩ := List.mem_map.mp hz
        exact h2 y' hy' z' hz'
      · rw [← List.map_cons] at hy
        obtain ⟨y', hy', rfl⟩ := List.mem_map.mp hy
        exact py_none (h1 y' hy').1.1 (h1 y' hy').2
      · rw [← List.map_cons]
        have := depthAll_le (x :: xs) 40 fun y hy => (pyOk_ok 40 y (h1 y hy).1.1).2
        omega
      · have eg : ∀ i, (py x :: xs.map py).getD i .none = py ((x :: xs).getD i .non) := fun i => by
          rw [← List.map_cons, List.getD_eq_getElem?_getD, List.getD_eq_getElem?_getD, List.getElem?_map]
          cases (x :: xs)[i]? <;> rfl
        have ef : (fun i j => PySem.W.dataLt ((py x :: xs.map py).getD i .none) ((py x :: xs.map py).getD j .none)) = fun i j => ltD ((x :: xs).getD i .non) ((x :: xs).getD j .non) := by
          funext i j
          rw [eg, eg]; rfl
        rw [ef, List.length_map] at hy
        obtain ⟨b1, b2⟩ := PySem.W.argBest_fold ltD D.non x xs xs.length (Nat.le_refl _)
        rw [List.take_length] at b2
        generalize PySem.argBest (fun i j => ltD ((x :: xs).getD i .non) ((x :: xs).getD j .non)) xs.length = n at *
        obtain ⟨dy, edy, rdy⟩ := rf.get' hy
        have e2 : (x :: xs).getD n .non = dy := by rw [List.getD_eq_getElem?_getD, edy]; rfl
        rw [e2] at b2
        rw [← e, ← b2]  at q
        exact q _ H (Grow.refl H) rdy
  | _ => cases e
/-! ### several names stored at once -/
def setAll : List Nat → List D → Rho → Rho
  | i :: is, d :: ds, ρ => setAll is ds (ρ.set i d)
  | _, _, ρ => ρ
def setAllT : List Nat → List Ty → List Ty → List Ty
  | i :: is, t :: ts, τ => setAllT is ts (τ.set i t)
  | _, _, τ => τ
def setAllS : List Nat → List V → L2.St → L2.St
  | i :: is, v :: vs, σ => setAllS is vs (σ.set i (some v))
  | _, _, σ => σ
theorem setAllT_len : ∀ (is : List Nat) (ts τ : List Ty), (setAllT is ts τ).length = τ.length
  | [], _, _ => by cases ‹List Ty› <;> rfl
  | i :: is, [], _ => rfl
  | i :: is, t :: ts, τ => by rw [setAllT, setAllT_len is]; simp
theorem SR.putAll {K : PySem.W.Frag} {mg : Str → Option Value} {R : List Addr} {H : Hp} : ∀ {is : List Nat} {ts τ : List Ty} {ds : List D} {vs : List V} {ρ : Rho} {σ : L2.St} {fs fv : List Addr}, SR K mg (fv ++ R) τ ρ σ H fs → Rps K mg H (hide (fv ++ R ++ fs) H) ts ds vs fv → (∀ i ∈ is, i < τ.length) → is.length = ds.length →
    ∃ fs', SR K mg R (setAllT is ts τ) (setAll is ds ρ) (setAllS is vs σ) H fs' ∧ ∀ a ∈ fs', a ∈ fv ++ fs
  | [], _, _, _, _, _, _, fs, _, s, .nil, _, _ => ⟨fs, s, fun a h => by simpa using h⟩
  | i :: is, _, _, _, _, _, _, _, _, s, .nil, _, hl => by simp at hl
  | [], _, _, _, _, _, _, _, _, s, .cons _ _, _, hl => by simp at hl
  | i :: is, _, τ, _, _, _, _, _, _, s, .cons (t := t) h r, hb, hl => by
    obtain ⟨fs1, fw, s1, r1, sub1⟩ := s.put2 (hb i (by simp)) (.cons h r)
    obtain ⟨fs2, s2, sub2⟩ := SR.putAll (is := is) s1 r1 (fun j hj => by rw [List.length_set]; exact hb j (by simp [hj])) (by simpa using hl)
    exact ⟨fs2, s2, fun a ha => sub1 a (sub2 a ha)⟩
theorem setAllS_ne {i : Nat} : ∀ {is : List Nat} {vs : List V} {σ : L2.St}, i ∉ is → (setAllS is vs σ)[i]? = σ[i]?
  | [], vs, σ, _ => by cases vs <;> rfl
  | j :: is, [], σ, _ => rfl
  | j :: is, v :: vs, σ, h => by
    rw [setAllS, setAllS_ne (fun z => h (by simp [z])), List.getElem?_set_ne (fun z => h (by simp [z]))]
def tNames (is : List Nat) : TGs := fun vs σ H Q => vs.length = is.length ∧ Q (setAllS is vs σ) H
section
variable {X : Cx} {γ : Gm} {τ : List Ty} {es : List Expr} {pos : Pos}
theorem pgn_nil : PGs X [] (tNames []) := ⟨fun pins s σ H vs us Q I r h => pgs_nil.run pins s σ H vs us Q I r (by
  obtain ⟨h1, h2⟩ := h
  cases vs with
  | nil => exact ⟨rfl, h2⟩
  | cons _ _ => simp at h1)⟩
theorem pgn_cons {x : Str} {px : Pos} {is : List Nat} (i : Nat) (hN : X.N.Nodup) (hi : X.N[i]? = some x) (hx : Loc X.env.scope x) (hr : PGs X es (tNames is)) (hf : X.fn x = true ∨ X.env.scope.names.lookup x = some .local := by first | exact .inl rfl | exact .inr rfl | assumption)
    (hs : (assignEach (.Name x px :: es) X.env).map (·.2) = assign (.Name x px) X.env :: (assignEach es X.env).map (·.2) := by rfl) : PGs X (.Name x px :: es) (tNames (i :: is)) :=
  ⟨fun pins s σ H vs us Q I r h => (pgs_cons (pg_name hN hi hx hf) hr hs).run pins s σ H vs us Q I r (by
    obtain ⟨h1, h2⟩ := h
    cases vs with
    | nil => simp at h1
    | cons v vs => exact ⟨v, vs, rfl, by simpa using h1, h2⟩)⟩
def sUnp (is : List Nat) (f : Lf) : Sf := fun ρ => (f ρ).bind fun p => if p.1.length == is.length && okLen p.1.length then some (.nx (setAll is p.1 p.2)) else none
theorem ds_unp {f : Lf} {ts : List Ty} {tgs : List Expr} {kt k2 : Nat} {pt p2 : Pos} (is : List Nat) (hc : X.calm = true) (ha : DL X es τ f ts) (hg : PGs X tgs (tNames is)) (hb : ∀ i ∈ is, i < τ.length := by decide) (hio : ∀ i ∈ is, i ∉ γ.io := by decide)
    (hn : (assignEach tgs X.env).length = is.length := by rfl) (hst : (assignEach tgs X.env).findIdx? (·.1) = none := by rfl)
    (hs : swapsWithSole [.Tuple tgs kt pt] (.Tuple es k2 p2) pos.line X.env = pure false := by rfl) (hw : swappedStores [.Tuple tgs kt pt] (.Tuple es k2 p2) X.env = pure none := by rfl)
    (h1 : (assignEach [.Tuple tgs kt pt] X.env).map (·.2) = [assign (.Tuple tgs kt pt) X.env] := by rfl) :
    DS X γ (.Assign [.Tuple tgs kt pt] (.Tuple es k2 p2) pos) τ (sUnp is f) (setAllT is ts τ) := ps_imp (ps_asg (pe_tup ha) (pg_tup hc hg hn hst) hs hw h1) fun D σ H ⟨R, ρ, fs, o, s, e, q⟩ => by
  obtain ⟨w, e1, e2⟩ := bindO e
  obtain ⟨e3, e4⟩ := ifSome' e2
  cases e4
  rw [Bool.and_eq_true] at e3
  have hl : w.1.length = is.length := eq_of_beq e3.1
  refine ⟨R, ρ, fs, w.1, w.2, s, e1, fun vs H1 fs1 fv t1 s1 r1 => ?_⟩
  have hvl := r1.len
  refine ⟨by rw [← hvl]; exact okLen_le e3.2, fun a ha => ?_⟩
  have g := Grow.upd (o := HO.tup vs) ha
  have s2 := s1.grow g
  have r2 : Rps X.K X.mg (upd H1 a (.tup vs)) (hide (fv ++ R ++ fs1) (upd H1 a (.tup vs))) ts w.1 vs fv := r1.mono (hide_grow _ g) fun b hb => by
    obtain ⟨o, eo, _⟩ := s1.own b (List.mem_append_left _ (List.mem_append_left _ hb))
    rw [eo]; exact g b o eo
  obtain ⟨fs3, s3, sub3⟩ := SR.putAll s2 r2 hb hl.symm
  refine ⟨a, vs, rfl, .of upd_same, by rw [← hvl, hl], by rw [← hvl, hl], ?_⟩
  refine q _ _ fs3 ((t1.trans (Step.grow g _)).less fun b hb => sub3 b hb) (fun j hj => setAllS_ne fun z => hio j z hj) s3
end
/-! ### list(range(..)) -/
section
variable {X : Cx} {τ : List Ty} {a b : Expr} {p pos p2 pos2 : Pos}
def oRg1 (f : Af) : Of := fun ρ => (f ρ).bind fun p => match p.1 with
  | [.v (.int j)] => if small62 j && okLen j.toNat then some (.lst (intsD 0 j.toNat), p.2) else none
  | _ => none
theorem rgV0 (j : Int) : rgV 0 j = (List.range j.toNat).map fun i => V.int (0 + (i : Nat)) := by
  unfold rgV
  rw [show j - 0 = j by omega]
theorem rfs_ints {K : PySem.W.Frag} {mg : Str → Option Value} {G : Hp} (lo : Int) (n : Nat) : Rfs K mg G (intsD lo n) ((List.range n).map fun i => V.int (lo + (i : Nat))) := by
  have h1 : intsD lo n = ((List.range n).map fun i : Nat => lo + (i : Int)).map D.int := by unfold intsD; rw [List.map_map]; rfl
  have h2 : ((List.range n).map fun i => V.int (lo + (i : Nat))) = ((List.range n).map fun i : Nat => lo + (i : Int)).map V.int := by rw [List.map_map]; rfl
  rw [h1, h2]
  exact Rfs.of_ints _
theorem prg_A {f : Af} (hg : Gl X "range") (hm : X.mg "range" = none) (ha : DA X [a] τ f) (na : starEach [a] X.env = (false, eval a X.env) :: starEach [] X.env := by rfl) :
    PRg X (.Call (.Name "range" p) [a] [] pos) (fun σ H Q => tA X τ f σ H fun vs H1 => ∃ n, vs = [.int n] ∧ Q 0 n H1) := by
  intro pins s σ H Q I h
  refine Call_ (ld_blt I hg hm boot_range (PyProof.Rows.callWith_type1 (thn (ha.run pos pins s σ H _ I h) fun us s2 ⟨vs, H2, I2, r, q⟩ => ?_) na rfl))
  obtain ⟨n, rfl, q⟩ := q
  obtain ⟨u, rfl, ru⟩ := r.one
  obtain ⟨t, rfl⟩ := ru
  exact call_range_1 ⟨_, 0, n, _, _, _, H2, rfl, IsRange.new _ _ _ _ _ _ _, I2.kept fun b u e => Heap.get?_push_of_some _ e, q⟩
theorem do_rg1 {f : Af} (hc : X.calm = true) (hgl : Gl X "list") (hml : X.mg "list" = none) (hg : Gl X "range") (hm : X.mg "range" = none) (ha : DA X [a] τ f) (na : starEach [a] X.env = (false, eval a X.env) :: starEach [] X.env := by rfl)
    (nb : starEach [.Call (.Name "range" p) [a] [] pos] X.env = (false, eval (.Call (.Name "range" p) [a] [] pos) X.env) :: starEach [] X.env := by rfl) :
    DO X (.Call (.Name "list" p2) [.Call (.Name "range" p) [a] [] pos] [] pos2) τ (oRg1 f) (.oL .sh) := pe_imp (pe_listRg hc hgl hml (prg_A hg hm ha na) nb) fun σ H Q ⟨R, ρ, fs, d, ρ', s, e, q⟩ => by
  obtain ⟨w, e1, e2⟩ := bindO e
  obtain ⟨w1, w2⟩ := w
  simp only at e2
  split at e2
  · rename_i j
    obtain ⟨e3, e4⟩ := ifSome' e2
    cases e4
    rw [Bool.and_eq_true] at e3
    refine ⟨R, ρ, fs, _, _, s, e1, fun vs H1 fs1 t1 s1 r1 => ?_⟩
    cases r1 with
    | cons r rs =>
      cases r
      cases rs
      have h62 := small62_of e3.1
      refine ⟨j, rfl, ⟨by omega, by omega, h62.1, h62.2, ?_⟩, fun a0 ha0 => ?_⟩
      · have := okLen_le e3.2
        rw [sizeLine_eq] at this
        rw [show j - 0 = j by omega]
        omega
      · rw [rgV0]
        obtain ⟨n1, n2, n3⟩ := s1.newL ha0 (rfs_ints (mg := X.mg) 0 j.toNat)
        exact q _ _ fs1 [a0] (t1.trans n3) n1 n2
  · cases e2
end
/-! ### enumerate -/
def enuD (l : List D) : List D := l.zipIdx.map fun p => .tup [.int (p.2 : Int), p.1]
def iEnu (f : Af) : Itf := fun ρ => (f ρ).bind fun p => match p.1 with
  | [.v (.lst l)] => some (enuD l, p.2)
  | [.v (.tup l)] => some (enuD l, p.2)
  | _ => none
theorem enu_get {l : List D} {i : Nat} {d : D} (e : (enuD l)[i]? = some d) : ∃ a, l[i]? = some a ∧ d = .tup [.int (i : Int), a] := by
  unfold enuD at e
  rw [List.getElem?_map, List.getElem?_zipIdx] at e
  cases h : l[i]? with
  | none => rw [h] at e; cases e
  | some a => rw [h] at e; simp at e; exact ⟨a, rfl, e.symm⟩
theorem walks_enuT {K : PySem.W.Frag} {mg : Str → Option Value} {G : Hp} {a : Addr} {vs : List V} {l : List D} (h : SqT K G a vs) (r : Rfs K mg G l vs) : Walks K mg (EnumT.IteT K a) (enuD l) G := by
  intro i S H al le
  have h1 : SqT K H a vs := (hide_le S H).seqT (le.seqT h)
  refine ⟨fun d e => ?_, fun e => ?_⟩
  · obtain ⟨x, e1, rfl⟩ := enu_get e
    obtain ⟨v, ev, rv⟩ := r.get e1
    refine ⟨⟨vs, v, h1, ev⟩, fun z H' ⟨T, v', ez, nT, eH, f1⟩ => ?_⟩
    subst ez; subst eH
    have a1 := f1 vs h1
    rw [ev] at a1; cases a1
    exact ⟨Grow.upd nT, new_tup al nT (.cons (.int _) (.one (rv.mono le)))⟩
  · refine ⟨vs, h1, ?_⟩
    have := r.length
    unfold enuD at e
    simp at e
    omega
theorem walks_enuL {K : PySem.W.Frag} {mg : Str → Option Value} {G : Hp} {a : Addr} {vs : List V} {l : List D} (h : G a = some (.lst vs)) (r : Rfs K mg G l vs) : Walks K mg (Ite K a) (enuD l) G := by
  intro i S H al le
  have h1 : SqL K H a vs := .of (hide_le _ _ _ _ (le _ _ h))
  refine ⟨fun d e => ?_, fun e => ?_⟩
  · obtain ⟨x, e1, rfl⟩ := enu_get e
    obtain ⟨v, ev, rv⟩ := r.get e1
    refine ⟨⟨vs, v, h1, ev⟩, fun z H' ⟨T, v', ez, nT, eH, f1⟩ => ?_⟩
    subst ez; subst eH
    have a1 := f1 vs h1
    rw [ev] at a1; cases a1
    exact ⟨Grow.upd nT, new_tup al nT (.cons (.int _) (.one (rv.mono le)))⟩
  · refine ⟨vs, h1, ?_⟩
    have := r.length
    unfold enuD at e
    simp at e
    omega
section
variable {X : Cx} {τ : List Ty} {e : Expr} {p pos tpos : Pos} {elts : List Expr} {kk : Nat}
theorem di_enum {f : Af} (hg : Gl X "enumerate") (hm : X.mg "enumerate" = none) (ha : DA X [e] τ f) (hs : starEach [e] X.env = [(false, eval e X.env)] := by rfl) :
    DI X (.Tuple elts kk tpos) (.Call (.Name "enumerate" p) [e] [] pos) τ (iEnu f) := pi_imp (EnumT.pi_enumA hg hm ha hs) fun σ H Q ⟨R, ρ, fs, ds, ρ', s, eq, q⟩ => by
  obtain ⟨w, e1, e2⟩ := bindO eq
  obtain ⟨w1, w2⟩ := w
  simp only at e2
  refine ⟨R, ρ, fs, _, _, s, e1, fun vs H' fs' t s' r => ?_⟩
  split at e2
  · cases e2
    cases r with
    | cons r1 rs =>
      cases rs
      cases r1 with
      | lst h1 q1 => exact ⟨_, _, rfl, .inl ⟨.of (hide_le _ _ _ _ h1), q _ H' fs' t s' (walks_enuL h1 q1)⟩⟩
  · cases e2
    cases r with
    | cons r1 rs =>
      cases rs
      cases r1 with
      | tup h1 q1 => exact ⟨_, _, rfl, .inr ⟨(hide_le _ _).seqT h1, q _ H' fs' t s' (walks_enuT h1 q1)⟩⟩
  · cases e2
end
end TL

set_option maxHeartbeats 2000000
namespace TL
open PySem PySem.Spec PyProof.Rows L2 CpComb
/-! ### combinations -/
def rowsF (n : Nat) : Nat → List Nat → Option (List (List Nat))
  | 0, _ => none
  | f + 1, idx => match nextC n idx with
    | none => some [idx]
    | some idx' => (rowsF n f idx').map (idx :: ·)
def rowsC (n k : Nat) : Option (List (List Nat)) := if k ≤ n then rowsF n 5000 (List.range k) else some []
theorem rowsF_seq {n k : Nat} : ∀ {f i : Nat} {idx : List Nat} {rows : List (List Nat)}, rowsF n f idx = some rows → seqC n k i = some idx → (∀ j r, rows[j]? = some r → seqC n k (i + j) = some r) ∧ seqC n k (i + rows.length) = none
  | 0, _, _, _, h, _ => by cases h
  | f + 1, i, idx, rows, h, hs => by
    unfold rowsF at h
    have hn : seqC n k (i + 1) = nextC n idx := by unfold seqC; rw [hs]; rfl
    split at h
    · rename_i e
      cases h
      refine ⟨fun j r hr => ?_, by rw [List.length_singleton, hn, e]⟩
      cases j with
      | zero => simp at hr; subst hr; exact hs
      | succ j => simp at hr
    · rename_i idx' e
      obtain ⟨rs, h1, h2⟩ := mapO h
      subst h2
      rw [e] at hn
      obtain ⟨a, b⟩ := rowsF_seq h1 hn
      refine ⟨fun j r hr => ?_, ?_⟩
      · cases j with
        | zero => simp at hr; subst hr; exact hs
        | succ j =>
          have := a j r (by simpa using hr)
          rwa [show i + 1 + j = i + (j + 1) by omega] at this
      · rwa [show i + 1 + rs.length = i + (idx :: rs).length by simp; omega] at b
theorem rowsC_seq {n k : Nat} {rows : List (List Nat)} (h : rowsC n k = some rows) : (∀ j r, rows[j]? = some r → seqC n k j = some r) ∧ ∀ j, rows.length ≤ j → seqC n k j = none := by
  unfold rowsC at h
  split at h
  · rename_i hk
    have h0 : seqC n k 0 = some (List.range k) := by unfold seqC; rw [if_pos hk]
    obtain ⟨a, b⟩ := rowsF_seq h h0
    refine ⟨fun j r hr => by simpa using a j r hr, fun j hj => seqC_none (by simpa using b) j hj⟩
  · rename_i hk
    cases h
    have h0 : seqC n k 0 = none := by unfold seqC; rw [if_neg hk]
    exact ⟨fun j r hr => by simp at hr, fun j _ => seqC_none h0 j (by omega)⟩
def cmbRow (ds : List D) (idx : List Nat) : D := .tup (idx.map fun j => ds.getD j .non)
def cmbD (ds : List D) (k : Int) : Option (List D) := if 0 ≤ k ∧ k ≤ 1000 ∧ okS ds.length = true then (rowsC ds.length k.toNat).map fun rows => rows.map (cmbRow ds) else none
theorem rf_getD {K : PySem.W.Frag} {mg : Str → Option Value} {G : Hp} {ds : List D} {xs : List V} (r : Rfs K mg G ds xs) (j : Nat) : Rf K mg G (ds.getD j .non) (xs.getD j .non) := by
  have hl := r.length
  rw [List.getD_eq_getElem?_getD, List.getD_eq_getElem?_getD]
  cases e : ds[j]? with
  | none =>
    have : xs[j]? = none := List.getElem?_eq_none (by have := List.getElem?_eq_none_iff.mp e; omega)
    rw [this]; exact .non
  | some d =>
    obtain ⟨v, ev, rv⟩ := r.get e
    rw [ev]; exact rv
theorem rfs_row {K : PySem.W.Frag} {mg : Str → Option Value} {G : Hp} {ds : List D} {xs : List V} (r : Rfs K mg G ds xs) : ∀ idx : List Nat, Rfs K mg G (idx.map fun j => ds.getD j .non) (idx.map fun j => xs.getD j .non)
  | [] => .nil
  | j :: idx => .cons (rf_getD r j) (rfs_row r idx)
theorem walks_cmb {K : PySem.W.Frag} {mg : Str → Option Value} {G : Hp} {ds out : List D} {xs : List V} {k : Int} (r : Rfs K mg G ds xs) (e : cmbD ds k = some out) : Walks K mg (ItC xs k.toNat) out G := by
  intro i S H al le
  unfold cmbD at e
  split at e
  · obtain ⟨rows, e1, e2⟩ := mapO e
    subst e2
    rw [r.length] at e1
    obtain ⟨a, b⟩ := rowsC_seq e1
    refine ⟨fun d ed => ?_, fun ed => b i (by simpa using ed)⟩
    rw [List.getElem?_map] at ed
    cases er : rows[i]? with
    | none => rw [er] at ed; cases ed
    | some row =>
      rw [er] at ed
      cases ed
      have hs := a i row er
      refine ⟨by show (seqC xs.length k.toNat i).isSome = true; rw [hs]; rfl, fun x H' ⟨T, idx, ei, ex, nT, eH⟩ => ?_⟩
      rw [hs] at ei
      cases ei
      subst ex
      subst eH
      exact ⟨Grow.upd nT, new_tup al nT ((rfs_row r row).mono le)⟩
  · cases e
section
variable {X : Cx} {τ : List Ty} {tg a b : Expr} {x : Str} {p pos p2 pos2 : Pos}
def iCmbR (f g : Ef) : Itf := fun ρ => (f ρ).bind fun p => (g p.2).bind fun q => match p.1, q.1 with
  | .v (.int n), .v (.int k) => if small62 n && okLen n.toNat then (cmbD (intsD 0 n.toNat) k).map fun out => (out, q.2) else none
  | _, _ => none
theorem di_cmbR {f g : Ef} (hc : X.calm = true) (hg : Gl X x) (hm : X.mg x = some (.type "itertools.combinations")) (hgr : Gl X "range") (hmr : X.mg "range" = none) (ha : DE X a τ f) (hb : DE X b τ g) (hdb : (x == ("__debug__" : Str)) = false := by decide)
    (na : starEach [a] X.env = (false, eval a X.env) :: starEach [] X.env := by rfl) (nb : starEach [b] X.env = (false, eval b X.env) :: starEach [] X.env := by rfl)
    (nr : starEach [.Call (.Name "range" p2) [a] [] pos2, b] X.env = (false, eval (.Call (.Name "range" p2) [a] [] pos2) X.env) :: starEach [b] X.env := by rfl)
    (hpl : (backTo pos (starEach [b] X.env)).any (·.1) = false := by rfl) :
    DI X tg (.Call (.Name x p) [.Call (.Name "range" p2) [a] [] pos2, b] [] pos) τ (iCmbR f g) :=
  pi_imp (pi_cmb hc hg hm (pa_cons (pe_callTy cr_range1 hgr hmr (by decide +kernel) (pa_cons ha pa_nil na) (by decide) (by decide) na) (pa_cons hb pa_nil nb) nr) hdb nr hpl) fun σ H Q ⟨R, ρ, fs, ds, ρ', s, eq, q⟩ => by
    obtain ⟨w, e1, e2⟩ := bindO eq
    obtain ⟨z, e3, e4⟩ := bindO e2
    obtain ⟨w1, w2⟩ := w
    obtain ⟨z1, z2⟩ := z
    simp only at e4 e3
    split at e4
    · rename_i n k
      by_cases hc1 : (small62 n && okLen n.toNat) = true
      · rw [if_pos hc1] at e4
        rw [Bool.and_eq_true] at hc1
        obtain ⟨out, e5, e6⟩ := mapO e4
        cases e6
        refine ⟨R, ρ, fs, _, _, s, e1, fun v1 H1 fs1 t1 s1 r1 => ?_⟩
        cases r1
        refine ⟨n, rfl, fun rp hrp => ?_⟩
        have g := Grow.upd (o := HO.rng 0 n) hrp
        have s2 := s1.grow g
        refine ⟨R, w2, fs1, _, _, s2, e3, fun v2 H2 fs2 t2 s3 r2 => ?_⟩
        cases r2
        have hr2 : H2 rp = some (.rng 0 n) := t2.ext rp _ (fun z => s1.fresh hrp (List.mem_append_right _ z)) upd_same
        have h62 := small62_of hc1.1
        have hk : 0 ≤ k ∧ k ≤ 1000 := by
          unfold cmbD at e5
          split at e5
          · rename_i hh; exact ⟨hh.1, hh.2.1⟩
          · cases e5
        have hz : okS (intsD 0 n.toNat).length = true := by
          unfold cmbD at e5
          split at e5
          · rename_i hh; exact hh.2.2
          · cases e5
        have hz' := okS_le hz
        rw [intsD_len] at hz'
        refine ⟨.ref rp, rgV 0 n, k.toNat, ?_, by omega, by rw [rgV_length]; omega, .inl ⟨rp, 0, n, rfl, hr2, ⟨by omega, by omega, h62.1, h62.2, by omega⟩, rfl⟩, ?_⟩
        · rw [show ((k.toNat : Nat) : Int) = k by omega]
        · refine q _ H2 fs2 (t1.trans ((Step.grow g _).trans t2)) s3 (walks_cmb ?_ e5)
          rw [rgV0]
          exact rfs_ints 0 n.toNat
      · rw [if_neg hc1] at e4; cases e4
    · cases e4
def iCmb (f : Af) : Itf := fun ρ => (f ρ).bind fun p => match p.1 with
  | [.v (.lst l), .v (.int k)] => (cmbD l k).map fun out => (out, p.2)
  | [.v (.tup l), .v (.int k)] => (cmbD l k).map fun out => (out, p.2)
  | _ => none
theorem di_cmb {f : Af} (hc : X.calm = true) (hg : Gl X x) (hm : X.mg x = some (.type "itertools.combinations")) (ha : DA X [a, b] τ f) (hdb : (x == ("__debug__" : Str)) = false := by decide)
    (nr : starEach [a, b] X.env = (false, eval a X.env) :: starEach [b] X.env := by rfl) (hpl : (backTo pos (starEach [b] X.env)).any (·.1) = false := by rfl) :
    DI X tg (.Call (.Name x p) [a, b] [] pos) τ (iCmb f) := pi_imp (pi_cmb hc hg hm ha hdb nr hpl) fun σ H Q ⟨R, ρ, fs, ds, ρ', s, eq, q⟩ => by
  obtain ⟨w, e1, e2⟩ := bindO eq
  obtain ⟨w1, w2⟩ := w
  simp only at e2
  have fin : ∀ {l out : List D} {k : Int}, cmbD l k = some out → 0 ≤ k ∧ k ≤ 1000 ∧ l.length ≤ 10000 := fun {l out k} e => by
    unfold cmbD at e
    split at e
    · rename_i hh; exact ⟨hh.1, hh.2.1, okS_le hh.2.2⟩
    · cases e
  refine ⟨R, ρ, fs, _, _, s, e1, fun vs H' fs' t s' r => ?_⟩
  split at e2
  · obtain ⟨out, e5, e6⟩ := mapO e2
    cases e6
    obtain ⟨k0, k1, k2⟩ := fin e5
    cases r with
    | cons r1 rs =>
      cases rs with
      | cons r2 rs =>
        cases rs
        cases r2
        cases r1 with
        | lst h1 q1 => exact ⟨_, _, Int.toNat _, by rw [show ((Int.toNat _ : Nat) : Int) = _ from Int.toNat_of_nonneg k0], by omega, by rw [← q1.length]; omega, .inr ⟨_, rfl, .inl (.of (hide_le _ _ _ _ h1))⟩, q _ H' fs' t s' (walks_cmb q1 e5)⟩
  · obtain ⟨out, e5, e6⟩ := mapO e2
    cases e6
    obtain ⟨k0, k1, k2⟩ := fin e5
    cases r with
    | cons r1 rs =>
      cases rs with
      | cons r2 rs =>
        cases rs
        cases r2
        cases r1 with
        | tup h1 q1 => exact ⟨_, _, Int.toNat _, by rw [show ((Int.toNat _ : Nat) : Int) = _ from Int.toNat_of_nonneg k0], by omega, by rw [← q1.length]; omega, .inr ⟨_, rfl, .inr ((hide_le _ _).seqT h1)⟩, q _ H' fs' t s' (walks_cmb q1 e5)⟩
  · cases e2
end
/-! ### tuple(range(..)) -/
section
variable {X : Cx} {τ : List Ty} {a b : Expr} {p pos p2 pos2 : Pos}
def eRgT (f : Af) : Ef := fun ρ => (f ρ).bind fun p => match p.1 with
  | [.v (.int j)] => if small62 j && okLen j.toNat then some (.v (.tup (intsD 0 j.toNat)), p.2) else none
  | _ => none
theorem de_rgT {f : Af} (hc : X.calm = true) (hgl : Gl X "tuple") (hml : X.mg "tuple" = none) (hg : Gl X "range") (hm : X.mg "range" = none) (ha : DA X [a] τ f) (na : starEach [a] X.env = (false, eval a X.env) :: starEach [] X.env := by rfl)
    (nb : starEach [.Call (.Name "range" p) [a] [] pos] X.env = (false, eval (.Call (.Name "range" p) [a] [] pos) X.env) :: starEach [] X.env := by rfl) :
    DE X (.Call (.Name "tuple" p2) [.Call (.Name "range" p) [a] [] pos] [] pos2) τ (eRgT f) := pe_imp (pe_tupRg hc hgl hml (prg_A hg hm ha na) nb) fun σ H Q ⟨R, ρ, fs, d, ρ', s, e, q⟩ => by
  obtain ⟨w, e1, e2⟩ := bindO e
  obtain ⟨w1, w2⟩ := w
  simp only at e2
  split at e2
  · rename_i j
    obtain ⟨e3, e4⟩ := ifSome' e2
    cases e4
    rw [Bool.and_eq_true] at e3
    refine ⟨R, ρ, fs, _, _, s, e1, fun vs H1 fs1 t1 s1 r1 => ?_⟩
    cases r1 with
    | cons r rs =>
      cases r
      cases rs
      have h62 := small62_of e3.1
      refine ⟨j, rfl, ⟨by omega, by omega, h62.1, h62.2, ?_⟩, fun a0 ha0 => ?_⟩
      · have := okLen_le e3.2
        rw [sizeLine_eq] at this
        rw [show j - 0 = j by omega]
        omega
      · rw [rgV0]
        have g := Grow.upd (o := HO.tup ((List.range j.toNat).map fun i => V.int (0 + (i : Nat)))) ha0
        exact q _ _ fs1 (t1.trans (Step.grow g _)) (s1.grow g) (s1.newT ha0 (rfs_ints 0 j.toNat))
  · cases e2
end
theorem bt_range : bootBuiltins "range" = some (.type "range") := by decide +kernel
theorem bt_enumerate : bootBuiltins "enumerate" = some (.type "enumerate") := by decide +kernel
end TL

namespace K53
open PySem PySem.Spec PyProof.Rows L2 TL
-- printed by gen.py from the linked text
def nT : Nat := 1000
def topS (i : Nat) : Stmt := PySem.Challenge.pw_farcall_k53_tracks_and_marks.main.body.getD i (.Pass ⟨0, 0, 0, 0⟩)
/-! ### apart(one, other): slots 0 one 1 other -/
abbrev s_apart : Stmt := topS 2
theorem sc_apart : FnScope ["one", "other"] ["one", "other"] (defScope s_apart) := ⟨rfl, rfl, rfl, by decide +kernel, rfl, by decide +kernel, by decide +kernel⟩
def b_apart : Sf := (sRet (eCa (f2 max2D) (aCons (eCa (f1 absD) (aCons (eBin dSub (eBin dIx (eVar 0) (eC (.int 1))) (eBin dIx (eVar 1) (eC (.int 1)))) aNil)) (aCons (eCa (f1 absD) (aCons (eBin dSub (eBin dIx (eVar 0) (eC (.int 2))) (eBin dIx (eVar 1) (eC (.int 2)))) aNil)) aNil))))
abbrev sg_apart : Sg := ⟨[.sh, .sh], .sh⟩
abbrev ps_apart : List Str := ["one", "other"]
theorem c_apart {P : Program} {w : World} {K : PySem.W.Frag} {mg : Str → Option Value} {base : Heap} {f : Addr} {fd : FuncData} {k : Nat} (D : Dfn K mg "apart" s_apart ps_apart f fd) (z_abs : mg "abs" = none) (z_max : mg "max" = none) :
    Cal P w K mg base f fd "apart" (k + 1) ps_apart sg_apart (runF (b_apart) 2 0) := by
  unfold b_apart 
  exact cal_ok (sg := sg_apart) (τ' := [.no, .no]) D sc_apart ⟨[], .sh, [.no, .no], [], []⟩ 0 rfl rfl rfl rfl rfl rfl (.inl rfl) fun cdv A outer s H E hr => (dss_one (ds_ret (de_callB (call_max2 rfl) ca_max2 (by rfl) z_max bt_max (da_cons (de_callB call_abs ca_abs (by rfl) z_abs bt_abs (da_cons (de_bin op_sub od_sub (de_ix ix_seq od_ix (de_var 0 (pv 0)) de_int (fun _ _ => rfl)) (de_ix ix_seq od_ix (de_var 1 (pv 1)) de_int (fun _ _ => rfl))) da_nil)) (da_cons (de_callB call_abs ca_abs (by rfl) z_abs bt_abs (da_cons (de_bin op_sub od_sub (de_ix ix_seq od_ix (de_var 0 (pv 0)) de_int (fun _ _ => rfl)) (de_ix ix_seq od_ix (de_var 1 (pv 1)) de_int (fun _ _ => rfl))) da_nil)) da_nil)))))
def F_apart : Fm := runF b_apart 2 0
/-! ### are_barring(speed, one, other): slots 0 speed 1 one 2 other -/
abbrev s_are_barring : Stmt := topS 3
theorem sc_are_barring : FnScope ["speed", "one", "other"] ["speed", "one", "other"] (defScope s_are_barring) := ⟨rfl, rfl, rfl, by decide +kernel, rfl, by decide +kernel, by decide +kernel⟩
def b_are_barring : Sf := (sRet (eBin dGt (eF (oCall F_apart (aCons (eVar 1) (aCons (eVar 2) aNil)))) (eBin dAdd (eBin dAdd (eBin dIx (eVar 1) (eC (.int 3))) (eBin dIx (eVar 2) (eC (.int 3)))) (eBin dMul (eVar 0) (eCa (f1 absD) (aCons (eBin dSub (eBin dIx (eVar 1) (eC (.int 0))) (eBin dIx (eVar 2) (eC (.int 0)))) aNil))))))
abbrev sg_are_barring : Sg := ⟨[.sh, .sh, .sh], .sh⟩
abbrev ps_are_barring : List Str := ["speed", "one", "other"]
theorem c_are_barring {P : Program} {w : World} {K : PySem.W.Frag} {mg : Str → Option Value} {base : Heap} {f : Addr} {fd : FuncData} {k : Nat} (D : Dfn K mg "are_barring" s_are_barring ps_are_barring f fd) {f_apart : Addr} {fd_apart : FuncData} (c_apart : Cal P w K mg base f_apart fd_apart "apart" k ps_apart sg_apart F_apart) (z_abs : mg "abs" = none) :
    Cal P w K mg base f fd "are_barring" (k + 1) ps_are_barring sg_are_barring (runF (b_are_barring) 3 0) := by
  unfold b_are_barring 
  exact cal_ok (sg := sg_are_barring) (τ' := [.no, .no, .no]) D sc_are_barring ⟨[], .sh, [.no, .no, .no], [], []⟩ 0 rfl rfl rfl rfl rfl rfl (.inl rfl) fun cdv A outer s H E hr => (dss_one (ds_ret (de_cmp op_gt od_gt (de_F (do_fn c_apart hr 2 (by rfl) (da_cons (de_var 1 (pv 1)) (da_cons (de_var 2 (pv 2)) da_nil)))) (de_bin op_addD od_add (de_bin op_addD od_add (de_ix ix_seq od_ix (de_var 1 (pv 1)) de_int (fun _ _ => rfl)) (de_ix ix_seq od_ix (de_var 2 (pv 2)) de_int (fun _ _ => rfl))) (de_bin op_mulD od_mul (de_var 0 (pv 0)) (de_callB call_abs ca_abs (by rfl) z_abs bt_abs (da_cons (de_bin op_sub od_sub (de_ix ix_seq od_ix (de_var 1 (pv 1)) de_int (fun _ _ => rfl)) (de_ix ix_seq od_ix (de_var 2 (pv 2)) de_int (fun _ _ => rfl))) da_nil)))) (nomark _))))
def F_are_barring : Fm := runF b_are_barring 3 0
/-! ### barring_marks(speed, marks): slots 0 speed 1 marks 2 first 3 one 4 second -/
abbrev s_barring_marks : Stmt := topS 4
theorem sc_barring_marks : FnScope ["speed", "marks", "first", "one", "second"] ["speed", "marks"] (defScope s_barring_marks) := ⟨rfl, rfl, rfl, by decide +kernel, rfl, by decide +kernel, by decide +kernel⟩
def q1_barring_marks : Sf := (sIf (tB (eF (oCall F_are_barring (aCons (eVar 0) (aCons (eVar 3) (aCons (eBin dIx (eVar 1) (eVar 4)) aNil)))))) (sRet (eTup (aCons (eVar 2) (aCons (eVar 4) aNil)))) sNil)
def q2_barring_marks : Sf := (sFor [4] (TL.iRng2 (aCons (eBin dAdd (eVar 2) (eC (.int 1))) (aCons (eCa (f1 lenD) (aCons (eVar 1) aNil)) aNil))) (gNm 4) q1_barring_marks)
def b_barring_marks : Sf := (sSeq (sFor [2, 3, 4] (iEnu (aCons (eVar 1) aNil)) (gTp (gsCons (gNm 2) (gsCons (gNm 3) gsNil))) q2_barring_marks) (sRet (eC .non)))
abbrev sg_barring_marks : Sg := ⟨[.sh, .sh], .sh⟩
abbrev ps_barring_marks : List Str := ["speed", "marks"]
theorem c_barring_marks {P : Program} {w : World} {K : PySem.W.Frag} {mg : Str → Option Value} {base : Heap} {f : Addr} {fd : FuncData} {k : Nat} (D : Dfn K mg "barring_marks" s_barring_marks ps_barring_marks f fd) {f_are_barring : Addr} {fd_are_barring : FuncData} (c_are_barring : Cal P w K mg base f_are_barring fd_are_barring "are_barring" k ps_are_barring sg_are_barring F_are_barring) (z_enumerate : mg "enumerate" = none) (z_len : mg "len" = none) (z_range : mg "range" = none) :
    Cal P w K mg base f fd "barring_marks" (k + 1) ps_barring_marks sg_barring_marks (runF (b_barring_marks) 2 3) := by
  unfold b_barring_marks q2_barring_marks q1_barring_marks
  exact cal_ok (sg := sg_barring_marks) (τ' := [.no, .no, .no, .no, .no]) D sc_barring_marks ⟨[], .sh, [.no, .no, .no, .no, .no], [], []⟩ 3 rfl rfl rfl rfl rfl rfl (.inl rfl) fun cdv A outer s H E hr => (dss_cons (ds_for (tbk := [.sh, .sh, .no, .no, .no]) (tct := [.sh, .sh, .no, .no, .no]) [2, 3, 4] PassesOwn.never rfl (di_enum (by rfl) z_enumerate (da_cons (de_var 1 (pv 1)) da_nil)) (dg_tup rfl (dgs_cons (dg_name 2 sc_barring_marks.nd rfl (by first | exact .inl rfl | exact .inr rfl)) (dgs_cons (dg_name 3 sc_barring_marks.nd rfl (by first | exact .inl rfl | exact .inr rfl)) dgs_nil)) (gsCons_len (gsCons_len gsNil_len))) (dss_one (ds_for (tbk := [.sh, .sh, .sh, .sh, .no]) (tct := [.sh, .sh, .sh, .sh, .no]) [4] PassesOwn.never rfl (di_range2 (by rfl) z_range (da_cons (de_bin op_addD od_add (de_var 2 (pv 2)) de_int) (da_cons (de_callB call_len ca_len (by rfl) z_len bt_len (da_cons (de_var 1 (pv 1)) da_nil)) da_nil))) (dg_name 4 sc_barring_marks.nd rfl (by first | exact .inl rfl | exact .inr rfl)) (dss_one (ds_if (dt_truth (de_F (do_fn c_are_barring hr 3 (by rfl) (da_cons (de_var 0 (pv 0)) (da_cons (de_var 3 (pv 3)) (da_cons (de_ix ix_seq od_ix (de_var 1 (pv 1)) (de_var 4 (pv 4)) (fun _ _ => rfl)) da_nil)))))) (dss_one (ds_ret (de_tup (da_cons (de_var 2 (pv 2)) (da_cons (de_var 4 (pv 4)) da_nil))))) dss_nil))))) (dss_one (ds_ret de_non)))
def F_barring_marks : Fm := runF b_barring_marks 2 3
/-! ### box_by(speed, mark, time): slots 0 speed 1 mark 2 time 3 reach 4 at 5 x 6 y 7 near -/
abbrev s_box_by : Stmt := topS 6
theorem sc_box_by : FnScope ["speed", "mark", "time", "reach", "at", "x", "y", "near"] ["speed", "mark", "time"] (defScope s_box_by) := ⟨rfl, rfl, rfl, by decide +kernel, rfl, by decide +kernel, by decide +kernel⟩
def b_box_by : Sf := (sSeq (sAsg (eVar 1) (gTp (gsCons (gNm 4) (gsCons (gNm 5) (gsCons (gNm 6) (gsCons (gNm 7) gsNil)))))) (sSeq (sAsg (eBin dAdd (eVar 7) (eBin dMul (eVar 0) (eCa (f1 absD) (aCons (eBin dSub (eVar 2) (eVar 4)) aNil)))) (gNm 3)) (sRet (eTup (aCons (eBin dSub (eVar 5) (eVar 3)) (aCons (eBin dAdd (eVar 5) (eVar 3)) (aCons (eBin dSub (eVar 6) (eVar 3)) (aCons (eBin dAdd (eVar 6) (eVar 3)) aNil))))))))
abbrev sg_box_by : Sg := ⟨[.sh, .sh, .sh], .sh⟩
abbrev ps_box_by : List Str := ["speed", "mark", "time"]
theorem c_box_by {P : Program} {w : World} {K : PySem.W.Frag} {mg : Str → Option Value} {base : Heap} {f : Addr} {fd : FuncData} {k : Nat} (D : Dfn K mg "box_by" s_box_by ps_box_by f fd) (z_abs : mg "abs" = none) :
    Cal P w K mg base f fd "box_by" (k + 1) ps_box_by sg_box_by (runF (b_box_by) 3 5) := by
  unfold b_box_by 
  exact cal_ok (sg := sg_box_by) (τ' := [.no, .no, .no, .no, .no, .no, .no, .no]) D sc_box_by ⟨[], .sh, [.no, .no, .no, .no, .no, .no, .no, .no], [], []⟩ 5 rfl rfl rfl rfl rfl rfl (.inl rfl) fun cdv A outer s H E hr => (dss_cons (ds_asg (de_var 1 (pv 1)) (dg_tup rfl (dgs_cons (dg_name 4 sc_box_by.nd rfl (by first | exact .inl rfl | exact .inr rfl)) (dgs_cons (dg_name 5 sc_box_by.nd rfl (by first | exact .inl rfl | exact .inr rfl)) (dgs_cons (dg_name 6 sc_box_by.nd rfl (by first | exact .inl rfl | exact .inr rfl)) (dgs_cons (dg_name 7 sc_box_by.nd rfl (by first | exact .inl rfl | exact .inr rfl)) dgs_nil)))) (gsCons_len (gsCons_len (gsCons_len (gsCons_len gsNil_len)))))) (dss_cons (ds_set 3 sc_box_by.nd rfl (by first | exact .inl rfl | exact .inr rfl) (de_bin op_addD od_add (de_var 7 (pv 7)) (de_bin op_mulD od_mul (de_var 0 (pv 0)) (de_callB call_abs ca_abs (by rfl) z_abs bt_abs (da_cons (de_bin op_sub od_sub (de_var 2 (pv 2)) (de_var 4 (pv 4))) da_nil))))) (dss_one (ds_ret (de_tup (da_cons (de_bin op_sub od_sub (de_var 5 (pv 5)) (de_var 3 (pv 3))) (da_cons (de_bin op_addD od_add (de_var 5 (pv 5)) (de_var 3 (pv 3))) (da_cons (de_bin op_sub od_sub (de_var 6 (pv 6)) (de_var 3 (pv 3))) (da_cons (de_bin op_addD od_add (de_var 6 (pv 6)) (de_var 3 (pv 3))) da_nil)))))))))
def F_box_by : Fm := runF b_box_by 3 5
/-! ### box(speed, marks, time): slots 0 speed 1 marks 2 time 3 boxes 4 one 5 low_x 6 high_x 7 low_y 8 high_y 9 mark -/
abbrev s_box : Stmt := topS 5
theorem sc_box : FnScope ["speed", "marks", "time", "boxes", "one", "low_x", "high_x", "low_y", "high_y", "mark"] ["speed", "marks", "time"] (defScope s_box) := ⟨rfl, rfl, rfl, by decide +kernel, rfl, by decide +kernel, by decide +kernel⟩
def e1_box : Of := (oE (eF (oCall F_box_by (aCons (eVar 0) (aCons (eVar 9) (aCons (eVar 2) aNil))))))
def q2_box : Sf := (sSeq (sPar 5 6 (lCons (oE (eCa (f2 max2D) (aCons (eVar 5) (aCons (eBin dIx (eVar 4) (eC (.int 0))) aNil)))) (lCons (oE (eCa (f2 min2D) (aCons (eVar 6) (aCons (eBin dIx (eVar 4) (eC (.int 1))) aNil)))) lNil))) (sPar 7 8 (lCons (oE (eCa (f2 max2D) (aCons (eVar 7) (aCons (eBin dIx (eVar 4) (eC (.int 2))) aNil)))) (lCons (oE (eCa (f2 min2D) (aCons (eVar 8) (aCons (eBin dIx (eVar 4) (eC (.int 3))) aNil)))) lNil))))
def b_box : Sf := (sSeq (sSetO 3 (oLc [9] (iSeq (eVar 1)) (gNm 9) tYesF e1_box)) (sSeq (sAsg (eBin dIx (eVar 3) (eC (.int 0))) (gTp (gsCons (gNm 5) (gsCons (gNm 6) (gsCons (gNm 7) (gsCons (gNm 8) gsNil)))))) (sSeq (sFor [4] (iSeq (eVar 3)) (gNm 4) q2_box) (sRet (eTup (aCons (eVar 5) (aCons (eVar 6) (aCons (eVar 7) (aCons (eVar 8) aNil)))))))))
abbrev sg_box : Sg := ⟨[.sh, .sh, .sh], .sh⟩
abbrev ps_box : List Str := ["speed", "marks", "time"]
theorem c_box {P : Program} {w : World} {K : PySem.W.Frag} {mg : Str → Option Value} {base : Heap} {f : Addr} {fd : FuncData} {k : Nat} (D : Dfn K mg "box" s_box ps_box f fd) {f_box_by : Addr} {fd_box_by : FuncData} (c_box_by : Cal P w K mg base f_box_by fd_box_by "box_by" k ps_box_by sg_box_by F_box_by) (z_max : mg "max" = none) (z_min : mg "min" = none) :
    Cal P w K mg base f fd "box" (k + 1) ps_box sg_box (runF (b_box) 3 7) := by
  unfold b_box q2_box e1_box
  exact cal_ok (sg := sg_box) (τ' := [.no, .no, .no, .no, .no, .no, .no, .no, .no, .no]) D sc_box ⟨[], .sh, [.no, .no, .no, .no, .no, .no, .no, .no, .no, .no], [], []⟩ 7 rfl rfl rfl rfl rfl rfl (.inl rfl) fun cdv A outer s H E hr => (dss_cons (ds_frzA 3 (by first | exact (ds_setLc (own := [("mark", 9)]) 3 rfl sc_box.nd rfl rfl rfl (di_seq (de_var 1 (pv 1))) (blkOk_by (by kernel_rfl)) (fun _ _ _ _ _ => (dg_name 9 sc_box.nd rfl (by first | exact .inl rfl | exact .inr rfl))) (fun _ _ _ _ _ => dts_nil) (fun _ _ _ _ _ => (do_E (de_F (do_fn c_box_by hr 3 (by rfl) (da_cons (de_var 0 (pv 0)) (da_cons (de_var 9 (pv 9)) (da_cons (de_var 2 (pv 2)) da_nil)))))))) | exact (ds_setO 3 sc_box.nd rfl (by first | exact .inl rfl | exact .inr rfl) (do_lc (own := [("mark", 9)]) rfl sc_box.nd (di_seq (de_var 1 (pv 1))) (blkOk_by (by kernel_rfl)) (fun _ _ _ _ _ => (dg_name 9 sc_box.nd rfl (by first | exact .inl rfl | exact .inr rfl))) (fun _ _ _ _ _ => dts_nil) (fun _ _ _ _ _ => (do_E (de_F (do_fn c_box_by hr 3 (by rfl) (da_cons (de_var 0 (pv 0)) (da_cons (de_var 9 (pv 9)) (da_cons (de_var 2 (pv 2)) da_nil))))))))))) (dss_cons (ds_asg (de_ix ix_seq od_ix (de_var 3 (pv 3)) de_int (fun _ _ => rfl)) (dg_tup rfl (dgs_cons (dg_name 5 sc_box.nd rfl (by first | exact .inl rfl | exact .inr rfl)) (dgs_cons (dg_name 6 sc_box.nd rfl (by first | exact .inl rfl | exact .inr rfl)) (dgs_cons (dg_name 7 sc_box.nd rfl (by first | exact .inl rfl | exact .inr rfl)) (dgs_cons (dg_name 8 sc_box.nd rfl (by first | exact .inl rfl | exact .inr rfl)) dgs_nil)))) (gsCons_len (gsCons_len (gsCons_len (gsCons_len gsNil_len)))))) (dss_cons (ds_for (tbk := [.sh, .sh, .sh, .sh, .no, .sh, .sh, .sh, .sh, .no]) (tct := [.sh, .sh, .sh, .sh, .no, .sh, .sh, .sh, .sh, .no]) [4] PassesOwn.never rfl (di_seq (de_var 3 (pv 3))) (dg_name 4 sc_box.nd rfl (by first | exact .inl rfl | exact .inr rfl)) (dss_cons (ds_par 5 6 rfl sc_box.nd rfl rfl rfl rfl (dl_cons (do_E (de_callB (call_max2 rfl) ca_max2 (by rfl) z_max bt_max (da_cons (de_var 5 (pv 5)) (da_cons (de_ix ix_seq od_ix (de_var 4 (pv 4)) de_int (fun _ _ => rfl)) da_nil)))) (dl_cons (do_E (de_callB (call_min2 rfl) ca_min2 (by rfl) z_min bt_min (da_cons (de_var 6 (pv 6)) (da_cons (de_ix ix_seq od_ix (de_var 4 (pv 4)) de_int (fun _ _ => rfl)) da_nil)))) dl_nil)) rfl) (dss_one (ds_par 7 8 rfl sc_box.nd rfl rfl rfl rfl (dl_cons (do_E (de_callB (call_max2 rfl) ca_max2 (by rfl) z_max bt_max (da_cons (de_var 7 (pv 7)) (da_cons (de_ix ix_seq od_ix (de_var 4 (pv 4)) de_int (fun _ _ => rfl)) da_nil)))) (dl_cons (do_E (de_callB (call_min2 rfl) ca_min2 (by rfl) z_min bt_min (da_cons (de_var 8 (pv 8)) (da_cons (de_ix ix_seq od_ix (de_var 4 (pv 4)) de_int (fun _ _ => rfl)) da_nil)))) dl_nil)) rfl)))) (dss_one (ds_ret (de_tup (da_cons (de_var 5 (pv 5)) (da_cons (de_var 6 (pv 6)) (da_cons (de_var 7 (pv 7)) (da_cons (de_var 8 (pv 8)) da_nil))))))))))
def F_box : Fm := runF b_box 3 7
/-! ### slowest(marks): slots 0 marks 1 found 2 first 3 one 4 other 5 lacks 6 turns -/
abbrev s_slowest : Stmt := topS 7
theorem sc_slowest : FnScope ["marks", "found", "first", "one", "other", "lacks", "turns"] ["marks"] (defScope s_slowest) := ⟨rfl, rfl, rfl, by decide +kernel, rfl, by decide +kernel, by decide +kernel⟩
def q1_slowest : Sf := (sSeq (sAsg (eBin dSub (eBin dSub (eF (oCall F_apart (aCons (eVar 3) (aCons (eVar 4) aNil)))) (eBin dIx (eVar 3) (eC (.int 3)))) (eBin dIx (eVar 4) (eC (.int 3)))) (gNm 5)) (sSeq (sAsg (eCa (f1 absD) (aCons (eBin dSub (eBin dIx (eVar 3) (eC (.int 0))) (eBin dIx (eVar 4) (eC (.int 0)))) aNil)) (gNm 6)) (sSeq (sIf (tAnd' (tBl (eBin dGt (eVar 5) (eC (.int 0)))) (tBl (eBin dEq (eVar 6) (eC (.int 0))))) (sRet (eC .non)) sNil) (sIf (tBl (eBin dGt (eVar 5) (eC (.int 0)))) (sAsg (eCa (f2 max2D) (aCons (eVar 1) (aCons (eUn dNeg (eBin dDiv (eUn dNeg (eVar 5)) (eVar 6))) aNil))) (gNm 1)) sNil))))
def q2_slowest : Sf := (sFor [4, 5, 6] (iSeq (eSl dSl (eVar 0) (pSome (eBin dAdd (eVar 2) (eC (.int 1)))) pNo)) (gNm 4) q1_slowest)
def b_slowest : Sf := (sSeq (sAsg (eC (.int 0)) (gNm 1)) (sSeq (sFor [2, 3, 4, 5, 6] (iEnu (aCons (eVar 0) aNil)) (gTp (gsCons (gNm 2) (gsCons (gNm 3) gsNil))) q2_slowest) (sRet (eVar 1))))
abbrev sg_slowest : Sg := ⟨[.sh], .sh⟩
abbrev ps_slowest : List Str := ["marks"]
theorem c_slowest {P : Program} {w : World} {K : PySem.W.Frag} {mg : Str → Option Value} {base : Heap} {f : Addr} {fd : FuncData} {k : Nat} (D : Dfn K mg "slowest" s_slowest ps_slowest f fd) {f_apart : Addr} {fd_apart : FuncData} (c_apart : Cal P w K mg base f_apart fd_apart "apart" k ps_apart sg_apart F_apart) (z_enumerate : mg "enumerate" = none) (z_abs : mg "abs" = none) (z_max : mg "max" = none) :
    Cal P w K mg base f fd "slowest" (k + 1) ps_slowest sg_slowest (runF (b_slowest) 1 6) := by
  unfold b_slowest q2_slowest q1_slowest
  exact cal_ok (sg := sg_slowest) (τ' := [.no, .no, .no, .no, .no, .no, .no]) D sc_slowest ⟨[], .sh, [.no, .no, .no, .no, .no, .no, .no], [], []⟩ 6 rfl rfl rfl rfl rfl rfl (.inl rfl) fun cdv A outer s H E hr => (dss_cons (ds_set 1 sc_slowest.nd rfl (by first | exact .inl rfl | exact .inr rfl) de_int) (dss_cons (ds_for (tbk := [.sh, .sh, .no, .no, .no, .no, .no]) (tct := [.sh, .sh, .no, .no, .no, .no, .no]) [2, 3, 4, 5, 6] PassesOwn.never rfl (di_enum (by rfl) z_enumerate (da_cons (de_var 0 (pv 0)) da_nil)) (dg_tup rfl (dgs_cons (dg_name 2 sc_slowest.nd rfl (by first | exact .inl rfl | exact .inr rfl)) (dgs_cons (dg_name 3 sc_slowest.nd rfl (by first | exact .inl rfl | exact .inr rfl)) dgs_nil)) (gsCons_len (gsCons_len gsNil_len))) (dss_one (ds_for (tbk := [.sh, .sh, .sh, .sh, .no, .no, .no]) (tct := [.sh, .sh, .sh, .sh, .no, .no, .no]) [4, 5, 6] PassesOwn.never rfl (di_seq (de_slice sl_D sd_sl (de_var 0 (pv 0)) (dp_some (de_bin op_addD od_add (de_var 2 (pv 2)) de_int)) dp_no)) (dg_name 4 sc_slowest.nd rfl (by first | exact .inl rfl | exact .inr rfl)) (dss_cons (ds_set 5 sc_slowest.nd rfl (by first | exact .inl rfl | exact .inr rfl) (de_bin op_sub od_sub (de_bin op_sub od_sub (de_F (do_fn c_apart hr 2 (by rfl) (da_cons (de_var 3 (pv 3)) (da_cons (de_var 4 (pv 4)) da_nil)))) (de_ix ix_seq od_ix (de_var 3 (pv 3)) de_int (fun _ _ => rfl))) (de_ix ix_seq od_ix (de_var 4 (pv 4)) de_int (fun _ _ => rfl)))) (dss_cons (ds_set 6 sc_slowest.nd rfl (by first | exact .inl rfl | exact .inr rfl) (de_callB call_abs ca_abs (by rfl) z_abs bt_abs (da_cons (de_bin op_sub od_sub (de_ix ix_seq od_ix (de_var 3 (pv 3)) de_int (fun _ _ => rfl)) (de_ix ix_seq od_ix (de_var 4 (pv 4)) de_int (fun _ _ => rfl))) da_nil))) (dss_cons (ds_if (dt_w (dw_and (dt_cmp op_gt od_gt (de_var 5 (pv 5)) de_int (nomark _)) (dw_and1 (dt_cmp (op_eqD (hu64 hr)) od_eq (de_var 6 (pv 6)) de_int (nomark _))))) (dss_one (ds_ret de_non)) dss_nil) (dss_one (ds_if (dt_cmp op_gt od_gt (de_var 5 (pv 5)) de_int (nomark _)) (dss_one (ds_set 1 sc_slowest.nd rfl (by first | exact .inl rfl | exact .inr rfl) (de_callB (call_max2 rfl) ca_max2 (by rfl) z_max bt_max (da_cons (de_var 1 (pv 1)) (da_cons (de_un un_neg ud_neg (de_bin op_fdivW od_div (de_un un_neg ud_neg (de_var 5 (pv 5))) (de_var 6 (pv 6)))) da_nil))))) dss_nil)))))))) (dss_one (ds_ret (de_var 1 (pv 1))))))
def F_slowest : Fm := runF b_slowest 1 6
/-! ### is_within(inner, outer): slots 0 inner 1 outer -/
abbrev s_is_within : Stmt := topS 8
theorem sc_is_within : FnScope ["inner", "outer"] ["inner", "outer"] (defScope s_is_within) := ⟨rfl, rfl, rfl, by decide +kernel, rfl, by decide +kernel, by decide +kernel⟩
def b_is_within : Sf := (sRet (eAnd (eBin dGe (eBin dIx (eVar 0) (eC (.int 0))) (eBin dIx (eVar 1) (eC (.int 0)))) (eAnd (eBin dLe (eBin dIx (eVar 0) (eC (.int 1))) (eBin dIx (eVar 1) (eC (.int 1)))) (eAnd (eBin dGe (eBin dIx (eVar 0) (eC (.int 2))) (eBin dIx (eVar 1) (eC (.int 2)))) (eBin dLe (eBin dIx (eVar 0) (eC (.int 3))) (eBin dIx (eVar 1) (eC (.int 3))))))))
abbrev sg_is_within : Sg := ⟨[.sh, .sh], .sh⟩
abbrev ps_is_within : List Str := ["inner", "outer"]
theorem c_is_within {P : Program} {w : World} {K : PySem.W.Frag} {mg : Str → Option Value} {base : Heap} {f : Addr} {fd : FuncData} {k : Nat} (D : Dfn K mg "is_within" s_is_within ps_is_within f fd) :
    Cal P w K mg base f fd "is_within" (k + 1) ps_is_within sg_is_within (runF (b_is_within) 2 0) := by
  unfold b_is_within 
  exact cal_ok (sg := sg_is_within) (τ' := [.no, .no]) D sc_is_within ⟨[], .sh, [.no, .no], [], []⟩ 0 rfl rfl rfl rfl rfl rfl (.inl rfl) fun cdv A outer s H E hr => (dss_one (ds_ret (de_and (de_cmp op_ge od_ge (de_ix ix_seq od_ix (de_var 0 (pv 0)) de_int (fun _ _ => rfl)) (de_ix ix_seq od_ix (de_var 1 (pv 1)) de_int (fun _ _ => rfl)) (nomark _)) (de_and (de_cmp op_le od_le (de_ix ix_seq od_ix (de_var 0 (pv 0)) de_int (fun _ _ => rfl)) (de_ix ix_seq od_ix (de_var 1 (pv 1)) de_int (fun _ _ => rfl)) (nomark _)) (de_and (de_cmp op_ge od_ge (de_ix ix_seq od_ix (de_var 0 (pv 0)) de_int (fun _ _ => rfl)) (de_ix ix_seq od_ix (de_var 1 (pv 1)) de_int (fun _ _ => rfl)) (nomark _)) (de_one (de_cmp op_le od_le (de_ix ix_seq od_ix (de_var 0 (pv 0)) de_int (fun _ _ => rfl)) (de_ix ix_seq od_ix (de_var 1 (pv 1)) de_int (fun _ _ => rfl)) (nomark _))))))))
def F_is_within : Fm := runF b_is_within 2 0
/-! ### idle_marks(speed, marks): slots 0 speed 1 marks 2 found 3 number 4 mark 5 others -/
abbrev s_idle_marks : Stmt := topS 9
theorem sc_idle_marks : FnScope ["speed", "marks", "found", "number", "mark", "others"] ["speed", "marks"] (defScope s_idle_marks) := ⟨rfl, rfl, rfl, by decide +kernel, rfl, by decide +kernel, by decide +kernel⟩
def q1_idle_marks : Sf := (sSeq (sAsg (eBin dAdd (eSl dSl (eVar 1) pNo (pSome (eVar 3))) (eSl dSl (eVar 1) (pSome (eBin dAdd (eVar 3) (eC (.int 1)))) pNo)) (gNm 5)) (sIf (tAnd' (tB (eVar 5)) (tB (eF (oCall F_is_within (aCons (eF (oCall F_box (aCons (eVar 0) (aCons (eVar 5) (aCons (eBin dIx (eVar 4) (eC (.int 0))) aNil))))) (aCons (eF (oCall F_box_by (aCons (eVar 0) (aCons (eVar 4) (aCons (eBin dIx (eVar 4) (eC (.int 0))) aNil))))) aNil)))))) (sApp 2 (eVar 3)) sNil))
def b_idle_marks : Sf := (sSeq (sSetO 2 (oLst aNil)) (sSeq (sFor [3, 4, 5] (iEnu (aCons (eVar 1) aNil)) (gTp (gsCons (gNm 3) (gsCons (gNm 4) gsNil))) q1_idle_marks) (sRet (eVar 2))))
abbrev sg_idle_marks : Sg := ⟨[.sh, .sh], .sh⟩
abbrev ps_idle_marks : List Str := ["speed", "marks"]
theorem c_idle_marks {P : Program} {w : World} {K : PySem.W.Frag} {mg : Str → Option Value} {base : Heap} {f : Addr} {fd : FuncData} {k : Nat} (D : Dfn K mg "idle_marks" s_idle_marks ps_idle_marks f fd) {f_is_within : Addr} {fd_is_within : FuncData} (c_is_within : Cal P w K mg base f_is_within fd_is_within "is_within" k ps_is_within sg_is_within F_is_within) {f_box : Addr} {fd_box : FuncData} (c_box : Cal P w K mg base f_box fd_box "box" k ps_box sg_box F_box) {f_box_by : Addr} {fd_box_by : FuncData} (c_box_by : Cal P w K mg base f_box_by fd_box_by "box_by" k ps_box_by sg_box_by F_box_by) (z_enumerate : mg "enumerate" = none) :
    Cal P w K mg base f fd "idle_marks" (k + 1) ps_idle_marks sg_idle_marks (runF (b_idle_marks) 2 4) := by
  unfold b_idle_marks q1_idle_marks
  exact cal_ok (sg := sg_idle_marks) (τ' := [.no, .no, .no, .no, .no, .no]) D sc_idle_marks ⟨[], .sh, [.no, .no, .no, .no, .no, .no], [], []⟩ 4 rfl rfl rfl rfl rfl rfl (.inl rfl) fun cdv A outer s H E hr => (dss_cons (ds_setO 2 sc_idle_marks.nd rfl (by first | exact .inl rfl | exact .inr rfl) (do_lst da_nil)) (dss_cons (ds_for (tbk := [.sh, .sh, (.oL .sh), .no, .no, .no]) (tct := [.sh, .sh, (.oL .sh), .no, .no, .no]) [3, 4, 5] PassesOwn.never rfl (di_enum (by rfl) z_enumerate (da_cons (de_var 1 (pv 1)) da_nil)) (dg_tup rfl (dgs_cons (dg_name 3 sc_idle_marks.nd rfl (by first | exact .inl rfl | exact .inr rfl)) (dgs_cons (dg_name 4 sc_idle_marks.nd rfl (by first | exact .inl rfl | exact .inr rfl)) dgs_nil)) (gsCons_len (gsCons_len gsNil_len))) (dss_cons (ds_set 5 sc_idle_marks.nd rfl (by first | exact .inl rfl | exact .inr rfl) (de_bin op_addD od_add (de_slice sl_D sd_sl (de_var 1 (pv 1)) dp_no (dp_some (de_var 3 (pv 3)))) (de_slice sl_D sd_sl (de_var 1 (pv 1)) (dp_some (de_bin op_addD od_add (de_var 3 (pv 3)) de_int)) dp_no))) (dss_one (ds_if (dt_w (dw_and (dt_truth (de_var 5 (pv 5))) (dw_and1 (dt_truth (de_F (do_fn c_is_within hr 2 (by rfl) (da_cons (de_F (do_fn c_box hr 3 (by rfl) (da_cons (de_var 0 (pv 0)) (da_cons (de_var 5 (pv 5)) (da_cons (de_ix ix_seq od_ix (de_var 4 (pv 4)) de_int (fun _ _ => rfl)) da_nil))))) (da_cons (de_F (do_fn c_box_by hr 3 (by rfl) (da_cons (de_var 0 (pv 0)) (da_cons (de_var 4 (pv 4)) (da_cons (de_ix ix_seq od_ix (de_var 4 (pv 4)) de_int (fun _ _ => rfl)) da_nil))))) da_nil)))))))) (dss_one (ds_app 2 (pv 2) (de_var 3 (pv 3)))) dss_nil)))) (dss_frz 2 (dss_one (ds_ret (de_var 2 (pv 2)))))))
def F_idle_marks : Fm := runF b_idle_marks 2 4
/-! ### same_boxes(speed, marks, others): slots 0 speed 1 marks 2 others 3 time 4 mark -/
abbrev s_same_boxes : Stmt := topS 10
theorem sc_same_boxes : FnScope ["speed", "marks", "others", "time", "mark"] ["speed", "marks", "others"] (defScope s_same_boxes) := ⟨rfl, rfl, rfl, by decide +kernel, rfl, by decide +kernel, by decide +kernel⟩
def e1_same_boxes : Of := (oE (eBin dIx (eVar 4) (eC (.int 0))))
def q2_same_boxes : Sf := (sIf (tBl (eBin dNe (eF (oCall F_box (aCons (eVar 0) (aCons (eVar 1) (aCons (eVar 3) aNil))))) (eF (oCall F_box (aCons (eVar 0) (aCons (eVar 2) (aCons (eVar 3) aNil))))))) (sRet (eC (.bl false))) sNil)
def b_same_boxes : Sf := (sSeq (sFor [3] (TL.iRng1 (aCons (eBin dAdd (eCa (f1 maxD) (aCons (eF (oLc [4] (iSeq (eVar 1)) (gNm 4) tYesF e1_same_boxes)) aNil)) (eC (.int 1))) aNil)) (gNm 3) q2_same_boxes) (sRet (eC (.bl true))))
abbrev sg_same_boxes : Sg := ⟨[.sh, .sh, .sh], .sh⟩
abbrev ps_same_boxes : List Str := ["speed", "marks", "others"]
theorem c_same_boxes {P : Program} {w : World} {K : PySem.W.Frag} {mg : Str → Option Value} {base : Heap} {f : Addr} {fd : FuncData} {k : Nat} (D : Dfn K mg "same_boxes" s_same_boxes ps_same_boxes f fd) {f_box : Addr} {fd_box : FuncData} (c_box : Cal P w K mg base f_box fd_box "box" k ps_box sg_box F_box) (z_max : mg "max" = none) (z_range : mg "range" = none) :
    Cal P w K mg base f fd "same_boxes" (k + 1) ps_same_boxes sg_same_boxes (runF (b_same_boxes) 3 2) := by
  unfold b_same_boxes q2_same_boxes e1_same_boxes
  exact cal_ok (sg := sg_same_boxes) (τ' := [.no, .no, .no, .no, .no]) D sc_same_boxes ⟨[], .sh, [.no, .no, .no, .no, .no], [], []⟩ 2 rfl rfl rfl rfl rfl rfl (.inl rfl) fun cdv A outer s H E hr => (dss_cons (ds_for (tbk := [.sh, .sh, .sh, .no, .no]) (tct := [.sh, .sh, .sh, .no, .no]) [3] PassesOwn.never rfl (di_range1 (by rfl) z_range (da_cons (de_bin op_addD od_add (de_callB (cr_max rfl) ca_max (by rfl) z_max bt_max (da_cons (de_F (do_lc (own := [("mark", 4)]) rfl sc_same_boxes.nd (di_seq (de_var 1 (pv 1))) (blkOk_by (by kernel_rfl)) (fun _ _ _ _ _ => (dg_name 4 sc_same_boxes.nd rfl (by first | exact .inl rfl | exact .inr rfl))) (fun _ _ _ _ _ => dts_nil) (fun _ _ _ _ _ => (do_E (de_ix ix_seq od_ix (de_var 4 (pv 4)) de_int (fun _ _ => rfl)))))) da_nil)) de_int) da_nil)) (dg_name 3 sc_same_boxes.nd rfl (by first | exact .inl rfl | exact .inr rfl)) (dss_one (ds_if (dt_cmp (op_neD (hu64 hr)) od_ne (de_F (do_fn c_box hr 3 (by rfl) (da_cons (de_var 0 (pv 0)) (da_cons (de_var 1 (pv 1)) (da_cons (de_var 3 (pv 3)) da_nil))))) (de_F (do_fn c_box hr 3 (by rfl) (da_cons (de_var 0 (pv 0)) (da_cons (de_var 2 (pv 2)) (da_cons (de_var 3 (pv 3)) da_nil))))) (nomark _)) (dss_one (ds_ret de_bl)) dss_nil))) (dss_one (ds_ret de_bl)))
def F_same_boxes : Fm := runF b_same_boxes 3 2
/-! ### least_marks(speed, marks): slots 0 speed 1 marks 2 many 3 numbers 4 number -/
abbrev s_least_marks : Stmt := topS 11
theorem sc_least_marks : FnScope ["speed", "marks", "many", "numbers", "number"] ["speed", "marks"] (defScope s_least_marks) := ⟨rfl, rfl, rfl, by decide +kernel, rfl, by decide +kernel, by decide +kernel⟩
def e1_least_marks : Of := (oE (eBin dIx (eVar 1) (eVar 4)))
def q2_least_marks : Sf := (sIf (tB (eF (oCall F_same_boxes (aCons (eVar 0) (aCons (eVar 1) (aCons (eCa (f1 tupleD) (aCons (eF (oLc [4] (iSeq (eVar 3)) (gNm 4) tYesF e1_least_marks)) aNil)) aNil)))))) (sRet (eVar 3)) sNil)
def q3_least_marks : Sf := (sFor [3] (iCmbR (eCa (f1 lenD) (aCons (eVar 1) aNil)) (eVar 2)) (gNm 3) q2_least_marks)
def b_least_marks : Sf := (sSeq (sFor [2, 3] (TL.iRng2 (aCons (eC (.int 1)) (aCons (eBin dAdd (eCa (f1 lenD) (aCons (eVar 1) aNil)) (eC (.int 1))) aNil))) (gNm 2) q3_least_marks) (sRet (eRgT (aCons (eCa (f1 lenD) (aCons (eVar 1) aNil)) aNil))))
abbrev sg_least_marks : Sg := ⟨[.sh, .sh], .sh⟩
abbrev ps_least_marks : List Str := ["speed", "marks"]
theorem c_least_marks {P : Program} {w : World} {K : PySem.W.Frag} {mg : Str → Option Value} {base : Heap} {f : Addr} {fd : FuncData} {k : Nat} (D : Dfn K mg "least_marks" s_least_marks ps_least_marks f fd) {f_same_boxes : Addr} {fd_same_boxes : FuncData} (c_same_boxes : Cal P w K mg base f_same_boxes fd_same_boxes "same_boxes" k ps_same_boxes sg_same_boxes F_same_boxes) (z_len : mg "len" = none) (z_range : mg "range" = none) (z_tuple : mg "tuple" = none) (g_combinations : mg "combinations" = some (.type "itertools.combinations")) :
    Cal P w K mg base f fd "least_marks" (k + 1) ps_least_marks sg_least_marks (runF (b_least_marks) 2 3) := by
  unfold b_least_marks q3_least_marks q2_least_marks e1_least_marks
  exact cal_ok (sg := sg_least_marks) (τ' := [.no, .no, .no, .no, .no]) D sc_least_marks ⟨[], .sh, [.no, .no, .no, .no, .no], [], []⟩ 3 rfl rfl rfl rfl rfl rfl (.inl rfl) fun cdv A outer s H E hr => (dss_cons (ds_for (tbk := [.sh, .sh, .no, .no, .no]) (tct := [.sh, .sh, .no, .no, .no]) [2, 3] PassesOwn.never rfl (di_range2 (by rfl) z_range (da_cons de_int (da_cons (de_bin op_addD od_add (de_callB call_len ca_len (by rfl) z_len bt_len (da_cons (de_var 1 (pv 1)) da_nil)) de_int) da_nil))) (dg_name 2 sc_least_marks.nd rfl (by first | exact .inl rfl | exact .inr rfl)) (dss_one (ds_for (tbk := [.sh, .sh, .sh, .no, .no]) (tct := [.sh, .sh, .sh, .no, .no]) [3] PassesOwn.never rfl (di_cmbR rfl (by rfl) g_combinations (by rfl) z_range (de_callB call_len ca_len (by rfl) z_len bt_len (da_cons (de_var 1 (pv 1)) da_nil)) (de_var 2 (pv 2))) (dg_name 3 sc_least_marks.nd rfl (by first | exact .inl rfl | exact .inr rfl)) (dss_one (ds_if (dt_truth (de_F (do_fn c_same_boxes hr 3 (by rfl) (da_cons (de_var 0 (pv 0)) (da_cons (de_var 1 (pv 1)) (da_cons (de_callTy call_tuple_of ca_tuple (by rfl) z_tuple bt_tuple (da_cons (de_F (do_lc (own := [("number", 4)]) rfl sc_least_marks.nd (di_seq (de_var 3 (pv 3))) (blkOk_by (by kernel_rfl)) (fun _ _ _ _ _ => (dg_name 4 sc_least_marks.nd rfl (by first | exact .inl rfl | exact .inr rfl))) (fun _ _ _ _ _ => dts_nil) (fun _ _ _ _ _ => (do_E (de_ix ix_seq od_ix (de_var 1 (pv 1)) (de_var 4 (pv 4)) (fun _ _ => rfl)))))) da_nil)) da_nil)))))) (dss_one (ds_ret (de_var 3 (pv 3)))) dss_nil))))) (dss_one (ds_ret (de_rgT rfl (by rfl) z_tuple (by rfl) z_range (da_cons (de_callB call_len ca_len (by rfl) z_len bt_len (da_cons (de_var 1 (pv 1)) da_nil)) da_nil)))))
def F_least_marks : Fm := runF b_least_marks 2 3
/-! ### track(speed, marks, first, last): slots 0 speed 1 marks 2 first 3 last 4 found 5 time 6 low_x 7 _ 8 low_y -/
abbrev s_track : Stmt := topS 12
theorem sc_track : FnScope ["speed", "marks", "first", "last", "found", "time", "low_x", "_", "low_y"] ["speed", "marks", "first", "last"] (defScope s_track) := ⟨rfl, rfl, rfl, by decide +kernel, rfl, by decide +kernel, by decide +kernel⟩
def q1_track : Sf := (sSeq (sAsg (eF (oCall F_box (aCons (eVar 0) (aCons (eVar 1) (aCons (eVar 5) aNil))))) (gTp (gsCons (gNm 6) (gsCons (gNm 7) (gsCons (gNm 8) (gsCons (gNm 7) gsNil)))))) (sApp 4 (eTup (aCons (eVar 6) (aCons (eVar 8) aNil)))))
def b_track : Sf := (sSeq (sSetO 4 (oLst aNil)) (sSeq (sFor [5, 6, 7, 8] (TL.iRng2 (aCons (eVar 2) (aCons (eBin dAdd (eVar 3) (eC (.int 1))) aNil))) (gNm 5) q1_track) (sRet (eCa (f1 tupleD) (aCons (eOwn 4) aNil)))))
abbrev sg_track : Sg := ⟨[.sh, .sh, .sh, .sh], .sh⟩
abbrev ps_track : List Str := ["speed", "marks", "first", "last"]
theorem c_track {P : Program} {w : World} {K : PySem.W.Frag} {mg : Str → Option Value} {base : Heap} {f : Addr} {fd : FuncData} {k : Nat} (D : Dfn K mg "track" s_track ps_track f fd) {f_box : Addr} {fd_box : FuncData} (c_box : Cal P w K mg base f_box fd_box "box" k ps_box sg_box F_box) (z_range : mg "range" = none) (z_tuple : mg "tuple" = none) :
    Cal P w K mg base f fd "track" (k + 1) ps_track sg_track (runF (b_track) 4 5) := by
  unfold b_track q1_track
  exact cal_ok (sg := sg_track) (τ' := [.no, .no, .no, .no, .no, .no, .no, .no, .no]) D sc_track ⟨[], .sh, [.no, .no, .no, .no, .no, .no, .no, .no, .no], [], []⟩ 5 rfl rfl rfl rfl rfl rfl (.inl rfl) fun cdv A outer s H E hr => (dss_cons (ds_setO 4 sc_track.nd rfl (by first | exact .inl rfl | exact .inr rfl) (do_lst da_nil)) (dss_cons (ds_for (tbk := [.sh, .sh, .sh, .sh, (.oL .sh), .no, .no, .no, .no]) (tct := [.sh, .sh, .sh, .sh, (.oL .sh), .no, .no, .no, .no]) [5, 6, 7, 8] PassesOwn.never rfl (di_range2 (by rfl) z_range (da_cons (de_var 2 (pv 2)) (da_cons (de_bin op_addD od_add (de_var 3 (pv 3)) de_int) da_nil))) (dg_name 5 sc_track.nd rfl (by first | exact .inl rfl | exact .inr rfl)) (dss_cons (ds_asg (de_F (do_fn c_box hr 3 (by rfl) (da_cons (de_var 0 (pv 0)) (da_cons (de_var 1 (pv 1)) (da_cons (de_var 5 (pv 5)) da_nil))))) (dg_tup rfl (dgs_cons (dg_name 6 sc_track.nd rfl (by first | exact .inl rfl | exact .inr rfl)) (dgs_cons (dg_name 7 sc_track.nd rfl (by first | exact .inl rfl | exact .inr rfl)) (dgs_cons (dg_name 8 sc_track.nd rfl (by first | exact .inl rfl | exact .inr rfl)) (dgs_cons (dg_name 7 sc_track.nd rfl (by first | exact .inl rfl | exact .inr rfl)) dgs_nil)))) (gsCons_len (gsCons_len (gsCons_len (gsCons_len gsNil_len)))))) (dss_one (ds_app 4 (pv 4) (de_tup (da_cons (de_var 6 (pv 6)) (da_cons (de_var 8 (pv 8)) da_nil))))))) (dss_one (ds_ret (de_callTy call_tuple_of ca_tuple (by rfl) z_tuple bt_tuple (da_cons (de_own 4 (pv 4)) da_nil))))))
def F_track : Fm := runF b_track 4 5
/-! ### _law_draw(script): slots 0 script -/
abbrev s__law_draw : Stmt := topS 14
theorem sc__law_draw : FnScope ["script"] ["script"] (defScope s__law_draw) := ⟨rfl, rfl, rfl, by decide +kernel, rfl, by decide +kernel, by decide +kernel⟩
def b__law_draw : Sf := (sRetO (oLst (aCons (eF (oCa (f1L listD) (aCons (eVar 0) aNil))) (aCons (eC (.int 0)) (aCons (eC (.int 0)) (aCons (eC (.int 17)) aNil))))))
abbrev sg__law_draw : Sg := ⟨[.sh], (.oL .sh)⟩
abbrev ps__law_draw : List Str := ["script"]
theorem c__law_draw {P : Program} {w : World} {K : PySem.W.Frag} {mg : Str → Option Value} {base : Heap} {f : Addr} {fd : FuncData} {k : Nat} (D : Dfn K mg "_law_draw" s__law_draw ps__law_draw f fd) (z_list : mg "list" = none) :
    Cal P w K mg base f fd "_law_draw" (k + 1) ps__law_draw sg__law_draw (runF (b__law_draw) 1 0) := by
  unfold b__law_draw 
  exact cal_ok (sg := sg__law_draw) (τ' := [.no]) D sc__law_draw ⟨[], (.oL .sh), [.no], [], []⟩ 0 rfl rfl rfl rfl rfl rfl (.inr (by repeat first | exact nn_ret | exact nn_retO | exact nn_retX | exact nn_retN | apply nn_seq | apply nn_if)) fun cdv A outer s H E hr => (dss_one (ds_retO (do_lst (da_cons (de_F (do_callTy call_list_of co_list (by rfl) z_list bt_list (da_cons (de_var 0 (pv 0)) da_nil))) (da_cons de_int (da_cons de_int (da_cons de_int da_nil)))))))
def F__law_draw : Fm := runF b__law_draw 1 0
/-! ### _law_next(draw, many): slots 0 draw 1 many 2 found 3 cell -/
abbrev s__law_next : Stmt := topS 15
theorem sc__law_next : FnScope ["draw", "many", "found", "cell"] ["draw", "many"] (defScope s__law_next) := ⟨rfl, rfl, rfl, by decide +kernel, rfl, by decide +kernel, by decide +kernel⟩
def b__law_next : Sf := (sSeq (sIf (tBl (eBin dGt (eBin dIx (eOwn 0) (eC (.int 2))) (eC (.int 0)))) (sSeq (sAsg (eBin dMod (eCa (f1 intD) (aCons (eBin dIx (eOwn 0) (eC (.int 2))) aNil)) (eVar 1)) (gNm 2)) (sSeq (sSetIx 0 (eBin dDiv (eBin dIx (eOwn 0) (eC (.int 2))) (eVar 1)) (eC (.int 2))) (sRet (eVar 2)))) sNil) (sSeq (sIf (tBl (eBin dLt (eBin dIx (eOwn 0) (eC (.int 1))) (eCa (f1 lenD) (aCons (eBin dIx (eOwn 0) (eC (.int 0))) aNil)))) (sKl [3] (sSeq (sAsg (eCa (f1 absD) (aCons (eBin dIx (eBin dIx (eOwn 0) (eC (.int 0))) (eBin dIx (eOwn 0) (eC (.int 1)))) aNil)) (gNm 3)) (sSeq (sSetIx 0 (eBin dAdd (eBin dIx (eOwn 0) (eC (.int 1))) (eC (.int 1))) (eC (.int 1))) (sSeq (sIf (tBl (eBin dGe (eVar 3) (eBin dPow (eC (.int 10)) (eC (.int 18))))) (sSeq (sSetIx 0 (eBin dDiv (eVar 3) (eVar 1)) (eC (.int 2))) (sRet (eBin dMod (eCa (f1 intD) (aCons (eVar 3) aNil)) (eVar 1)))) sNil) (sSetIx 0 (eBin dMod (eCa (f1 intD) (aCons (eBin dAdd (eBin dAdd (eBin dMul (eBin dIx (eOwn 0) (eC (.int 3))) (eC (.int 48271))) (eVar 3)) (eC (.int 11))) aNil)) (eC (.int 2147483647))) (eC (.int 3))))))) (sSetIx 0 (eBin dMod (eCa (f1 intD) (aCons (eBin dAdd (eBin dMul (eBin dIx (eOwn 0) (eC (.int 3))) (eC (.int 48271))) (eC (.int 12345))) aNil)) (eC (.int 2147483647))) (eC (.int 3)))) (sRet (eBin dMod (eBin dDiv (eCa (f1 intD) (aCons (eBin dMod (eBin dMul (eBin dIx (eOwn 0) (eC (.int 3))) (eC (.int 69621))) (eC (.int 2147483629))) aNil)) (eC (.int 7))) (eVar 1)))))
abbrev sg__law_next : Sg := ⟨[(.oL .sh), .sh], .sh⟩
abbrev ps__law_next : List Str := ["draw", "many"]
theorem c__law_next {P : Program} {w : World} {K : PySem.W.Frag} {mg : Str → Option Value} {base : Heap} {f : Addr} {fd : FuncData} {k : Nat} (D : Dfn K mg "_law_next" s__law_next ps__law_next f fd) (z_int : mg "int" = none) (z_len : mg "len" = none) (z_abs : mg "abs" = none) :
    Cal P w K mg base f fd "_law_next" (k + 1) ps__law_next sg__law_next (runF (b__law_next) 2 2) := by
  unfold b__law_next 
  exact cal_ok (sg := sg__law_next) (τ' := [(.oL .sh), .no, .no, .no]) D sc__law_next ⟨[0], .sh, [(.oL .sh), .no, .no, .no], [], []⟩ 2 rfl rfl rfl rfl rfl rfl (.inl rfl) fun cdv A outer s H E hr => (dss_cons (ds_if (dt_cmp op_gt od_gt (de_ix ix_seq od_ix (de_own 0 (pv 0)) de_int (fun _ _ => rfl)) de_int (nomark _)) (dss_cons (ds_set 2 sc__law_next.nd rfl (by first | exact .inl rfl | exact .inr rfl) (de_bin op_mod od_mod (de_callTy call_int1 ca_int (by rfl) z_int bt_int (da_cons (de_ix ix_seq od_ix (de_own 0 (pv 0)) de_int (fun _ _ => rfl)) da_nil)) (de_var 1 (pv 1)))) (dss_cons (ds_setix 0 (de_bin op_fdivW od_div (de_ix ix_seq od_ix (de_own 0 (pv 0)) de_int (fun _ _ => rfl)) (de_var 1 (pv 1))) (pv 0) de_int) (dss_one (ds_ret (de_var 2 (pv 2)))))) dss_nil) (dss_cons (ds_if (dt_cmp op_lt od_lt (de_ix ix_seq od_ix (de_own 0 (pv 0)) de_int (fun _ _ => rfl)) (de_callB call_len ca_len (by rfl) z_len bt_len (da_cons (de_ix ix_seq od_ix (de_own 0 (pv 0)) de_int (fun _ _ => rfl)) da_nil)) (nomark _)) (dss_kill [3] (dss_cons (ds_set 3 sc__law_next.nd rfl (by first | exact .inl rfl | exact .inr rfl) (de_callB call_abs ca_abs (by rfl) z_abs bt_abs (da_cons (de_ix ix_seq od_ix (de_ix ix_seq od_ix (de_own 0 (pv 0)) de_int (fun _ _ => rfl)) (de_ix ix_seq od_ix (de_own 0 (pv 0)) de_int (fun _ _ => rfl)) (fun _ _ => rfl)) da_nil))) (dss_cons (ds_setix 0 (de_bin op_addD od_add (de_ix ix_seq od_ix (de_own 0 (pv 0)) de_int (fun _ _ => rfl)) de_int) (pv 0) de_int) (dss_cons (ds_if (dt_cmp op_ge od_ge (de_var 3 (pv 3)) (de_bin op_pow od_pow de_int de_int) (nomark _)) (dss_cons (ds_setix 0 (de_bin op_fdivW od_div (de_var 3 (pv 3)) (de_var 1 (pv 1))) (pv 0) de_int) (dss_one (ds_ret (de_bin op_mod od_mod (de_callTy call_int1 ca_int (by rfl) z_int bt_int (da_cons (de_var 3 (pv 3)) da_nil)) (de_var 1 (pv 1)))))) dss_nil) (dss_one (ds_setix 0 (de_bin op_mod od_mod (de_callTy call_int1 ca_int (by rfl) z_int bt_int (da_cons (de_bin op_addD od_add (de_bin op_addD od_add (de_bin op_mulD od_mul (de_ix ix_seq od_ix (de_own 0 (pv 0)) de_int (fun _ _ => rfl)) de_int) (de_var 3 (pv 3))) de_int) da_nil)) de_int) (pv 0) de_int)))))) (dss_one (ds_setix 0 (de_bin op_mod od_mod (de_callTy call_int1 ca_int (by rfl) z_int bt_int (da_cons (de_bin op_addD od_add (de_bin op_mulD od_mul (de_ix ix_seq od_ix (de_own 0 (pv 0)) de_int (fun _ _ => rfl)) de_int) de_int) da_nil)) de_int) (pv 0) de_int))) (dss_one (ds_ret (de_bin op_mod od_mod (de_bin op_fdivW od_div (de_callTy call_int1 ca_int (by rfl) z_int bt_int (da_cons (de_bin op_mod od_mod (de_bin op_mulD od_mul (de_ix ix_seq od_ix (de_own 0 (pv 0)) de_int (fun _ _ => rfl)) de_int) de_int) da_nil)) de_int) (de_var 1 (pv 1)))))))
def F__law_next : Fm := runF b__law_next 2 2
/-! ### _law_same(actual, due): slots 0 actual 1 due 2 k -/
abbrev s__law_same : Stmt := topS 16
theorem sc__law_same : FnScope ["actual", "due", "k"] ["actual", "due"] (defScope s__law_same) := ⟨rfl, rfl, rfl, by decide +kernel, rfl, by decide +kernel, by decide +kernel⟩
def e1__law_same (G__law_same : Fm) : Of := (oE (eF (oCall G__law_same (aCons (eBin dIx (eVar 0) (eVar 2)) (aCons (eBin dIx (eVar 1) (eVar 2)) aNil)))))
def b__law_same (G__law_same : Fm) : Sf := (sSeq (sIf (tB (eIsLT (eVar 1))) (sSeq (sIf (tOr' (tBl (eBin dNe (eIsI .list (eVar 1)) (eIsI .list (eVar 0)))) (tBl (eBin dNe (eIsI .tuple (eVar 1)) (eIsI .tuple (eVar 0))))) (sRet (eC (.bl false))) sNil) (sSeq (sIf (tBl (eBin dNe (eCa (f1 lenD) (aCons (eVar 0) aNil)) (eCa (f1 lenD) (aCons (eVar 1) aNil)))) (sRet (eC (.bl false))) sNil) (sRet (eCa (f1 allD) (aCons (eF (oLc [2] (TL.iRng1 (aCons (eCa (f1 lenD) (aCons (eVar 1) aNil)) aNil)) (gNm 2) tYesF (e1__law_same G__law_same))) aNil))))) sNil) (sSeq (sIf (tBl (eBin dIs (eVar 1) (eC .non))) (sRet (eBin dIs (eVar 0) (eC .non))) sNil) (sSeq (sIf (tBl (eBin dNe (eIsI .bool (eVar 1)) (eIsI .bool (eVar 0)))) (sRet (eC (.bl false))) sNil) (sSeq (sIf (tB (eIsI .str (eVar 1))) (sRet (eAnd (eIsI .str (eVar 0)) (eBin dEq (eVar 0) (eVar 1)))) sNil) (sRet (eAnd (eIsI .int (eVar 0)) (eBin dEq (eVar 0) (eVar 1))))))))
abbrev sg__law_same : Sg := ⟨[.sh, .sh], .sh⟩
abbrev ps__law_same : List Str := ["actual", "due"]
theorem c__law_same {P : Program} {w : World} {K : PySem.W.Frag} {mg : Str → Option Value} {base : Heap} {f : Addr} {fd : FuncData} {k : Nat} {G__law_same : Fm} (D : Dfn K mg "_law_same" s__law_same ps__law_same f fd) {f__law_same : Addr} {fd__law_same : FuncData} (c__law_same : Cal P w K mg base f__law_same fd__law_same "_law_same" k ps__law_same sg__law_same G__law_same) (z_isinstance : mg "isinstance" = none) (z_list : mg "list" = none) (z_tuple : mg "tuple" = none) (z_len : mg "len" = none) (z_range : mg "range" = none) (z_all : mg "all" = none) (z_bool : mg "bool" = none) (z_str : mg "str" = none) (z_int : mg "int" = none) :
    Cal P w K mg base f fd "_law_same" (k + 1) ps__law_same sg__law_same (runF (b__law_same G__law_same) 2 1) := by
  unfold b__law_same e1__law_same
  exact cal_ok (sg := sg__law_same) (τ' := [.no, .no, .no]) D sc__law_same ⟨[], .sh, [.no, .no, .no], [], []⟩ 1 rfl rfl rfl rfl rfl rfl (.inl rfl) fun cdv A outer s H E hr => (dss_cons (ds_if (dt_truth (de_isLT (by rfl) z_isinstance bt_isinstance (by rfl) z_list bt_list (by rfl) z_tuple bt_tuple (de_var 1 (pv 1)))) (dss_cons (ds_if (dt_w (dw_or (dt_cmp (op_neD (hu64 hr)) od_ne (de_isI .list (by rfl) z_isinstance bt_isinstance (by rfl) z_list bt_list (de_var 1 (pv 1))) (de_isI .list (by rfl) z_isinstance bt_isinstance (by rfl) z_list bt_list (de_var 0 (pv 0))) (nomark _)) (dw_or1 (dt_cmp (op_neD (hu64 hr)) od_ne (de_isI .tuple (by rfl) z_isinstance bt_isinstance (by rfl) z_tuple bt_tuple (de_var 1 (pv 1))) (de_isI .tuple (by rfl) z_isinstance bt_isinstance (by rfl) z_tuple bt_tuple (de_var 0 (pv 0))) (nomark _))))) (dss_one (ds_ret de_bl)) dss_nil) (dss_cons (ds_if (dt_cmp (op_neD (hu64 hr)) od_ne (de_callB call_len ca_len (by rfl) z_len bt_len (da_cons (de_var 0 (pv 0)) da_nil)) (de_callB call_len ca_len (by rfl) z_len bt_len (da_cons (de_var 1 (pv 1)) da_nil)) (nomark _)) (dss_one (ds_ret de_bl)) dss_nil) (dss_one (ds_ret (de_callB (cr_all rfl) ca_all (by rfl) z_all bt_all (da_cons (de_F (do_lc (own := [("k", 2)]) rfl sc__law_same.nd (di_range1 (by rfl) z_range (da_cons (de_callB call_len ca_len (by rfl) z_len bt_len (da_cons (de_var 1 (pv 1)) da_nil)) da_nil)) (blkOk_by (by kernel_rfl)) (fun _ _ _ _ _ => (dg_name 2 sc__law_same.nd rfl (by first | exact .inl rfl | exact .inr rfl))) (fun _ _ _ _ _ => dts_nil) (fun _ _ _ _ _ => (do_E (de_F (do_fn c__law_same hr 2 (by rfl) (da_cons (de_ix ix_seq od_ix (de_var 0 (pv 0)) (de_var 2 (pv 2)) (fun _ _ => rfl)) (da_cons (de_ix ix_seq od_ix (de_var 1 (pv 1)) (de_var 2 (pv 2)) (fun _ _ => rfl)) da_nil)))))))) da_nil)))))) dss_nil) (dss_cons (ds_if (dt_cmp op_isD od_is (de_var 1 (pv 1)) de_non (nomark _)) (dss_one (ds_ret (de_cmp op_isD od_is (de_var 0 (pv 0)) de_non (nomark _)))) dss_nil) (dss_cons (ds_if (dt_cmp (op_neD (hu64 hr)) od_ne (de_isI .bool (by rfl) z_isinstance bt_isinstance (by rfl) z_bool bt_bool (de_var 1 (pv 1))) (de_isI .bool (by rfl) z_isinstance bt_isinstance (by rfl) z_bool bt_bool (de_var 0 (pv 0))) (nomark _)) (dss_one (ds_ret de_bl)) dss_nil) (dss_cons (ds_if (dt_truth (de_isI .str (by rfl) z_isinstance bt_isinstance (by rfl) z_str bt_str (de_var 1 (pv 1)))) (dss_one (ds_ret (de_and (de_isI .str (by rfl) z_isinstance bt_isinstance (by rfl) z_str bt_str (de_var 0 (pv 0))) (de_one (de_cmp (op_eqD (hu64 hr)) od_eq (de_var 0 (pv 0)) (de_var 1 (pv 1)) (nomark _)))))) dss_nil) (dss_one (ds_ret (de_and (de_isI .int (by rfl) z_isinstance bt_isinstance (by rfl) z_int bt_int (de_var 0 (pv 0))) (de_one (de_cmp (op_eqD (hu64 hr)) od_eq (de_var 0 (pv 0)) (de_var 1 (pv 1)) (nomark _))))))))))
def R__law_same : Nat → Fm
  | 0 => fun _ => none
  | r + 1 => runF (b__law_same (R__law_same r)) 2 1
def F__law_same : Fm := R__law_same 8
/-! ### _law_marks(draw, speed, many): slots 0 draw 1 speed 2 many 3 k 4 mixed 5 mark 6 found 7 x 8 y 9 time 10 turns 11 moved 12 at 13 near -/
abbrev s__law_marks : Stmt := topS 17
theorem sc__law_marks : FnScope ["draw", "speed", "many", "k", "mixed", "mark", "found", "x", "y", "time", "turns", "moved", "at", "near"] ["draw", "speed", "many"] (defScope s__law_marks) := ⟨rfl, rfl, rfl, by decide +kernel, rfl, by decide +kernel, by decide +kernel⟩
def q1__law_marks : Sf := (sSeq (sAsg (eF (oCallI F__law_next 0 0 (aCons (eOwn 0) (aCons (eC (.int 4)) aNil)))) (gNm 10)) (sSeq (sAsg (eBin dSub (eBin dAdd (eVar 7) (eF (oCallI F__law_next 0 0 (aCons (eOwn 0) (aCons (eBin dAdd (eBin dMul (eBin dMul (eC (.int 2)) (eVar 1)) (eVar 10)) (eC (.int 1))) aNil))))) (eBin dMul (eVar 1) (eVar 10))) (gNm 7)) (sSeq (sAsg (eBin dSub (eBin dAdd (eVar 8) (eF (oCallI F__law_next 0 0 (aCons (eOwn 0) (aCons (eBin dAdd (eBin dMul (eBin dMul (eC (.int 2)) (eVar 1)) (eVar 10)) (eC (.int 1))) aNil))))) (eBin dMul (eVar 1) (eVar 10))) (gNm 8)) (sSeq (sPar 9 13 (lCons (oE (eBin dAdd (eVar 9) (eVar 10))) (lCons (oE (eF (oCallI F__law_next 0 0 (aCons (eOwn 0) (aCons (eC (.int 4)) aNil))))) lNil))) (sSeq (sAsg (eBin dEq (eF (oCallI F__law_next 0 0 (aCons (eOwn 0) (aCons (eC (.int 10)) aNil)))) (eC (.int 0))) (gNm 11)) (sApp 6 (eTup (aCons (eVar 9) (aCons (eBin dAdd (eBin dAdd (eVar 7) (eF (oCallI F__law_next 0 0 (aCons (eOwn 0) (aCons (eBin dAdd (eVar 13) (eC (.int 1))) aNil))))) (eIf (tB (eVar 11)) (eC (.int 5)) (eC (.int 0)))) (aCons (eBin dSub (eVar 8) (eF (oCallI F__law_next 0 0 (aCons (eOwn 0) (aCons (eBin dAdd (eVar 13) (eC (.int 1))) aNil))))) (aCons (eVar 13) aNil)))))))))))
def q2__law_marks : Sf := (sSeq (sAsg (eF (oCallI F__law_next 0 0 (aCons (eOwn 0) (aCons (eBin dAdd (eCa (f1 lenD) (aCons (eVar 4) aNil)) (eC (.int 1))) aNil)))) (gNm 12)) (sAsg (eBin dAdd (eBin dAdd (eSl dSl (eVar 4) pNo (pSome (eVar 12))) (eF (oLst (aCons (eVar 5) aNil)))) (eSl dSl (eVar 4) (pSome (eVar 12)) pNo)) (gNm 4)))
def b__law_marks : Sf := (sSeq (sUnp [6, 7, 8, 9] (lCons (oLst aNil) (lCons (oE (eBin dSub (eF (oCallI F__law_next 0 0 (aCons (eOwn 0) (aCons (eC (.int 9)) aNil)))) (eC (.int 4)))) (lCons (oE (eBin dSub (eF (oCallI F__law_next 0 0 (aCons (eOwn 0) (aCons (eC (.int 9)) aNil)))) (eC (.int 4)))) (lCons (oE (eF (oCallI F__law_next 0 0 (aCons (eOwn 0) (aCons (eC (.int 3)) aNil))))) lNil))))) (sSeq (sFor [3, 10, 11, 13] (TL.iRng1 (aCons (eVar 2) aNil)) (gNm 3) q1__law_marks) (sSeq (sAsg (eF (oLst aNil)) (gNm 4)) (sSeq (sFor [5, 12] (iSeq (eVar 6)) (gNm 5) q2__law_marks) (sRet (eCa (f1 tupleD) (aCons (eVar 4) aNil)))))))
abbrev sg__law_marks : Sg := ⟨[(.oL .sh), .sh, .sh], .sh⟩
abbrev ps__law_marks : List Str := ["draw", "speed", "many"]
theorem c__law_marks {P : Program} {w : World} {K : PySem.W.Frag} {mg : Str → Option Value} {base : Heap} {f : Addr} {fd : FuncData} {k : Nat} (D : Dfn K mg "_law_marks" s__law_marks ps__law_marks f fd) {f__law_next : Addr} {fd__law_next : FuncData} (c__law_next : Cal P w K mg base f__law_next fd__law_next "_law_next" k ps__law_next sg__law_next F__law_next) (z_range : mg "range" = none) (z_len : mg "len" = none) (z_tuple : mg "tuple" = none) :
    Cal P w K mg base f fd "_law_marks" (k + 1) ps__law_marks sg__law_marks (runF (b__law_marks) 3 11) := by
  unfold b__law_marks q2__law_marks q1__law_marks
  exact cal_ok (sg := sg__law_marks) (τ' := [(.oL .sh), .no, .no, .no, .no, .no, .no, .no, .no, .no, .no, .no, .no, .no]) D sc__law_marks ⟨[0], .sh, [(.oL .sh), .no, .no, .no, .no, .no, .no, .no, .no, .no, .no, .no, .no, .no], [], []⟩ 11 rfl rfl rfl rfl rfl rfl (.inl rfl) fun cdv A outer s H E hr => (dss_cons (ds_unp [6, 7, 8, 9] rfl (dl_cons (do_lst da_nil) (dl_cons (do_E (de_bin op_sub od_sub (de_F (do_fnI c__law_next hr 0 0 2 (by rfl) (dai_io 0 (pv 0) (dai_cons de_int dai_nil)))) de_int)) (dl_cons (do_E (de_bin op_sub od_sub (de_F (do_fnI c__law_next hr 0 0 2 (by rfl) (dai_io 0 (pv 0) (dai_cons de_int dai_nil)))) de_int)) (dl_cons (do_E (de_F (do_fnI c__law_next hr 0 0 2 (by rfl) (dai_io 0 (pv 0) (dai_cons de_int dai_nil))))) dl_nil)))) (pgn_cons 6 sc__law_marks.nd rfl (by first | exact .inl rfl | exact .inr rfl) (pgn_cons 7 sc__law_marks.nd rfl (by first | exact .inl rfl | exact .inr rfl) (pgn_cons 8 sc__law_marks.nd rfl (by first | exact .inl rfl | exact .inr rfl) (pgn_cons 9 sc__law_marks.nd rfl (by first | exact .inl rfl | exact .inr rfl) pgn_nil))))) (dss_cons (ds_for (tbk := [(.oL .sh), .sh, .sh, .no, .no, .no, (.oL .sh), .sh, .sh, .sh, .no, .no, .no, .no]) (tct := [(.oL .sh), .sh, .sh, .no, .no, .no, (.oL .sh), .sh, .sh, .sh, .no, .no, .no, .no]) [3, 10, 11, 13] PassesOwn.never rfl (di_range1 (by rfl) z_range (da_cons (de_var 2 (pv 2)) da_nil)) (dg_name 3 sc__law_marks.nd rfl (by first | exact .inl rfl | exact .inr rfl)) (dss_cons (ds_set 10 sc__law_marks.nd rfl (by first | exact .inl rfl | exact .inr rfl) (de_F (do_fnI c__law_next hr 0 0 2 (by rfl) (dai_io 0 (pv 0) (dai_cons de_int dai_nil))))) (dss_cons (ds_set 7 sc__law_marks.nd rfl (by first | exact .inl rfl | exact .inr rfl) (de_bin op_sub od_sub (de_bin op_addD od_add (de_var 7 (pv 7)) (de_F (do_fnI c__law_next hr 0 0 2 (by rfl) (dai_io 0 (pv 0) (dai_cons (de_bin op_addD od_add (de_bin op_mulD od_mul (de_bin op_mulD od_mul de_int (de_var 1 (pv 1))) (de_var 10 (pv 10))) de_int) dai_nil))))) (de_bin op_mulD od_mul (de_var 1 (pv 1)) (de_var 10 (pv 10))))) (dss_cons (ds_set 8 sc__law_marks.nd rfl (by first | exact .inl rfl | exact .inr rfl) (de_bin op_sub od_sub (de_bin op_addD od_add (de_var 8 (pv 8)) (de_F (do_fnI c__law_next hr 0 0 2 (by rfl) (dai_io 0 (pv 0) (dai_cons (de_bin op_addD od_add (de_bin op_mulD od_mul (de_bin op_mulD od_mul de_int (de_var 1 (pv 1))) (de_var 10 (pv 10))) de_int) dai_nil))))) (de_bin op_mulD od_mul (de_var 1 (pv 1)) (de_var 10 (pv 10))))) (dss_cons (ds_par 9 13 rfl sc__law_marks.nd rfl rfl rfl rfl (dl_cons (do_E (de_bin op_addD od_add (de_var 9 (pv 9)) (de_var 10 (pv 10)))) (dl_cons (do_E (de_F (do_fnI c__law_next hr 0 0 2 (by rfl) (dai_io 0 (pv 0) (dai_cons de_int dai_nil))))) dl_nil)) rfl) (dss_cons (ds_set 11 sc__law_marks.nd rfl (by first | exact .inl rfl | exact .inr rfl) (de_cmp (op_eqD (hu64 hr)) od_eq (de_F (do_fnI c__law_next hr 0 0 2 (by rfl) (dai_io 0 (pv 0) (dai_cons de_int dai_nil)))) de_int (nomark _))) (dss_one (ds_app 6 (pv 6) (de_tup (da_cons (de_var 9 (pv 9)) (da_cons (de_bin op_addD od_add (de_bin op_addD od_add (de_var 7 (pv 7)) (de_F (do_fnI c__law_next hr 0 0 2 (by rfl) (dai_io 0 (pv 0) (dai_cons (de_bin op_addD od_add (de_var 13 (pv 13)) de_int) dai_nil))))) (de_if (dt_truth (de_var 11 (pv 11))) de_int de_int)) (da_cons (de_bin op_sub od_sub (de_var 8 (pv 8)) (de_F (do_fnI c__law_next hr 0 0 2 (by rfl) (dai_io 0 (pv 0) (dai_cons (de_bin op_addD od_add (de_var 13 (pv 13)) de_int) dai_nil))))) (da_cons (de_var 13 (pv 13)) da_nil))))))))))))) (dss_cons (ds_set 4 sc__law_marks.nd rfl (by first | exact .inl rfl | exact .inr rfl) (de_F (do_lst da_nil))) (dss_frz 6 (dss_cons (ds_for (tbk := [(.oL .sh), .sh, .sh, .no, .sh, .no, .sh, .sh, .sh, .sh, .no, .no, .no, .no]) (tct := [(.oL .sh), .sh, .sh, .no, .sh, .no, .sh, .sh, .sh, .sh, .no, .no, .no, .no]) [5, 12] PassesOwn.never rfl (di_seq (de_var 6 (pv 6))) (dg_name 5 sc__law_marks.nd rfl (by first | exact .inl rfl | exact .inr rfl)) (dss_cons (ds_set 12 sc__law_marks.nd rfl (by first | exact .inl rfl | exact .inr rfl) (de_F (do_fnI c__law_next hr 0 0 2 (by rfl) (dai_io 0 (pv 0) (dai_cons (de_bin op_addD od_add (de_callB call_len ca_len (by rfl) z_len bt_len (da_cons (de_var 4 (pv 4)) da_nil)) de_int) dai_nil))))) (dss_one (ds_set 4 sc__law_marks.nd rfl (by first | exact .inl rfl | exact .inr rfl) (de_bin op_addD od_add (de_bin op_addD od_add (de_slice sl_D sd_sl (de_var 4 (pv 4)) dp_no (dp_some (de_var 12 (pv 12)))) (de_F (do_lst (da_cons (de_var 5 (pv 5)) da_nil)))) (de_slice sl_D sd_sl (de_var 4 (pv 4)) (dp_some (de_var 12 (pv 12))) dp_no)))))) (dss_one (ds_ret (de_callTy call_tuple_of ca_tuple (by rfl) z_tuple bt_tuple (da_cons (de_var 4 (pv 4)) da_nil)))))))))
def F__law_marks : Fm := runF b__law_marks 3 11
/-! ### _law_is_barred(speed, one, other): slots 0 speed 1 one 2 other 3 far -/
abbrev s__law_is_barred : Stmt := topS 18
theorem sc__law_is_barred : FnScope ["speed", "one", "other", "far"] ["speed", "one", "other"] (defScope s__law_is_barred) := ⟨rfl, rfl, rfl, by decide +kernel, rfl, by decide +kernel, by decide +kernel⟩
def b__law_is_barred : Sf := (sSeq (sAsg (eCa (f2 max2D) (aCons (eCa (f1 absD) (aCons (eBin dSub (eBin dIx (eVar 1) (eC (.int 1))) (eBin dIx (eVar 2) (eC (.int 1)))) aNil)) (aCons (eCa (f1 absD) (aCons (eBin dSub (eBin dIx (eVar 1) (eC (.int 2))) (eBin dIx (eVar 2) (eC (.int 2)))) aNil)) aNil))) (gNm 3)) (sRet (eBin dGt (eVar 3) (eBin dAdd (eBin dAdd (eBin dIx (eVar 1) (eC (.int 3))) (eBin dIx (eVar 2) (eC (.int 3)))) (eBin dMul (eVar 0) (eCa (f1 absD) (aCons (eBin dSub (eBin dIx (eVar 1) (eC (.int 0))) (eBin dIx (eVar 2) (eC (.int 0)))) aNil)))))))
abbrev sg__law_is_barred : Sg := ⟨[.sh, .sh, .sh], .sh⟩
abbrev ps__law_is_barred : List Str := ["speed", "one", "other"]
theorem c__law_is_barred {P : Program} {w : World} {K : PySem.W.Frag} {mg : Str → Option Value} {base : Heap} {f : Addr} {fd : FuncData} {k : Nat} (D : Dfn K mg "_law_is_barred" s__law_is_barred ps__law_is_barred f fd) (z_abs : mg "abs" = none) (z_max : mg "max" = none) :
    Cal P w K mg base f fd "_law_is_barred" (k + 1) ps__law_is_barred sg__law_is_barred (runF (b__law_is_barred) 3 1) := by
  unfold b__law_is_barred 
  exact cal_ok (sg := sg__law_is_barred) (τ' := [.no, .no, .no, .no]) D sc__law_is_barred ⟨[], .sh, [.no, .no, .no, .no], [], []⟩ 1 rfl rfl rfl rfl rfl rfl (.inl rfl) fun cdv A outer s H E hr => (dss_cons (ds_set 3 sc__law_is_barred.nd rfl (by first | exact .inl rfl | exact .inr rfl) (de_callB (call_max2 rfl) ca_max2 (by rfl) z_max bt_max (da_cons (de_callB call_abs ca_abs (by rfl) z_abs bt_abs (da_cons (de_bin op_sub od_sub (de_ix ix_seq od_ix (de_var 1 (pv 1)) de_int (fun _ _ => rfl)) (de_ix ix_seq od_ix (de_var 2 (pv 2)) de_int (fun _ _ => rfl))) da_nil)) (da_cons (de_callB call_abs ca_abs (by rfl) z_abs bt_abs (da_cons (de_bin op_sub od_sub (de_ix ix_seq od_ix (de_var 1 (pv 1)) de_int (fun _ _ => rfl)) (de_ix ix_seq od_ix (de_var 2 (pv 2)) de_int (fun _ _ => rfl))) da_nil)) da_nil)))) (dss_one (ds_ret (de_cmp op_gt od_gt (de_var 3 (pv 3)) (de_bin op_addD od_add (de_bin op_addD od_add (de_ix ix_seq od_ix (de_var 1 (pv 1)) de_int (fun _ _ => rfl)) (de_ix ix_seq od_ix (de_var 2 (pv 2)) de_int (fun _ _ => rfl))) (de_bin op_mulD od_mul (de_var 0 (pv 0)) (de_callB call_abs ca_abs (by rfl) z_abs bt_abs (da_cons (de_bin op_sub od_sub (de_ix ix_seq od_ix (de_var 1 (pv 1)) de_int (fun _ _ => rfl)) (de_ix ix_seq od_ix (de_var 2 (pv 2)) de_int (fun _ _ => rfl))) da_nil)))) (nomark _)))))
def F__law_is_barred : Fm := runF b__law_is_barred 3 1
/-! ### _law_bars(speed, marks): slots 0 speed 1 marks 2 pairs 3 k 4 j -/
abbrev s__law_bars : Stmt := topS 19
theorem sc__law_bars : FnScope ["speed", "marks", "pairs", "k", "j"] ["speed", "marks"] (defScope s__law_bars) := ⟨rfl, rfl, rfl, by decide +kernel, rfl, by decide +kernel, by decide +kernel⟩
def t1__law_bars : Tf := (tB (eF (oCall F__law_is_barred (aCons (eVar 0) (aCons (eBin dIx (eVar 1) (eVar 3)) (aCons (eBin dIx (eVar 1) (eVar 4)) aNil))))))
def e2__law_bars : Of := (oE (eTup (aCons (eVar 3) (aCons (eVar 4) aNil))))
def q3__law_bars : Sf := (sAsg (eBin dAdd (eVar 2) (eF (oLc [4] (TL.iRng2 (aCons (eBin dAdd (eVar 3) (eC (.int 1))) (aCons (eCa (f1 lenD) (aCons (eVar 1) aNil)) aNil))) (gNm 4) t1__law_bars e2__law_bars))) (gNm 2))
def b__law_bars : Sf := (sSeq (sAsg (eF (oLst aNil)) (gNm 2)) (sSeq (sFor [3] (TL.iRng1 (aCons (eCa (f1 lenD) (aCons (eVar 1) aNil)) aNil)) (gNm 3) q3__law_bars) (sRet (eVar 2))))
abbrev sg__law_bars : Sg := ⟨[.sh, .sh], .sh⟩
abbrev ps__law_bars : List Str := ["speed", "marks"]
theorem c__law_bars {P : Program} {w : World} {K : PySem.W.Frag} {mg : Str → Option Value} {base : Heap} {f : Addr} {fd : FuncData} {k : Nat} (D : Dfn K mg "_law_bars" s__law_bars ps__law_bars f fd) {f__law_is_barred : Addr} {fd__law_is_barred : FuncData} (c__law_is_barred : Cal P w K mg base f__law_is_barred fd__law_is_barred "_law_is_barred" k ps__law_is_barred sg__law_is_barred F__law_is_barred) (z_len : mg "len" = none) (z_range : mg "range" = none) :
    Cal P w K mg base f fd "_law_bars" (k + 1) ps__law_bars sg__law_bars (runF (b__law_bars) 2 3) := by
  unfold b__law_bars q3__law_bars e2__law_bars t1__law_bars
  exact cal_ok (sg := sg__law_bars) (τ' := [.no, .no, .no, .no, .no]) D sc__law_bars ⟨[], .sh, [.no, .no, .no, .no, .no], [], []⟩ 3 rfl rfl rfl rfl rfl rfl (.inl rfl) fun cdv A outer s H E hr => (dss_cons (ds_set 2 sc__law_bars.nd rfl (by first | exact .inl rfl | exact .inr rfl) (de_F (do_lst da_nil))) (dss_cons (ds_for (tbk := [.sh, .sh, .sh, .no, .no]) (tct := [.sh, .sh, .sh, .no, .no]) [3] PassesOwn.never rfl (di_range1 (by rfl) z_range (da_cons (de_callB call_len ca_len (by rfl) z_len bt_len (da_cons (de_var 1 (pv 1)) da_nil)) da_nil)) (dg_name 3 sc__law_bars.nd rfl (by first | exact .inl rfl | exact .inr rfl)) (dss_one (ds_set 2 sc__law_bars.nd rfl (by first | exact .inl rfl | exact .inr rfl) (de_bin op_addD od_add (de_var 2 (pv 2)) (de_F (do_lc (own := [("j", 4)]) rfl sc__law_bars.nd (di_range2 (by rfl) z_range (da_cons (de_bin op_addD od_add (de_var 3 (pv 3)) de_int) (da_cons (de_callB call_len ca_len (by rfl) z_len bt_len (da_cons (de_var 1 (pv 1)) da_nil)) da_nil))) (blkOk_by (by kernel_rfl)) (fun _ _ _ _ _ => (dg_name 4 sc__law_bars.nd rfl (by first | exact .inl rfl | exact .inr rfl))) (fun _ _ _ _ _ => (dts_one (dt_truth (de_F (do_fn c__law_is_barred hr 3 (by rfl) (da_cons (de_var 0 (pv 0)) (da_cons (de_ix ix_seq od_ix (de_var 1 (pv 1)) (de_var 3 (pv 3)) (fun _ _ => rfl)) (da_cons (de_ix ix_seq od_ix (de_var 1 (pv 1)) (de_var 4 (pv 4)) (fun _ _ => rfl)) da_nil)))))))) (fun _ _ _ _ _ => (do_E (de_tup (da_cons (de_var 3 (pv 3)) (da_cons (de_var 4 (pv 4)) da_nil))))))))))) (dss_one (ds_ret (de_var 2 (pv 2))))))
def F__law_bars : Fm := runF b__law_bars 2 3
/-! ### _law_box(speed, marks, time): slots 0 speed 1 marks 2 time 3 lows 4 highs 5 k 6 mark -/
abbrev s__law_box : Stmt := topS 20
theorem sc__law_box : FnScope ["speed", "marks", "time", "lows", "highs", "k", "mark"] ["speed", "marks", "time"] (defScope s__law_box) := ⟨rfl, rfl, rfl, by decide +kernel, rfl, by decide +kernel, by decide +kernel⟩
def e1__law_box : Of := (oE (eBin dSub (eBin dSub (eBin dIx (eVar 6) (eVar 5)) (eBin dIx (eVar 6) (eC (.int 3)))) (eBin dMul (eVar 0) (eCa (f1 absD) (aCons (eBin dSub (eVar 2) (eBin dIx (eVar 6) (eC (.int 0)))) aNil)))))
def e2__law_box : Of := (oE (eF (oLc [6] (iSeq (eVar 1)) (gNm 6) tYesF e1__law_box)))
def e3__law_box : Of := (oE (eBin dAdd (eBin dAdd (eBin dIx (eVar 6) (eVar 5)) (eBin dIx (eVar 6) (eC (.int 3)))) (eBin dMul (eVar 0) (eCa (f1 absD) (aCons (eBin dSub (eVar 2) (eBin dIx (eVar 6) (eC (.int 0)))) aNil)))))
def e4__law_box : Of := (oE (eF (oLc [6] (iSeq (eVar 1)) (gNm 6) tYesF e3__law_box)))
def b__law_box : Sf := (sSeq (sSetO 3 (oLc [5] (iSeq (eTup (aCons (eC (.int 1)) (aCons (eC (.int 2)) aNil)))) (gNm 5) tYesF e2__law_box)) (sSeq (sSetO 4 (oLc [5] (iSeq (eTup (aCons (eC (.int 1)) (aCons (eC (.int 2)) aNil)))) (gNm 5) tYesF e4__law_box)) (sRet (eTup (aCons (eCa (f1 maxD) (aCons (eBin dIx (eVar 3) (eC (.int 0))) aNil)) (aCons (eCa (f1 minD) (aCons (eBin dIx (eVar 4) (eC (.int 0))) aNil)) (aCons (eCa (f1 maxD) (aCons (eBin dIx (eVar 3) (eC (.int 1))) aNil)) (aCons (eCa (f1 minD) (aCons (eBin dIx (eVar 4) (eC (.int 1))) aNil)) aNil))))))))
abbrev sg__law_box : Sg := ⟨[.sh, .sh, .sh], .sh⟩
abbrev ps__law_box : List Str := ["speed", "marks", "time"]
theorem c__law_box {P : Program} {w : World} {K : PySem.W.Frag} {mg : Str → Option Value} {base : Heap} {f : Addr} {fd : FuncData} {k : Nat} (D : Dfn K mg "_law_box" s__law_box ps__law_box f fd) (z_abs : mg "abs" = none) (z_max : mg "max" = none) (z_min : mg "min" = none) :
    Cal P w K mg base f fd "_law_box" (k + 1) ps__law_box sg__law_box (runF (b__law_box) 3 4) := by
  unfold b__law_box e4__law_box e3__law_box e2__law_box e1__law_box
  exact cal_ok (sg := sg__law_box) (τ' := [.no, .no, .no, .no, .no, .no, .no]) D sc__law_box ⟨[], .sh, [.no, .no, .no, .no, .no, .no, .no], [], []⟩ 4 rfl rfl rfl rfl rfl rfl (.inl rfl) fun cdv A outer s H E hr => (dss_cons (ds_frzA 3 (by first | exact (ds_setLc (own := [("k", 5)]) 3 rfl sc__law_box.nd rfl rfl rfl (di_seq (de_tup (da_cons de_int (da_cons de_int da_nil)))) (blkOk_by (by kernel_rfl)) (fun _ _ _ _ _ => (dg_name 5 sc__law_box.nd rfl (by first | exact .inl rfl | exact .inr rfl))) (fun _ _ _ _ _ => dts_nil) (fun _ _ _ _ _ => (do_E (de_F (do_lc (own := [("mark", 6)]) rfl sc__law_box.nd (di_seq (de_var 1 (pv 1))) (blkOk_by (by kernel_rfl)) (fun _ _ _ _ _ => (dg_name 6 sc__law_box.nd rfl (by first | exact .inl rfl | exact .inr rfl))) (fun _ _ _ _ _ => dts_nil) (fun _ _ _ _ _ => (do_E (de_bin op_sub od_sub (de_bin op_sub od_sub (de_ix ix_seq od_ix (de_var 6 (pv 6)) (de_var 5 (pv 5)) (fun _ _ => rfl)) (de_ix ix_seq od_ix (de_var 6 (pv 6)) de_int (fun _ _ => rfl))) (de_bin op_mulD od_mul (de_var 0 (pv 0)) (de_callB call_abs ca_abs (by rfl) z_abs bt_abs (da_cons (de_bin op_sub od_sub (de_var 2 (pv 2)) (de_ix ix_seq od_ix (de_var 6 (pv 6)) de_int (fun _ _ => rfl))) da_nil))))))))))) | exact (ds_setO 3 sc__law_box.nd rfl (by first | exact .inl rfl | exact .inr rfl) (do_lc (own := [("k", 5)]) rfl sc__law_box.nd (di_seq (de_tup (da_cons de_int (da_cons de_int da_nil)))) (blkOk_by (by kernel_rfl)) (fun _ _ _ _ _ => (dg_name 5 sc__law_box.nd rfl (by first | exact .inl rfl | exact .inr rfl))) (fun _ _ _ _ _ => dts_nil) (fun _ _ _ _ _ => (do_E (de_F (do_lc (own := [("mark", 6)]) rfl sc__law_box.nd (di_seq (de_var 1 (pv 1))) (blkOk_by (by kernel_rfl)) (fun _ _ _ _ _ => (dg_name 6 sc__law_box.nd rfl (by first | exact .inl rfl | exact .inr rfl))) (fun _ _ _ _ _ => dts_nil) (fun _ _ _ _ _ => (do_E (de_bin op_sub od_sub (de_bin op_sub od_sub (de_ix ix_seq od_ix (de_var 6 (pv 6)) (de_var 5 (pv 5)) (fun _ _ => rfl)) (de_ix ix_seq od_ix (de_var 6 (pv 6)) de_int (fun _ _ => rfl))) (de_bin op_mulD od_mul (de_var 0 (pv 0)) (de_callB call_abs ca_abs (by rfl) z_abs bt_abs (da_cons (de_bin op_sub od_sub (de_var 2 (pv 2)) (de_ix ix_seq od_ix (de_var 6 (pv 6)) de_int (fun _ _ => rfl))) da_nil)))))))))))))) (dss_cons (ds_frzA 4 (by first | exact (ds_setLc (own := [("k", 5)]) 4 rfl sc__law_box.nd rfl rfl rfl (di_seq (de_tup (da_cons de_int (da_cons de_int da_nil)))) (blkOk_by (by kernel_rfl)) (fun _ _ _ _ _ => (dg_name 5 sc__law_box.nd rfl (by first | exact .inl rfl | exact .inr rfl))) (fun _ _ _ _ _ => dts_nil) (fun _ _ _ _ _ => (do_E (de_F (do_lc (own := [("mark", 6)]) rfl sc__law_box.nd (di_seq (de_var 1 (pv 1))) (blkOk_by (by kernel_rfl)) (fun _ _ _ _ _ => (dg_name 6 sc__law_box.nd rfl (by first | exact .inl rfl | exact .inr rfl))) (fun _ _ _ _ _ => dts_nil) (fun _ _ _ _ _ => (do_E (de_bin op_addD od_add (de_bin op_addD od_add (de_ix ix_seq od_ix (de_var 6 (pv 6)) (de_var 5 (pv 5)) (fun _ _ => rfl)) (de_ix ix_seq od_ix (de_var 6 (pv 6)) de_int (fun _ _ => rfl))) (de_bin op_mulD od_mul (de_var 0 (pv 0)) (de_callB call_abs ca_abs (by rfl) z_abs bt_abs (da_cons (de_bin op_sub od_sub (de_var 2 (pv 2)) (de_ix ix_seq od_ix (de_var 6 (pv 6)) de_int (fun _ _ => rfl))) da_nil))))))))))) | exact (ds_setO 4 sc__law_box.nd rfl (by first | exact .inl rfl | exact .inr rfl) (do_lc (own := [("k", 5)]) rfl sc__law_box.nd (di_seq (de_tup (da_cons de_int (da_cons de_int da_nil)))) (blkOk_by (by kernel_rfl)) (fun _ _ _ _ _ => (dg_name 5 sc__law_box.nd rfl (by first | exact .inl rfl | exact .inr rfl))) (fun _ _ _ _ _ => dts_nil) (fun _ _ _ _ _ => (do_E (de_F (do_lc (own := [("mark", 6)]) rfl sc__law_box.nd (di_seq (de_var 1 (pv 1))) (blkOk_by (by kernel_rfl)) (fun _ _ _ _ _ => (dg_name 6 sc__law_box.nd rfl (by first | exact .inl rfl | exact .inr rfl))) (fun _ _ _ _ _ => dts_nil) (fun _ _ _ _ _ => (do_E (de_bin op_addD od_add (de_bin op_addD od_add (de_ix ix_seq od_ix (de_var 6 (pv 6)) (de_var 5 (pv 5)) (fun _ _ => rfl)) (de_ix ix_seq od_ix (de_var 6 (pv 6)) de_int (fun _ _ => rfl))) (de_bin op_mulD od_mul (de_var 0 (pv 0)) (de_callB call_abs ca_abs (by rfl) z_abs bt_abs (da_cons (de_bin op_sub od_sub (de_var 2 (pv 2)) (de_ix ix_seq od_ix (de_var 6 (pv 6)) de_int (fun _ _ => rfl))) da_nil)))))))))))))) (dss_one (ds_ret (de_tup (da_cons (de_callB (cr_max rfl) ca_max (by rfl) z_max bt_max (da_cons (de_ix ix_seq od_ix (de_var 3 (pv 3)) de_int (fun _ _ => rfl)) da_nil)) (da_cons (de_callB (cr_min rfl) ca_min (by rfl) z_min bt_min (da_cons (de_ix ix_seq od_ix (de_var 4 (pv 4)) de_int (fun _ _ => rfl)) da_nil)) (da_cons (de_callB (cr_max rfl) ca_max (by rfl) z_max bt_max (da_cons (de_ix ix_seq od_ix (de_var 3 (pv 3)) de_int (fun _ _ => rfl)) da_nil)) (da_cons (de_callB (cr_min rfl) ca_min (by rfl) z_min bt_min (da_cons (de_ix ix_seq od_ix (de_var 4 (pv 4)) de_int (fun _ _ => rfl)) da_nil)) da_nil)))))))))
def F__law_box : Fm := runF b__law_box 3 4
/-! ### law(script): slots 0 script 1 draw 2 speed 3 marks 4 pairs 5 least 6 told 7 time 8 idle 9 k 10 times 11 sets 12 good 13 some 14 first 15 last 16 others 17 one 18 x 19 y 20 low_x 21 high_x 22 low_y 23 high_y 24 near 25 mark -/
abbrev s_law : Stmt := topS 21
theorem sc_law : FnScope ["script", "draw", "speed", "marks", "pairs", "least", "told", "time", "idle", "k", "times", "sets", "good", "some", "first", "last", "others", "one", "x", "y", "low_x", "high_x", "low_y", "high_y", "near", "mark"] ["script"] (defScope s_law) := ⟨rfl, rfl, rfl, by decide +kernel, rfl, by decide +kernel, by decide +kernel⟩
def t1_law : Tf := (tBl (eBin dEq (eF (oCall F__law_bars (aCons (eVar 17) (aCons (eVar 3) aNil)))) (eF (oLst aNil))))
def e2_law : Of := (oE (eVar 17))
def q3_law : Sf := (sSeq (sAsg (eBin dIx (eVar 6) (eBin dSub (eVar 7) (eVar 14))) (gTp (gsCons (gNm 18) (gsCons (gNm 19) gsNil)))) (sSeq (sAsg (eF (oCall F__law_box (aCons (eVar 2) (aCons (eVar 3) (aCons (eVar 7) aNil))))) (gTp (gsCons (gNm 20) (gsCons (gNm 21) (gsCons (gNm 22) (gsCons (gNm 23) gsNil)))))) (sSeq (sIf (tOr' (tNot' (tB (eF (oCall F__law_same (aCons (eF (oCall F_box (aCons (eVar 2) (aCons (eVar 3) (aCons (eVar 7) aNil))))) (aCons (eTup (aCons (eVar 20) (aCons (eVar 21) (aCons (eVar 22) (aCons (eVar 23) aNil))))) aNil)))))) (tNot' (tAnd' (tBl (eChain dLe dLe (eVar 20) (eVar 18) (eVar 21))) (tBl (eChain dLe dLe (eVar 22) (eVar 19) (eVar 23)))))) (sRet (eC (.bl false))) sNil) (sIf (tAnd' (tBl (eBin dGt (eVar 7) (eVar 14))) (tBl (eBin dGt (eCa (f2 max2D) (aCons (eCa (f1 absD) (aCons (eBin dSub (eVar 18) (eBin dIx (eBin dIx (eVar 6) (eBin dSub (eBin dSub (eVar 7) (eVar 14)) (eC (.int 1)))) (eC (.int 0)))) aNil)) (aCons (eCa (f1 absD) (aCons (eBin dSub (eVar 19) (eBin dIx (eBin dIx (eVar 6) (eBin dSub (eBin dSub (eVar 7) (eVar 14)) (eC (.int 1)))) (eC (.int 1)))) aNil)) aNil))) (eVar 2)))) (sRet (eC (.bl false))) sNil))))
def q4_law : Sf := (sSeq (sAsg (eBin dAdd (eSl dSl (eVar 3) pNo (pSome (eVar 9))) (eSl dSl (eVar 3) (pSome (eBin dAdd (eVar 9) (eC (.int 1)))) pNo)) (gNm 16)) (sIf (tBl (eBin dNe (eVar 16) (eTup aNil))) (sKl [18, 19, 20, 21, 22, 23, 24] (sSeq (sAsg (eF (oCall F__law_box (aCons (eVar 2) (aCons (eVar 16) (aCons (eBin dIx (eBin dIx (eVar 3) (eVar 9)) (eC (.int 0))) aNil))))) (gTp (gsCons (gNm 20) (gsCons (gNm 21) (gsCons (gNm 22) (gsCons (gNm 23) gsNil)))))) (sSeq (sAsg (eSl dSl (eBin dIx (eVar 3) (eVar 9)) (pSome (eC (.int 1))) pNo) (gTp (gsCons (gNm 18) (gsCons (gNm 19) (gsCons (gNm 24) gsNil))))) (sIf (tAnd' (tBl (eBin dGe (eVar 20) (eBin dSub (eVar 18) (eVar 24)))) (tAnd' (tBl (eBin dLe (eVar 21) (eBin dAdd (eVar 18) (eVar 24)))) (tAnd' (tBl (eBin dGe (eVar 22) (eBin dSub (eVar 19) (eVar 24)))) (tBl (eBin dLe (eVar 23) (eBin dAdd (eVar 19) (eVar 24))))))) (sApp 8 (eVar 9)) sNil)))) sNil))
def e5_law : Of := (oE (eBin dIx (eVar 25) (eC (.int 0))))
def e6_law : Of := (oE (eBin dAdd (eVar 13) (eTup (aCons (eVar 9) aNil))))
def q7_law : Sf := (sAsg (eBin dAdd (eVar 11) (eF (oLc [13] (iSeq (eVar 11)) (gNm 13) tYesF e6_law))) (gNm 11))
def e8_law : Of := (oE (eBin dIx (eVar 3) (eVar 9)))
def e9_law : Of := (oE (eBin dEq (eF (oCall F__law_box (aCons (eVar 2) (aCons (eF (oLc [9] (iSeq (eVar 13)) (gNm 9) tYesF e8_law)) (aCons (eVar 7) aNil))))) (eF (oCall F__law_box (aCons (eVar 2) (aCons (eVar 3) (aCons (eVar 7) aNil)))))))
def q10_law : Sf := (sIf (tAnd' (tBl (eBin dNe (eVar 13) (eTup aNil))) (tB (eCa (f1 allD) (aCons (eF (oLc [7] (iSeq (eVar 10)) (gNm 7) tYesF e9_law)) aNil)))) (sApp 12 (eTup (aCons (eCa (f1 lenD) (aCons (eVar 13) aNil)) (aCons (eVar 13) aNil)))) sNil)
def p20_law : Sf := (sRet (eF (oCall F__law_same (aCons (eF (oCall F_least_marks (aCons (eVar 2) (aCons (eVar 3) aNil)))) (aCons (eBin dIx (eCa (f1 minLG) (aCons (eOwn 12) aNil)) (eC (.int 1))) aNil)))))
def p19_law : Sf := (sSeq (sFor [13] (iSeq (eVar 11)) (gNm 13) q10_law) p20_law)
def p18_law : Sf := (sSeq (sSetO 12 (oLst aNil)) p19_law)
def p17_law : Sf := (sSeq (sFor [9] (TL.iRng1 (aCons (eCa (f1 lenD) (aCons (eVar 3) aNil)) aNil)) (gNm 9) q7_law) p18_law)
def p16_law : Sf := (sSeq (sAsg (eF (oLst (aCons (eTup aNil) aNil))) (gNm 11)) p17_law)
def p15_law : Sf := (sSeq (sAsg (eF (oRg1 (aCons (eBin dAdd (eCa (f1 maxD) (aCons (eF (oLc [25] (iSeq (eVar 3)) (gNm 25) tYesF e5_law)) aNil)) (eC (.int 1))) aNil))) (gNm 10)) p16_law)
def p14_law : Sf := (sSeq (sIf (tNot' (tB (eF (oCallB .sh F__law_same (aCons (eF (oCall F_idle_marks (aCons (eVar 2) (aCons (eVar 3) aNil)))) (aCons (eOwn 8) aNil)))))) (sRet (eC (.bl false))) sNil) p15_law)
def p13_law : Sf := (sSeq (sFor [9, 16, 18, 19, 20, 21, 22, 23, 24] (TL.iRng1 (aCons (eCa (f1 lenD) (aCons (eVar 3) aNil)) aNil)) (gNm 9) q4_law) p14_law)
def p12_law : Sf := (sSeq (sSetO 8 (oLst aNil)) p13_law)
def p11_law : Sf := (sSeq (sFor [7, 18, 19, 20, 21, 22, 23] (TL.iRng2 (aCons (eVar 14) (aCons (eBin dAdd (eVar 15) (eC (.int 1))) aNil))) (gNm 7) q3_law) p12_law)
def p10_law : Sf := (sSeq (sIf (tOr' (tNot' (tB (eIsI .tuple (eVar 6)))) (tBl (eBin dNe (eCa (f1 lenD) (aCons (eVar 6) aNil)) (eCa (f2 max2D) (aCons (eC (.int 0)) (aCons (eBin dAdd (eBin dSub (eVar 15) (eVar 14)) (eC (.int 1))) aNil)))))) (sRet (eC (.bl false))) sNil) p11_law)
def p9_law : Sf := (sSeq (sAsg (eF (oCall F_track (aCons (eVar 2) (aCons (eVar 3) (aCons (eVar 14) (aCons (eVar 15) aNil)))))) (gNm 6)) p10_law)
def p8_law : Sf := (sSeq (sPar 14 15 (lCons (oE (eF (oCallI F__law_next 1 0 (aCons (eOwn 1) (aCons (eC (.int 5)) aNil))))) (lCons (oE (eF (oCallI F__law_next 1 0 (aCons (eOwn 1) (aCons (eC (.int 20)) aNil))))) lNil))) p9_law)
def p7_law : Sf := (sSeq (sIf (tBl (eBin dNe (eVar 4) (eF (oLst aNil)))) (sRet (eC (.bl true))) sNil) p8_law)
def p6_law : Sf := (sSeq (sIf (tNot' (tB (eF (oCall F__law_same (aCons (eF (oCall F_slowest (aCons (eVar 3) aNil))) (aCons (eIf (tB (eVar 5)) (eBin dIx (eVar 5) (eC (.int 0))) (eC .non)) aNil)))))) (sRet (eC (.bl false))) sNil) p7_law)
def p5_law : Sf := (sSeq (sSetO 5 (oLc [17] (TL.iRng1 (aCons (eC (.int 40)) aNil)) (gNm 17) t1_law e2_law)) p6_law)
def p4_law : Sf := (sSeq (sIf (tNot' (tB (eF (oCall F__law_same (aCons (eF (oCall F_barring_marks (aCons (eVar 2) (aCons (eVar 3) aNil)))) (aCons (eIf (tB (eVar 4)) (eBin dIx (eVar 4) (eC (.int 0))) (eC .non)) aNil)))))) (sRet (eC (.bl false))) sNil) p5_law)
def p3_law : Sf := (sSeq (sAsg (eF (oCall F__law_bars (aCons (eVar 2) (aCons (eVar 3) aNil)))) (gNm 4)) p4_law)
def p2_law : Sf := (sSeq (sAsg (eF (oCallI F__law_marks 1 0 (aCons (eOwn 1) (aCons (eVar 2) (aCons (eBin dAdd (eC (.int 1)) (eF (oCallI F__law_next 1 0 (aCons (eOwn 1) (aCons (eC (.int 5)) aNil))))) aNil))))) (gNm 3)) p3_law)
def b_law : Sf := (sSeq (sSetO 1 (oCall F__law_draw (aCons (eVar 0) aNil))) (sSeq (sAsg (eF (oCallI F__law_next 1 0 (aCons (eOwn 1) (aCons (eC (.int 4)) aNil)))) (gNm 2)) p2_law))
abbrev sg_law : Sg := ⟨[.sh], .sh⟩
abbrev ps_law : List Str := ["script"]
theorem c_law {P : Program} {w : World} {K : PySem.W.Frag} {mg : Str → Option Value} {base : Heap} {f : Addr} {fd : FuncData} {k : Nat} (D : Dfn K mg "law" s_law ps_law f fd) {f__law_draw : Addr} {fd__law_draw : FuncData} (c__law_draw : Cal P w K mg base f__law_draw fd__law_draw "_law_draw" k ps__law_draw sg__law_draw F__law_draw) {f__law_next : Addr} {fd__law_next : FuncData} (c__law_next : Cal P w K mg base f__law_next fd__law_next "_law_next" k ps__law_next sg__law_next F__law_next) {f__law_marks : Addr} {fd__law_marks : FuncData} (c__law_marks : Cal P w K mg base f__law_marks fd__law_marks "_law_marks" k ps__law_marks sg__law_marks F__law_marks) {f__law_bars : Addr} {fd__law_bars : FuncData} (c__law_bars : Cal P w K mg base f__law_bars fd__law_bars "_law_bars" k ps__law_bars sg__law_bars F__law_bars) {f__law_same : Addr} {fd__law_same : FuncData} (c__law_same : Cal P w K mg base f__law_same fd__law_same "_law_same" k ps__law_same sg__law_same F__law_same) {f_barring_marks : Addr} {fd_barring_marks : FuncData} (c_barring_marks : Cal P w K mg base f_barring_marks fd_barring_marks "barring_marks" k ps_barring_marks sg_barring_marks F_barring_marks) {f_slowest : Addr} {fd_slowest : FuncData} (c_slowest : Cal P w K mg base f_slowest fd_slowest "slowest" k ps_slowest sg_slowest F_slowest) {f_track : Addr} {fd_track : FuncData} (c_track : Cal P w K mg base f_track fd_track "track" k ps_track sg_track F_track) {f__law_box : Addr} {fd__law_box : FuncData} (c__law_box : Cal P w K mg base f__law_box fd__law_box "_law_box" k ps__law_box sg__law_box F__law_box) {f_box : Addr} {fd_box : FuncData} (c_box : Cal P w K mg base f_box fd_box "box" k ps_box sg_box F_box) {f_idle_marks : Addr} {fd_idle_marks : FuncData} (c_idle_marks : Cal P w K mg base f_idle_marks fd_idle_marks "idle_marks" k ps_idle_marks sg_idle_marks F_idle_marks) {f_least_marks : Addr} {fd_least_marks : FuncData} (c_least_marks : Cal P w K mg base f_least_marks fd_least_marks "least_marks" k ps_least_marks sg_least_marks F_least_marks) (z_range : mg "range" = none) (z_isinstance : mg "isinstance" = none) (z_tuple : mg "tuple" = none) (z_len : mg "len" = none) (z_max : mg "max" = none) (z_abs : mg "abs" = none) (z_list : mg "list" = none) (z_all : mg "all" = none) (z_min : mg "min" = none) :
    Cal P w K mg base f fd "law" (k + 1) ps_law sg_law (runF (b_law) 1 25) := by
  unfold b_law p2_law p3_law p4_law p5_law p6_law p7_law p8_law p9_law p10_law p11_law p12_law p13_law p14_law p15_law p16_law p17_law p18_law p19_law p20_law q10_law e9_law e8_law q7_law e6_law e5_law q4_law q3_law e2_law t1_law
  exact cal_ok (sg := sg_law) (τ' := [.no, .no, .no, .no, .no, .no, .no, .no, .no, .no, .no, .no, .no, .no, .no, .no, .no, .no, .no, .no, .no, .no, .no, .no, .no, .no]) D sc_law ⟨[], .sh, [.no, .no, .no, .no, .no, .no, .no, .no, .no, .no, .no, .no, .no, .no, .no, .no, .no, .no, .no, .no, .no, .no, .no, .no, .no, .no], [], []⟩ 25 rfl rfl rfl rfl rfl rfl (.inl rfl) fun cdv A outer s H E hr => (dss_cons (ds_setO 1 sc_law.nd rfl (by first | exact .inl rfl | exact .inr rfl) (do_fn c__law_draw hr 1 (by rfl) (da_cons (de_var 0 (pv 0)) da_nil))) (dss_cons (ds_set 2 sc_law.nd rfl (by first | exact .inl rfl | exact .inr rfl) (de_F (do_fnI c__law_next hr 1 0 2 (by rfl) (dai_io 1 (pv 1) (dai_cons de_int dai_nil))))) (dss_cons (ds_set 3 sc_law.nd rfl (by first | exact .inl rfl | exact .inr rfl) (de_F (do_fnI c__law_marks hr 1 0 3 (by rfl) (dai_io 1 (pv 1) (dai_cons (de_var 2 (pv 2)) (dai_cons (de_bin op_addD od_add de_int (de_F (do_fnI c__law_next hr 1 0 2 (by rfl) (dai_io 1 (pv 1) (dai_cons de_int dai_nil))))) dai_nil)))))) (dss_cons (ds_set 4 sc_law.nd rfl (by first | exact .inl rfl | exact .inr rfl) (de_F (do_fn c__law_bars hr 2 (by rfl) (da_cons (de_var 2 (pv 2)) (da_cons (de_var 3 (pv 3)) da_nil))))) (dss_cons (ds_if (dt_not (dt_truth (de_F (do_fn c__law_same hr 2 (by rfl) (da_cons (de_F (do_fn c_barring_marks hr 2 (by rfl) (da_cons (de_var 2 (pv 2)) (da_cons (de_var 3 (pv 3)) da_nil)))) (da_cons (de_if (dt_truth (de_var 4 (pv 4))) (de_ix ix_seq od_ix (de_var 4 (pv 4)) de_int (fun _ _ => rfl)) de_non) da_nil)))))) (dss_one (ds_ret de_bl)) dss_nil) (dss_cons (ds_frzA 5 (by first | exact (ds_setLc (own := [("one", 17)]) 5 rfl sc_law.nd rfl rfl rfl (di_range1 (by rfl) z_range (da_cons de_int da_nil)) (blkOk_by (by kernel_rfl)) (fun _ _ _ _ _ => (dg_name 17 sc_law.nd rfl (by first | exact .inl rfl | exact .inr rfl))) (fun _ _ _ _ _ => (dts_one (dt_cmp (op_eqD (hu64 hr)) od_eq (de_F (do_fn c__law_bars hr 2 (by rfl) (da_cons (de_var 17 (pv 17)) (da_cons (de_var 3 (pv 3)) da_nil)))) (de_F (do_lst da_nil)) (nomark _)))) (fun _ _ _ _ _ => (do_E (de_var 17 (pv 17))))) | exact (ds_setO 5 sc_law.nd rfl (by first | exact .inl rfl | exact .inr rfl) (do_lc (own := [("one", 17)]) rfl sc_law.nd (di_range1 (by rfl) z_range (da_cons de_int da_nil)) (blkOk_by (by kernel_rfl)) (fun _ _ _ _ _ => (dg_name 17 sc_law.nd rfl (by first | exact .inl rfl | exact .inr rfl))) (fun _ _ _ _ _ => (dts_one (dt_cmp (op_eqD (hu64 hr)) od_eq (de_F (do_fn c__law_bars hr 2 (by rfl) (da_cons (de_var 17 (pv 17)) (da_cons (de_var 3 (pv 3)) da_nil)))) (de_F (do_lst da_nil)) (nomark _)))) (fun _ _ _ _ _ => (do_E (de_var 17 (pv 17)))))))) (dss_cons (ds_if (dt_not (dt_truth (de_F (do_fn c__law_same hr 2 (by rfl) (da_cons (de_F (do_fn c_slowest hr 1 (by rfl) (da_cons (de_var 3 (pv 3)) da_nil))) (da_cons (de_if (dt_truth (de_var 5 (pv 5))) (de_ix ix_seq od_ix (de_var 5 (pv 5)) de_int (fun _ _ => rfl)) de_non) da_nil)))))) (dss_one (ds_ret de_bl)) dss_nil) (dss_cons (ds_if (dt_cmp (op_neD (hu64 hr)) od_ne (de_var 4 (pv 4)) (de_F (do_lst da_nil)) (nomark _)) (dss_one (ds_ret de_bl)) dss_nil) (dss_cons (ds_par 14 15 rfl sc_law.nd rfl rfl rfl rfl (dl_cons (do_E (de_F (do_fnI c__law_next hr 1 0 2 (by rfl) (dai_io 1 (pv 1) (dai_cons de_int dai_nil))))) (dl_cons (do_E (de_F (do_fnI c__law_next hr 1 0 2 (by rfl) (dai_io 1 (pv 1) (dai_cons de_int dai_nil))))) dl_nil)) rfl) (dss_cons (ds_set 6 sc_law.nd rfl (by first | exact .inl rfl | exact .inr rfl) (de_F (do_fn c_track hr 4 (by rfl) (da_cons (de_var 2 (pv 2)) (da_cons (de_var 3 (pv 3)) (da_cons (de_var 14 (pv 14)) (da_cons (de_var 15 (pv 15)) da_nil))))))) (dss_cons (ds_if (dt_w (dw_or (dt_not (dt_truth (de_isI .tuple (by rfl) z_isinstance bt_isinstance (by rfl) z_tuple bt_tuple (de_var 6 (pv 6))))) (dw_or1 (dt_cmp (op_neD (hu64 hr)) od_ne (de_callB call_len ca_len (by rfl) z_len bt_len (da_cons (de_var 6 (pv 6)) da_nil)) (de_callB (call_max2 rfl) ca_max2 (by rfl) z_max bt_max (da_cons de_int (da_cons (de_bin op_addD od_add (de_bin op_sub od_sub (de_var 15 (pv 15)) (de_var 14 (pv 14))) de_int) da_nil))) (nomark _))))) (dss_one (ds_ret de_bl)) dss_nil) (dss_cons (ds_for (tbk := [.sh, (.oL .sh), .sh, .sh, .sh, .sh, .sh, .no, .no, .no, .no, .no, .no, .no, .sh, .sh, .no, .no, .no, .no, .no, .no, .no, .no, .no, .no]) (tct := [.sh, (.oL .sh), .sh, .sh, .sh, .sh, .sh, .no, .no, .no, .no, .no, .no, .no, .sh, .sh, .no, .no, .no, .no, .no, .no, .no, .no, .no, .no]) [7, 18, 19, 20, 21, 22, 23] PassesOwn.never rfl (di_range2 (by rfl) z_range (da_cons (de_var 14 (pv 14)) (da_cons (de_bin op_addD od_add (de_var 15 (pv 15)) de_int) da_nil))) (dg_name 7 sc_law.nd rfl (by first | exact .inl rfl | exact .inr rfl)) (dss_cons (ds_asg (de_ix ix_seq od_ix (de_var 6 (pv 6)) (de_bin op_sub od_sub (de_var 7 (pv 7)) (de_var 14 (pv 14))) (fun _ _ => rfl)) (dg_tup rfl (dgs_cons (dg_name 18 sc_law.nd rfl (by first | exact .inl rfl | exact .inr rfl)) (dgs_cons (dg_name 19 sc_law.nd rfl (by first | exact .inl rfl | exact .inr rfl)) dgs_nil)) (gsCons_len (gsCons_len gsNil_len)))) (dss_cons (ds_asg (de_F (do_fn c__law_box hr 3 (by rfl) (da_cons (de_var 2 (pv 2)) (da_cons (de_var 3 (pv 3)) (da_cons (de_var 7 (pv 7)) da_nil))))) (dg_tup rfl (dgs_cons (dg_name 20 sc_law.nd rfl (by first | exact .inl rfl | exact .inr rfl)) (dgs_cons (dg_name 21 sc_law.nd rfl (by first | exact .inl rfl | exact .inr rfl)) (dgs_cons (dg_name 22 sc_law.nd rfl (by first | exact .inl rfl | exact .inr rfl)) (dgs_cons (dg_name 23 sc_law.nd rfl (by first | exact .inl rfl | exact .inr rfl)) dgs_nil)))) (gsCons_len (gsCons_len (gsCons_len (gsCons_len gsNil_len)))))) (dss_cons (ds_if (dt_w (dw_or (dt_not (dt_truth (de_F (do_fn c__law_same hr 2 (by rfl) (da_cons (de_F (do_fn c_box hr 3 (by rfl) (da_cons (de_var 2 (pv 2)) (da_cons (de_var 3 (pv 3)) (da_cons (de_var 7 (pv 7)) da_nil))))) (da_cons (de_tup (da_cons (de_var 20 (pv 20)) (da_cons (de_var 21 (pv 21)) (da_cons (de_var 22 (pv 22)) (da_cons (de_var 23 (pv 23)) da_nil))))) da_nil)))))) (dw_or1 (dt_not (dt_w (dw_and (dt_chain op_le od_le op_le od_le (de_var 20 (pv 20)) (de_var 18 (pv 18)) (de_var 21 (pv 21))) (dw_and1 (dt_chain op_le od_le op_le od_le (de_var 22 (pv 22)) (de_var 19 (pv 19)) (de_var 23 (pv 23)))))))))) (dss_one (ds_ret de_bl)) dss_nil) (dss_one (ds_if (dt_w (dw_and (dt_cmp op_gt od_gt (de_var 7 (pv 7)) (de_var 14 (pv 14)) (nomark _)) (dw_and1 (dt_cmp op_gt od_gt (de_callB (call_max2 rfl) ca_max2 (by rfl) z_max bt_max (da_cons (de_callB call_abs ca_abs (by rfl) z_abs bt_abs (da_cons (de_bin op_sub od_sub (de_var 18 (pv 18)) (de_ix ix_seq od_ix (de_ix ix_seq od_ix (de_var 6 (pv 6)) (de_bin op_sub od_sub (de_bin op_sub od_sub (de_var 7 (pv 7)) (de_var 14 (pv 14))) de_int) (fun _ _ => rfl)) de_int (fun _ _ => rfl))) da_nil)) (da_cons (de_callB call_abs ca_abs (by rfl) z_abs bt_abs (da_cons (de_bin op_sub od_sub (de_var 19 (pv 19)) (de_ix ix_seq od_ix (de_ix ix_seq od_ix (de_var 6 (pv 6)) (de_bin op_sub od_sub (de_bin op_sub od_sub (de_var 7 (pv 7)) (de_var 14 (pv 14))) de_int) (fun _ _ => rfl)) de_int (fun _ _ => rfl))) da_nil)) da_nil))) (de_var 2 (pv 2)) (nomark _))))) (dss_one (ds_ret de_bl)) dss_nil)))))) (dss_cons (ds_setO 8 sc_law.nd rfl (by first | exact .inl rfl | exact .inr rfl) (do_lst da_nil)) (dss_cons (ds_for (tbk := [.sh, (.oL .sh), .sh, .sh, .sh, .sh, .sh, .no, (.oL .sh), .no, .no, .no, .no, .no, .sh, .sh, .no, .no, .no, .no, .no, .no, .no, .no, .no, .no]) (tct := [.sh, (.oL .sh), .sh, .sh, .sh, .sh, .sh, .no, (.oL .sh), .no, .no, .no, .no, .no, .sh, .sh, .no, .no, .no, .no, .no, .no, .no, .no, .no, .no]) [9, 16, 18, 19, 20, 21, 22, 23, 24] PassesOwn.never rfl (di_range1 (by rfl) z_range (da_cons (de_callB call_len ca_len (by rfl) z_len bt_len (da_cons (de_var 3 (pv 3)) da_nil)) da_nil)) (dg_name 9 sc_law.nd rfl (by first | exact .inl rfl | exact .inr rfl)) (dss_cons (ds_set 16 sc_law.nd rfl (by first | exact .inl rfl | exact .inr rfl) (de_bin op_addD od_add (de_slice sl_D sd_sl (de_var 3 (pv 3)) dp_no (dp_some (de_var 9 (pv 9)))) (de_slice sl_D sd_sl (de_var 3 (pv 3)) (dp_some (de_bin op_addD od_add (de_var 9 (pv 9)) de_int)) dp_no))) (dss_one (ds_if (dt_cmp (op_neD (hu64 hr)) od_ne (de_var 16 (pv 16)) (de_tup da_nil) (nomark _)) (dss_kill [18, 19, 20, 21, 22, 23, 24] (dss_cons (ds_asg (de_F (do_fn c__law_box hr 3 (by rfl) (da_cons (de_var 2 (pv 2)) (da_cons (de_var 16 (pv 16)) (da_cons (de_ix ix_seq od_ix (de_ix ix_seq od_ix (de_var 3 (pv 3)) (de_var 9 (pv 9)) (fun _ _ => rfl)) de_int (fun _ _ => rfl)) da_nil))))) (dg_tup rfl (dgs_cons (dg_name 20 sc_law.nd rfl (by first | exact .inl rfl | exact .inr rfl)) (dgs_cons (dg_name 21 sc_law.nd rfl (by first | exact .inl rfl | exact .inr rfl)) (dgs_cons (dg_name 22 sc_law.nd rfl (by first | exact .inl rfl | exact .inr rfl)) (dgs_cons (dg_name 23 sc_law.nd rfl (by first | exact .inl rfl | exact .inr rfl)) dgs_nil)))) (gsCons_len (gsCons_len (gsCons_len (gsCons_len gsNil_len)))))) (dss_cons (ds_asg (de_slice sl_D sd_sl (de_ix ix_seq od_ix (de_var 3 (pv 3)) (de_var 9 (pv 9)) (fun _ _ => rfl)) (dp_some de_int) dp_no) (dg_tup rfl (dgs_cons (dg_name 18 sc_law.nd rfl (by first | exact .inl rfl | exact .inr rfl)) (dgs_cons (dg_name 19 sc_law.nd rfl (by first | exact .inl rfl | exact .inr rfl)) (dgs_cons (dg_name 24 sc_law.nd rfl (by first | exact .inl rfl | exact .inr rfl)) dgs_nil))) (gsCons_len (gsCons_len (gsCons_len gsNil_len))))) (dss_one (ds_if (dt_w (dw_and (dt_cmp op_ge od_ge (de_var 20 (pv 20)) (de_bin op_sub od_sub (de_var 18 (pv 18)) (de_var 24 (pv 24))) (nomark _)) (dw_and (dt_cmp op_le od_le (de_var 21 (pv 21)) (de_bin op_addD od_add (de_var 18 (pv 18)) (de_var 24 (pv 24))) (nomark _)) (dw_and (dt_cmp op_ge od_ge (de_var 22 (pv 22)) (de_bin op_sub od_sub (de_var 19 (pv 19)) (de_var 24 (pv 24))) (nomark _)) (dw_and1 (dt_cmp op_le od_le (de_var 23 (pv 23)) (de_bin op_addD od_add (de_var 19 (pv 19)) (de_var 24 (pv 24))) (nomark _))))))) (dss_one (ds_app 8 (pv 8) (de_var 9 (pv 9)))) dss_nil))))) dss_nil)))) (dss_cons (ds_if (dt_not (dt_truth (de_F (do_fnB (sg := sg__law_same) c__law_same hr 2 (by rfl) (da_cons (de_F (do_fn c_idle_marks hr 2 (by rfl) (da_cons (de_var 2 (pv 2)) (da_cons (de_var 3 (pv 3)) da_nil)))) (da_cons (de_own 8 (pv 8)) da_nil)))))) (dss_one (ds_ret de_bl)) dss_nil) (dss_cons (ds_set 10 sc_law.nd rfl (by first | exact .inl rfl | exact .inr rfl) (de_F (do_rg1 rfl (by rfl) z_list (by rfl) z_range (da_cons (de_bin op_addD od_add (de_callB (cr_max rfl) ca_max (by rfl) z_max bt_max (da_cons (de_F (do_lc (own := [("mark", 25)]) rfl sc_law.nd (di_seq (de_var 3 (pv 3))) (blkOk_by (by kernel_rfl)) (fun _ _ _ _ _ => (dg_name 25 sc_law.nd rfl (by first | exact .inl rfl | exact .inr rfl))) (fun _ _ _ _ _ => dts_nil) (fun _ _ _ _ _ => (do_E (de_ix ix_seq od_ix (de_var 25 (pv 25)) de_int (fun _ _ => rfl)))))) da_nil)) de_int) da_nil)))) (dss_cons (ds_set 11 sc_law.nd rfl (by first | exact .inl rfl | exact .inr rfl) (de_F (do_lst (da_cons (de_tup da_nil) da_nil)))) (dss_cons (ds_for (tbk := [.sh, (.oL .sh), .sh, .sh, .sh, .sh, .sh, .no, (.oL .sh), .no, .sh, .sh, .no, .no, .sh, .sh, .no, .no, .no, .no, .no, .no, .no, .no, .no, .no]) (tct := [.sh, (.oL .sh), .sh, .sh, .sh, .sh, .sh, .no, (.oL .sh), .no, .sh, .sh, .no, .no, .sh, .sh, .no, .no, .no, .no, .no, .no, .no, .no, .no, .no]) [9] PassesOwn.never rfl (di_range1 (by rfl) z_range (da_cons (de_callB call_len ca_len (by rfl) z_len bt_len (da_cons (de_var 3 (pv 3)) da_nil)) da_nil)) (dg_name 9 sc_law.nd rfl (by first | exact .inl rfl | exact .inr rfl)) (dss_one (ds_set 11 sc_law.nd rfl (by first | exact .inl rfl | exact .inr rfl) (de_bin op_addD od_add (de_var 11 (pv 11)) (de_F (do_lc (own := [("some", 13)]) rfl sc_law.nd (di_seq (de_var 11 (pv 11))) (blkOk_by (by kernel_rfl)) (fun _ _ _ _ _ => (dg_name 13 sc_law.nd rfl (by first | exact .inl rfl | exact .inr rfl))) (fun _ _ _ _ _ => dts_nil) (fun _ _ _ _ _ => (do_E (de_bin op_addD od_add (de_var 13 (pv 13)) (de_tup (da_cons (de_var 9 (pv 9)) da_nil))))))))))) (dss_cons (ds_setO 12 sc_law.nd rfl (by first | exact .inl rfl | exact .inr rfl) (do_lst da_nil)) (dss_cons (ds_for (tbk := [.sh, (.oL .sh), .sh, .sh, .sh, .sh, .sh, .no, (.oL .sh), .no, .sh, .sh, (.oL .sh), .no, .sh, .sh, .no, .no, .no, .no, .no, .no, .no, .no, .no, .no]) (tct := [.sh, (.oL .sh), .sh, .sh, .sh, .sh, .sh, .no, (.oL .sh), .no, .sh, .sh, (.oL .sh), .no, .sh, .sh, .no, .no, .no, .no, .no, .no, .no, .no, .no, .no]) [13] PassesOwn.never rfl (di_seq (de_var 11 (pv 11))) (dg_name 13 sc_law.nd rfl (by first | exact .inl rfl | exact .inr rfl)) (dss_one (ds_if (dt_w (dw_and (dt_cmp (op_neD (hu64 hr)) od_ne (de_var 13 (pv 13)) (de_tup da_nil) (nomark _)) (dw_and1 (dt_truth (de_callB (cr_all rfl) ca_all (by rfl) z_all bt_all (da_cons (de_F (do_lc (own := [("time", 7)]) rfl sc_law.nd (di_seq (de_var 10 (pv 10))) (blkOk_by (by kernel_rfl)) (fun _ _ _ _ _ => (dg_name 7 sc_law.nd rfl (by first | exact .inl rfl | exact .inr rfl))) (fun _ _ _ _ _ => dts_nil) (fun _ _ _ _ _ => (do_E (de_cmp (op_eqD (hu64 hr)) od_eq (de_F (do_fn c__law_box hr 3 (by rfl) (da_cons (de_var 2 (pv 2)) (da_cons (de_F (do_lc (own := [("k", 9)]) rfl sc_law.nd (di_seq (de_var 13 (pv 13))) (blkOk_by (by kernel_rfl)) (fun _ _ _ _ _ => (dg_name 9 sc_law.nd rfl (by first | exact .inl rfl | exact .inr rfl))) (fun _ _ _ _ _ => dts_nil) (fun _ _ _ _ _ => (do_E (de_ix ix_seq od_ix (de_var 3 (pv 3)) (de_var 9 (pv 9)) (fun _ _ => rfl)))))) (da_cons (de_var 7 (pv 7)) da_nil))))) (de_F (do_fn c__law_box hr 3 (by rfl) (da_cons (de_var 2 (pv 2)) (da_cons (de_var 3 (pv 3)) (da_cons (de_var 7 (pv 7)) da_nil))))) (nomark _)))))) da_nil)))))) (dss_one (ds_app 12 (pv 12) (de_tup (da_cons (de_callB call_len ca_len (by rfl) z_len bt_len (da_cons (de_var 13 (pv 13)) da_nil)) (da_cons (de_var 13 (pv 13)) da_nil))))) dss_nil))) (dss_one (ds_ret (de_F (do_fn c__law_same hr 2 (by rfl) (da_cons (de_F (do_fn c_least_marks hr 2 (by rfl) (da_cons (de_var 2 (pv 2)) (da_cons (de_var 3 (pv 3)) da_nil)))) (da_cons (de_ix ix_seq od_ix (de_callB (call_minLG rfl (hu64 hr)) ca_minLG (by rfl) z_min bt_min (da_cons (de_own 12 (pv 12)) da_nil)) de_int (fun _ _ => rfl)) da_nil))))))))))))))))))))))))))
def F_law : Fm := runF b_law 1 25
theorem law_cal {P : Program} {w : World} {K : PySem.W.Frag} {mg : Str → Option Value} {base : Heap} {f_apart : Addr} {fd_apart : FuncData} (D_apart : Dfn K mg "apart" s_apart ps_apart f_apart fd_apart) {f_are_barring : Addr} {fd_are_barring : FuncData} (D_are_barring : Dfn K mg "are_barring" s_are_barring ps_are_barring f_are_barring fd_are_barring) {f_barring_marks : Addr} {fd_barring_marks : FuncData} (D_barring_marks : Dfn K mg "barring_marks" s_barring_marks ps_barring_marks f_barring_marks fd_barring_marks) {f_box_by : Addr} {fd_box_by : FuncData} (D_box_by : Dfn K mg "box_by" s_box_by ps_box_by f_box_by fd_box_by) {f_box : Addr} {fd_box : FuncData} (D_box : Dfn K mg "box" s_box ps_box f_box fd_box) {f_slowest : Addr} {fd_slowest : FuncData} (D_slowest : Dfn K mg "slowest" s_slowest ps_slowest f_slowest fd_slowest) {f_is_within : Addr} {fd_is_within : FuncData} (D_is_within : Dfn K mg "is_within" s_is_within ps_is_within f_is_within fd_is_within) {f_idle_marks : Addr} {fd_idle_marks : FuncData} (D_idle_marks : Dfn K mg "idle_marks" s_idle_marks ps_idle_marks f_idle_marks fd_idle_marks) {f_same_boxes : Addr} {fd_same_boxes : FuncData} (D_same_boxes : Dfn K mg "same_boxes" s_same_boxes ps_same_boxes f_same_boxes fd_same_boxes) {f_least_marks : Addr} {fd_least_marks : FuncData} (D_least_marks : Dfn K mg "least_marks" s_least_marks ps_least_marks f_least_marks fd_least_marks) {f_track : Addr} {fd_track : FuncData} (D_track : Dfn K mg "track" s_track ps_track f_track fd_track) {f__law_draw : Addr} {fd__law_draw : FuncData} (D__law_draw : Dfn K mg "_law_draw" s__law_draw ps__law_draw f__law_draw fd__law_draw) {f__law_next : Addr} {fd__law_next : FuncData} (D__law_next : Dfn K mg "_law_next" s__law_next ps__law_next f__law_next fd__law_next) {f__law_same : Addr} {fd__law_same : FuncData} (D__law_same : Dfn K mg "_law_same" s__law_same ps__law_same f__law_same fd__law_same) {f__law_marks : Addr} {fd__law_marks : FuncData} (D__law_marks : Dfn K mg "_law_marks" s__law_marks ps__law_marks f__law_marks fd__law_marks) {f__law_is_barred : Addr} {fd__law_is_barred : FuncData} (D__law_is_barred : Dfn K mg "_law_is_barred" s__law_is_barred ps__law_is_barred f__law_is_barred fd__law_is_barred) {f__law_bars : Addr} {fd__law_bars : FuncData} (D__law_bars : Dfn K mg "_law_bars" s__law_bars ps__law_bars f__law_bars fd__law_bars) {f__law_box : Addr} {fd__law_box : FuncData} (D__law_box : Dfn K mg "_law_box" s__law_box ps__law_box f__law_box fd__law_box) {f_law : Addr} {fd_law : FuncData} (D_law : Dfn K mg "law" s_law ps_law f_law fd_law) (z_abs : mg "abs" = none) (z_all : mg "all" = none) (z_bool : mg "bool" = none) (z_enumerate : mg "enumerate" = none) (z_int : mg "int" = none) (z_isinstance : mg "isinstance" = none) (z_len : mg "len" = none) (z_list : mg "list" = none) (z_max : mg "max" = none) (z_min : mg "min" = none) (z_range : mg "range" = none) (z_str : mg "str" = none) (z_tuple : mg "tuple" = none) (g_combinations : mg "combinations" = some (.type "itertools.combinations")) :
    Cal P w K mg base f_law fd_law "law" 10 ps_law sg_law F_law := by
  have C_apart : Cal P w K mg base f_apart fd_apart "apart" 1 ps_apart sg_apart F_apart := c_apart (k := 0) D_apart z_abs z_max
  have C_are_barring : Cal P w K mg base f_are_barring fd_are_barring "are_barring" 2 ps_are_barring sg_are_barring F_are_barring := c_are_barring (k := 1) D_are_barring (C_apart.mono (by decide)) z_abs
  have C_barring_marks : Cal P w K mg base f_barring_marks fd_barring_marks "barring_marks" 3 ps_barring_marks sg_barring_marks F_barring_marks := c_barring_marks (k := 2) D_barring_marks (C_are_barring.mono (by decide)) z_enumerate z_len z_range
  have C_box_by : Cal P w K mg base f_box_by fd_box_by "box_by" 1 ps_box_by sg_box_by F_box_by := c_box_by (k := 0) D_box_by z_abs
  have C_box : Cal P w K mg base f_box fd_box "box" 2 ps_box sg_box F_box := c_box (k := 1) D_box (C_box_by.mono (by decide)) z_max z_min
  have C_slowest : Cal P w K mg base f_slowest fd_slowest "slowest" 2 ps_slowest sg_slowest F_slowest := c_slowest (k := 1) D_slowest (C_apart.mono (by decide)) z_enumerate z_abs z_max
  have C_is_within : Cal P w K mg base f_is_within fd_is_within "is_within" 1 ps_is_within sg_is_within F_is_within := c_is_within (k := 0) D_is_within
  have C_idle_marks : Cal P w K mg base f_idle_marks fd_idle_marks "idle_marks" 3 ps_idle_marks sg_idle_marks F_idle_marks := c_idle_marks (k := 2) D_idle_marks (C_is_within.mono (by decide)) (C_box.mono (by decide)) (C_box_by.mono (by decide)) z_enumerate
  have C_same_boxes : Cal P w K mg base f_same_boxes fd_same_boxes "same_boxes" 3 ps_same_boxes sg_same_boxes F_same_boxes := c_same_boxes (k := 2) D_same_boxes (C_box.mono (by decide)) z_max z_range
  have C_least_marks : Cal P w K mg base f_least_marks fd_least_marks "least_marks" 4 ps_least_marks sg_least_marks F_least_marks := c_least_marks (k := 3) D_least_marks (C_same_boxes.mono (by decide)) z_len z_range z_tuple g_combinations
  have C_track : Cal P w K mg base f_track fd_track "track" 3 ps_track sg_track F_track := c_track (k := 2) D_track (C_box.mono (by decide)) z_range z_tuple
  have C__law_draw : Cal P w K mg base f__law_draw fd__law_draw "_law_draw" 1 ps__law_draw sg__law_draw F__law_draw := c__law_draw (k := 0) D__law_draw z_list
  have C__law_next : Cal P w K mg base f__law_next fd__law_next "_law_next" 1 ps__law_next sg__law_next F__law_next := c__law_next (k := 0) D__law_next z_int z_len z_abs
  have C__law_same : Cal P w K mg base f__law_same fd__law_same "_law_same" 9 ps__law_same sg__law_same F__law_same := by
    have go : ∀ r, Cal P w K mg base f__law_same fd__law_same "_law_same" (0 + 1 + r) ps__law_same sg__law_same (R__law_same r) := by
      intro r
      induction r with
      | zero => exact Cal.none D__law_same
      | succ r ih => exact (c__law_same (k := 0 + 1 + r) D__law_same ih z_isinstance z_list z_tuple z_len z_range z_all z_bool z_str z_int)
    exact go 8
  have C__law_marks : Cal P w K mg base f__law_marks fd__law_marks "_law_marks" 2 ps__law_marks sg__law_marks F__law_marks := c__law_marks (k := 1) D__law_marks (C__law_next.mono (by decide)) z_range z_len z_tuple
  have C__law_is_barred : Cal P w K mg base f__law_is_barred fd__law_is_barred "_law_is_barred" 1 ps__law_is_barred sg__law_is_barred F__law_is_barred := c__law_is_barred (k := 0) D__law_is_barred z_abs z_max
  have C__law_bars : Cal P w K mg base f__law_bars fd__law_bars "_law_bars" 2 ps__law_bars sg__law_bars F__law_bars := c__law_bars (k := 1) D__law_bars (C__law_is_barred.mono (by decide)) z_len z_range
  have C__law_box : Cal P w K mg base f__law_box fd__law_box "_law_box" 1 ps__law_box sg__law_box F__law_box := c__law_box (k := 0) D__law_box z_abs z_max z_min
  have C_law : Cal P w K mg base f_law fd_law "law" 10 ps_law sg_law F_law := c_law (k := 9) D_law (C__law_draw.mono (by decide)) (C__law_next.mono (by decide)) (C__law_marks.mono (by decide)) (C__law_bars.mono (by decide)) (C__law_same.mono (by decide)) (C_barring_marks.mono (by decide)) (C_slowest.mono (by decide)) (C_track.mono (by decide)) (C__law_box.mono (by decide)) (C_box.mono (by decide)) (C_idle_marks.mono (by decide)) (C_least_marks.mono (by decide)) z_range z_isinstance z_tuple z_len z_max z_abs z_list z_all z_min
  exact C_law
set_option maxHeartbeats 0 in
theorem all_mk {l : PySem.W.OpenLaw} {w : World} {K : PySem.W.Frag} {h : Heap} {mg : Str → Option Value} {fa : Addr} (X : K.In h) (G : h.Ns mainGlobals mg) (hfa : mg "law" = some (.ref fa))
    {f0 : Addr} {od0 an0 : Option Addr} {sl0 : Array (Option Value)} {oc0 kV0 dc0 pm0 cd0 ct0 : Value}
    (a0 : PySem.W.nsIn K mainGlobals "apart" = some (some (.ref f0))) (l0 : K.lookup f0 = some ⟨oc0, od0, .func (PySem.W.fnOf "apart" "apart" (defArgs s_apart) (defBody s_apart) (defScope s_apart) .none kV0 dc0 pm0 an0 cd0 ct0), sl0⟩) (c0 : PySem.W.codeIn K cd0 "apart" = true) (k0 : PySem.W.keepIn K (.ref f0) = true)
    {f1 : Addr} {od1 an1 : Option Addr} {sl1 : Array (Option Value)} {oc1 kV1 dc1 pm1 cd1 ct1 : Value}
    (a1 : PySem.W.nsIn K mainGlobals "are_barring" = some (some (.ref f1))) (l1 : K.lookup f1 = some ⟨oc1, od1, .func (PySem.W.fnOf "are_barring" "are_barring" (defArgs s_are_barring) (defBody s_are_barring) (defScope s_are_barring) .none kV1 dc1 pm1 an1 cd1 ct1), sl1⟩) (c1 : PySem.W.codeIn K cd1 "are_barring" = true) (k1 : PySem.W.keepIn K (.ref f1) = true)
    {f2 : Addr} {od2 an2 : Option Addr} {sl2 : Array (Option Value)} {oc2 kV2 dc2 pm2 cd2 ct2 : Value}
    (a2 : PySem.W.nsIn K mainGlobals "barring_marks" = some (some (.ref f2))) (l2 : K.lookup f2 = some ⟨oc2, od2, .func (PySem.W.fnOf "barring_marks" "barring_marks" (defArgs s_barring_marks) (defBody s_barring_marks) (defScope s_barring_marks) .none kV2 dc2 pm2 an2 cd2 ct2), sl2⟩) (c2 : PySem.W.codeIn K cd2 "barring_marks" = true) (k2 : PySem.W.keepIn K (.ref f2) = true)
    {f3 : Addr} {od3 an3 : Option Addr} {sl3 : Array (Option Value)} {oc3 kV3 dc3 pm3 cd3 ct3 : Value}
    (a3 : PySem.W.nsIn K mainGlobals "box_by" = some (some (.ref f3))) (l3 : K.lookup f3 = some ⟨oc3, od3, .func (PySem.W.fnOf "box_by" "box_by" (defArgs s_box_by) (defBody s_box_by) (defScope s_box_by) .none kV3 dc3 pm3 an3 cd3 ct3), sl3⟩) (c3 : PySem.W.codeIn K cd3 "box_by" = true) (k3 : PySem.W.keepIn K (.ref f3) = true)
    {f4 : Addr} {od4 an4 : Option Addr} {sl4 : Array (Option Value)} {oc4 kV4 dc4 pm4 cd4 ct4 : Value}
    (a4 : PySem.W.nsIn K mainGlobals "box" = some (some (.ref f4))) (l4 : K.lookup f4 = some ⟨oc4, od4, .func (PySem.W.fnOf "box" "box" (defArgs s_box) (defBody s_box) (defScope s_box) .none kV4 dc4 pm4 an4 cd4 ct4), sl4⟩) (c4 : PySem.W.codeIn K cd4 "box" = true) (k4 : PySem.W.keepIn K (.ref f4) = true)
    {f5 : Addr} {od5 an5 : Option Addr} {sl5 : Array (Option Value)} {oc5 kV5 dc5 pm5 cd5 ct5 : Value}
    (a5 : PySem.W.nsIn K mainGlobals "slowest" = some (some (.ref f5))) (l5 : K.lookup f5 = some ⟨oc5, od5, .func (PySem.W.fnOf "slowest" "slowest" (defArgs s_slowest) (defBody s_slowest) (defScope s_slowest) .none kV5 dc5 pm5 an5 cd5 ct5), sl5⟩) (c5 : PySem.W.codeIn K cd5 "slowest" = true) (k5 : PySem.W.keepIn K (.ref f5) = true)
    {f6 : Addr} {od6 an6 : Option Addr} {sl6 : Array (Option Value)} {oc6 kV6 dc6 pm6 cd6 ct6 : Value}
    (a6 : PySem.W.nsIn K mainGlobals "is_within" = some (some (.ref f6))) (l6 : K.lookup f6 = some ⟨oc6, od6, .func (PySem.W.fnOf "is_within" "is_within" (defArgs s_is_within) (defBody s_is_within) (defScope s_is_within) .none kV6 dc6 pm6 an6 cd6 ct6), sl6⟩) (c6 : PySem.W.codeIn K cd6 "is_within" = true) (k6 : PySem.W.keepIn K (.ref f6) = true)
    {f7 : Addr} {od7 an7 : Option Addr} {sl7 : Array (Option Value)} {oc7 kV7 dc7 pm7 cd7 ct7 : Value}
    (a7 : PySem.W.nsIn K mainGlobals "idle_marks" = some (some (.ref f7))) (l7 : K.lookup f7 = some ⟨oc7, od7, .func (PySem.W.fnOf "idle_marks" "idle_marks" (defArgs s_idle_marks) (defBody s_idle_marks) (defScope s_idle_marks) .none kV7 dc7 pm7 an7 cd7 ct7), sl7⟩) (c7 : PySem.W.codeIn K cd7 "idle_marks" = true) (k7 : PySem.W.keepIn K (.ref f7) = true)
    {f8 : Addr} {od8 an8 : Option Addr} {sl8 : Array (Option Value)} {oc8 kV8 dc8 pm8 cd8 ct8 : Value}
    (a8 : PySem.W.nsIn K mainGlobals "same_boxes" = some (some (.ref f8))) (l8 : K.lookup f8 = some ⟨oc8, od8, .func (PySem.W.fnOf "same_boxes" "same_boxes" (defArgs s_same_boxes) (defBody s_same_boxes) (defScope s_same_boxes) .none kV8 dc8 pm8 an8 cd8 ct8), sl8⟩) (c8 : PySem.W.codeIn K cd8 "same_boxes" = true) (k8 : PySem.W.keepIn K (.ref f8) = true)
    {f9 : Addr} {od9 an9 : Option Addr} {sl9 : Array (Option Value)} {oc9 kV9 dc9 pm9 cd9 ct9 : Value}
    (a9 : PySem.W.nsIn K mainGlobals "least_marks" = some (some (.ref f9))) (l9 : K.lookup f9 = some ⟨oc9, od9, .func (PySem.W.fnOf "least_marks" "least_marks" (defArgs s_least_marks) (defBody s_least_marks) (defScope s_least_marks) .none kV9 dc9 pm9 an9 cd9 ct9), sl9⟩) (c9 : PySem.W.codeIn K cd9 "least_marks" = true) (k9 : PySem.W.keepIn K (.ref f9) = true)
    {f10 : Addr} {od10 an10 : Option Addr} {sl10 : Array (Option Value)} {oc10 kV10 dc10 pm10 cd10 ct10 : Value}
    (a10 : PySem.W.nsIn K mainGlobals "track" = some (some (.ref f10))) (l10 : K.lookup f10 = some ⟨oc10, od10, .func (PySem.W.fnOf "track" "track" (defArgs s_track) (defBody s_track) (defScope s_track) .none kV10 dc10 pm10 an10 cd10 ct10), sl10⟩) (c10 : PySem.W.codeIn K cd10 "track" = true) (k10 : PySem.W.keepIn K (.ref f10) = true)
    {f11 : Addr} {od11 an11 : Option Addr} {sl11 : Array (Option Value)} {oc11 kV11 dc11 pm11 cd11 ct11 : Value}
    (a11 : PySem.W.nsIn K mainGlobals "_law_draw" = some (some (.ref f11))) (l11 : K.lookup f11 = some ⟨oc11, od11, .func (PySem.W.fnOf "_law_draw" "_law_draw" (defArgs s__law_draw) (defBody s__law_draw) (defScope s__law_draw) .none kV11 dc11 pm11 an11 cd11 ct11), sl11⟩) (c11 : PySem.W.codeIn K cd11 "_law_draw" = true) (k11 : PySem.W.keepIn K (.ref f11) = true)
    {f12 : Addr} {od12 an12 : Option Addr} {sl12 : Array (Option Value)} {oc12 kV12 dc12 pm12 cd12 ct12 : Value}
    (a12 : PySem.W.nsIn K mainGlobals "_law_next" = some (some (.ref f12))) (l12 : K.lookup f12 = some ⟨oc12, od12, .func (PySem.W.fnOf "_law_next" "_law_next" (defArgs s__law_next) (defBody s__law_next) (defScope s__law_next) .none kV12 dc12 pm12 an12 cd12 ct12), sl12⟩) (c12 : PySem.W.codeIn K cd12 "_law_next" = true) (k12 : PySem.W.keepIn K (.ref f12) = true)
    {f13 : Addr} {od13 an13 : Option Addr} {sl13 : Array (Option Value)} {oc13 kV13 dc13 pm13 cd13 ct13 : Value}
    (a13 : PySem.W.nsIn K mainGlobals "_law_same" = some (some (.ref f13))) (l13 : K.lookup f13 = some ⟨oc13, od13, .func (PySem.W.fnOf "_law_same" "_law_same" (defArgs s__law_same) (defBody s__law_same) (defScope s__law_same) .none kV13 dc13 pm13 an13 cd13 ct13), sl13⟩) (c13 : PySem.W.codeIn K cd13 "_law_same" = true) (k13 : PySem.W.keepIn K (.ref f13) = true)
    {f14 : Addr} {od14 an14 : Option Addr} {sl14 : Array (Option Value)} {oc14 kV14 dc14 pm14 cd14 ct14 : Value}
    (a14 : PySem.W.nsIn K mainGlobals "_law_marks" = some (some (.ref f14))) (l14 : K.lookup f14 = some ⟨oc14, od14, .func (PySem.W.fnOf "_law_marks" "_law_marks" (defArgs s__law_marks) (defBody s__law_marks) (defScope s__law_marks) .none kV14 dc14 pm14 an14 cd14 ct14), sl14⟩) (c14 : PySem.W.codeIn K cd14 "_law_marks" = true) (k14 : PySem.W.keepIn K (.ref f14) = true)
    {f15 : Addr} {od15 an15 : Option Addr} {sl15 : Array (Option Value)} {oc15 kV15 dc15 pm15 cd15 ct15 : Value}
    (a15 : PySem.W.nsIn K mainGlobals "_law_is_barred" = some (some (.ref f15))) (l15 : K.lookup f15 = some ⟨oc15, od15, .func (PySem.W.fnOf "_law_is_barred" "_law_is_barred" (defArgs s__law_is_barred) (defBody s__law_is_barred) (defScope s__law_is_barred) .none kV15 dc15 pm15 an15 cd15 ct15), sl15⟩) (c15 : PySem.W.codeIn K cd15 "_law_is_barred" = true) (k15 : PySem.W.keepIn K (.ref f15) = true)
    {f16 : Addr} {od16 an16 : Option Addr} {sl16 : Array (Option Value)} {oc16 kV16 dc16 pm16 cd16 ct16 : Value}
    (a16 : PySem.W.nsIn K mainGlobals "_law_bars" = some (some (.ref f16))) (l16 : K.lookup f16 = some ⟨oc16, od16, .func (PySem.W.fnOf "_law_bars" "_law_bars" (defArgs s__law_bars) (defBody s__law_bars) (defScope s__law_bars) .none kV16 dc16 pm16 an16 cd16 ct16), sl16⟩) (c16 : PySem.W.codeIn K cd16 "_law_bars" = true) (k16 : PySem.W.keepIn K (.ref f16) = true)
    {f17 : Addr} {od17 an17 : Option Addr} {sl17 : Array (Option Value)} {oc17 kV17 dc17 pm17 cd17 ct17 : Value}
    (a17 : PySem.W.nsIn K mainGlobals "_law_box" = some (some (.ref f17))) (l17 : K.lookup f17 = some ⟨oc17, od17, .func (PySem.W.fnOf "_law_box" "_law_box" (defArgs s__law_box) (defBody s__law_box) (defScope s__law_box) .none kV17 dc17 pm17 an17 cd17 ct17), sl17⟩) (c17 : PySem.W.codeIn K cd17 "_law_box" = true) (k17 : PySem.W.keepIn K (.ref f17) = true)
    {f18 : Addr} {od18 an18 : Option Addr} {sl18 : Array (Option Value)} {oc18 kV18 dc18 pm18 cd18 ct18 : Value}
    (a18 : PySem.W.nsIn K mainGlobals "law" = some (some (.ref f18))) (l18 : K.lookup f18 = some ⟨oc18, od18, .func (PySem.W.fnOf "law" "law" (defArgs s_law) (defBody s_law) (defScope s_law) .none kV18 dc18 pm18 an18 cd18 ct18), sl18⟩) (c18 : PySem.W.codeIn K cd18 "law" = true) (k18 : PySem.W.keepIn K (.ref f18) = true)
    (z0 : PySem.W.nsIn K mainGlobals "abs" = some none)
    (z1 : PySem.W.nsIn K mainGlobals "all" = some none)
    (z2 : PySem.W.nsIn K mainGlobals "bool" = some none)
    (z3 : PySem.W.nsIn K mainGlobals "enumerate" = some none)
    (z4 : PySem.W.nsIn K mainGlobals "int" = some none)
    (z5 : PySem.W.nsIn K mainGlobals "isinstance" = some none)
    (z6 : PySem.W.nsIn K mainGlobals "len" = some none)
    (z7 : PySem.W.nsIn K mainGlobals "list" = some none)
    (z8 : PySem.W.nsIn K mainGlobals "max" = some none)
    (z9 : PySem.W.nsIn K mainGlobals "min" = some none)
    (z10 : PySem.W.nsIn K mainGlobals "range" = some none)
    (z11 : PySem.W.nsIn K mainGlobals "str" = some none)
    (z12 : PySem.W.nsIn K mainGlobals "tuple" = some none)
    (i0 : PySem.W.nsIn K mainGlobals "combinations" = some (some (.type "itertools.combinations"))) :
    ∃ fd : FuncData, (∀ (s : Shared) (v : Value), BindsTo s fd ⟨[v], []⟩ [("script", v)]) ∧ ∀ base : Heap, K.In base → base.Ns mainGlobals mg → FnOk l.prog w K mg base CX0 10 fa fd ["script"] (spD K mg sgL F_law) := by
  have e := hfa.symm.trans (PySem.W.mg_of X G a18)
  cases e
  have F0 := fun_mk (st := s_apart) l0 c0 k0
  have D0 : Dfn K mg "apart" s_apart ps_apart _ _ := ⟨F0, PySem.W.mg_of X G a0, F0.binds (ps := ps_apart) fun _ _ _ _ _ _ us hl => match us, hl with | [_, _], _ => rfl⟩
  have F1 := fun_mk (st := s_are_barring) l1 c1 k1
  have D1 : Dfn K mg "are_barring" s_are_barring ps_are_barring _ _ := ⟨F1, PySem.W.mg_of X G a1, F1.binds (ps := ps_are_barring) fun _ _ _ _ _ _ us hl => match us, hl with | [_, _, _], _ => rfl⟩
  have F2 := fun_mk (st := s_barring_marks) l2 c2 k2
  have D2 : Dfn K mg "barring_marks" s_barring_marks ps_barring_marks _ _ := ⟨F2, PySem.W.mg_of X G a2, F2.binds (ps := ps_barring_marks) fun _ _ _ _ _ _ us hl => match us, hl with | [_, _], _ => rfl⟩
  have F3 := fun_mk (st := s_box_by) l3 c3 k3
  have D3 : Dfn K mg "box_by" s_box_by ps_box_by _ _ := ⟨F3, PySem.W.mg_of X G a3, F3.binds (ps := ps_box_by) fun _ _ _ _ _ _ us hl => match us, hl with | [_, _, _], _ => rfl⟩
  have F4 := fun_mk (st := s_box) l4 c4 k4
  have D4 : Dfn K mg "box" s_box ps_box _ _ := ⟨F4, PySem.W.mg_of X G a4, F4.binds (ps := ps_box) fun _ _ _ _ _ _ us hl => match us, hl with | [_, _, _], _ => rfl⟩
  have F5 := fun_mk (st := s_slowest) l5 c5 k5
  have D5 : Dfn K mg "slowest" s_slowest ps_slowest _ _ := ⟨F5, PySem.W.mg_of X G a5, F5.binds (ps := ps_slowest) fun _ _ _ _ _ _ us hl => match us, hl with | [_], _ => rfl⟩
  have F6 := fun_mk (st := s_is_within) l6 c6 k6
  have D6 : Dfn K mg "is_within" s_is_within ps_is_within _ _ := ⟨F6, PySem.W.mg_of X G a6, F6.binds (ps := ps_is_within) fun _ _ _ _ _ _ us hl => match us, hl with | [_, _], _ => rfl⟩
  have F7 := fun_mk (st := s_idle_marks) l7 c7 k7
  have D7 : Dfn K mg "idle_marks" s_idle_marks ps_idle_marks _ _ := ⟨F7, PySem.W.mg_of X G a7, F7.binds (ps := ps_idle_marks) fun _ _ _ _ _ _ us hl => match us, hl with | [_, _], _ => rfl⟩
  have F8 := fun_mk (st := s_same_boxes) l8 c8 k8
  have D8 : Dfn K mg "same_boxes" s_same_boxes ps_same_boxes _ _ := ⟨F8, PySem.W.mg_of X G a8, F8.binds (ps := ps_same_boxes) fun _ _ _ _ _ _ us hl => match us, hl with | [_, _, _], _ => rfl⟩
  have F9 := fun_mk (st := s_least_marks) l9 c9 k9
  have D9 : Dfn K mg "least_marks" s_least_marks ps_least_marks _ _ := ⟨F9, PySem.W.mg_of X G a9, F9.binds (ps := ps_least_marks) fun _ _ _ _ _ _ us hl => match us, hl with | [_, _], _ => rfl⟩
  have F10 := fun_mk (st := s_track) l10 c10 k10
  have D10 : Dfn K mg "track" s_track ps_track _ _ := ⟨F10, PySem.W.mg_of X G a10, F10.binds (ps := ps_track) fun _ _ _ _ _ _ us hl => match us, hl with | [_, _, _, _], _ => rfl⟩
  have F11 := fun_mk (st := s__law_draw) l11 c11 k11
  have D11 : Dfn K mg "_law_draw" s__law_draw ps__law_draw _ _ := ⟨F11, PySem.W.mg_of X G a11, F11.binds (ps := ps__law_draw) fun _ _ _ _ _ _ us hl => match us, hl with | [_], _ => rfl⟩
  have F12 := fun_mk (st := s__law_next) l12 c12 k12
  have D12 : Dfn K mg "_law_next" s__law_next ps__law_next _ _ := ⟨F12, PySem.W.mg_of X G a12, F12.binds (ps := ps__law_next) fun _ _ _ _ _ _ us hl => match us, hl with | [_, _], _ => rfl⟩
  have F13 := fun_mk (st := s__law_same) l13 c13 k13
  have D13 : Dfn K mg "_law_same" s__law_same ps__law_same _ _ := ⟨F13, PySem.W.mg_of X G a13, F13.binds (ps := ps__law_same) fun _ _ _ _ _ _ us hl => match us, hl with | [_, _], _ => rfl⟩
  have F14 := fun_mk (st := s__law_marks) l14 c14 k14
  have D14 : Dfn K mg "_law_marks" s__law_marks ps__law_marks _ _ := ⟨F14, PySem.W.mg_of X G a14, F14.binds (ps := ps__law_marks) fun _ _ _ _ _ _ us hl => match us, hl with | [_, _, _], _ => rfl⟩
  have F15 := fun_mk (st := s__law_is_barred) l15 c15 k15
  have D15 : Dfn K mg "_law_is_barred" s__law_is_barred ps__law_is_barred _ _ := ⟨F15, PySem.W.mg_of X G a15, F15.binds (ps := ps__law_is_barred) fun _ _ _ _ _ _ us hl => match us, hl with | [_, _, _], _ => rfl⟩
  have F16 := fun_mk (st := s__law_bars) l16 c16 k16
  have D16 : Dfn K mg "_law_bars" s__law_bars ps__law_bars _ _ := ⟨F16, PySem.W.mg_of X G a16, F16.binds (ps := ps__law_bars) fun _ _ _ _ _ _ us hl => match us, hl with | [_, _], _ => rfl⟩
  have F17 := fun_mk (st := s__law_box) l17 c17 k17
  have D17 : Dfn K mg "_law_box" s__law_box ps__law_box _ _ := ⟨F17, PySem.W.mg_of X G a17, F17.binds (ps := ps__law_box) fun _ _ _ _ _ _ us hl => match us, hl with | [_, _, _], _ => rfl⟩
  have F18 := fun_mk (st := s_law) l18 c18 k18
  have D18 : Dfn K mg "law" s_law ps_law _ _ := ⟨F18, PySem.W.mg_of X G a18, F18.binds (ps := ps_law) fun _ _ _ _ _ _ us hl => match us, hl with | [_], _ => rfl⟩
  exact ⟨_, fun s v => .of_eq rfl, fun base _ _ => (law_cal (base := base) D0 D1 D2 D3 D4 D5 D6 D7 D8 D9 D10 D11 D12 D13 D14 D15 D16 D17 D18 (PySem.W.mg_none_of X G z0) (PySem.W.mg_none_of X G z1) (PySem.W.mg_none_of X G z2) (PySem.W.mg_none_of X G z3) (PySem.W.mg_none_of X G z4) (PySem.W.mg_none_of X G z5) (PySem.W.mg_none_of X G z6) (PySem.W.mg_none_of X G z7) (PySem.W.mg_none_of X G z8) (PySem.W.mg_none_of X G z9) (PySem.W.mg_none_of X G z10) (PySem.W.mg_none_of X G z11) (PySem.W.mg_none_of X G z12) (PySem.W.mg_of X G i0)).ok⟩
end K53

namespace TL
open PySem PySem.Spec PyProof.Rows L2
theorem loop_first {α : Type} {b : D → Rho → Option Out} {ks : List Nat} (emb : α → D) (ρ : Rho) (g : α → Option D) : ∀ (l : List α),
    (∀ a ∈ l, (∀ d, g a = some d → ∃ r, b (emb a) ρ = some (.rt d r)) ∧ (g a = none → (b (emb a) ρ).bind (nxOf ks) = some ρ)) →
    (∀ d, l.findSome? g = some d → ∃ r, loopF b ks (l.map emb) ρ = some (.rt d r)) ∧ (l.findSome? g = none → loopF b ks (l.map emb) ρ = some (.nx ρ))
  | [], h => ⟨fun d e => by simp at e, fun _ => rfl⟩
  | a :: l, h => by
    obtain ⟨h1, h2⟩ := h a (by simp)
    obtain ⟨h3, h4⟩ := loop_first emb ρ g l fun a ha => h a (by simp [ha])
    cases hg : g a with
    | some d =>
      obtain ⟨r, e⟩ := h1 d hg
      refine ⟨fun d' e' => ⟨r, ?_⟩, fun e' => ?_⟩
      · rw [List.findSome?_cons, hg] at e'
        cases e'
        rw [List.map_cons, loop_rt e]
      · rw [List.findSome?_cons, hg] at e'; cases e'
    | none =>
      rw [List.findSome?_cons, hg, List.map_cons, loop_go (h2 hg)]
      exact ⟨h3, h4⟩
theorem fs_map {α β γ : Type} (f : α → Option β) (g : β → γ) : ∀ l : List α, (l.filterMap f).head?.map g = l.findSome? fun a => (f a).map g
  | [] => rfl
  | a :: l => by
    rw [List.filterMap_cons, List.findSome?_cons]
    cases f a with
    | none => exact fs_map f g l
    | some b => rfl
theorem enu_range {α : Type} [Inhabited α] (f : α → D) (l : List α) : enuD (l.map f) = (List.range l.length).map fun k : Nat => D.tup [.int (k : Int), f (l.getD k default)] := by
  unfold enuD
  apply List.ext_getElem?
  intro i
  rw [List.getElem?_map, List.getElem?_zipIdx, List.getElem?_map, List.getElem?_map]
  by_cases h : i < l.length
  · rw [List.getElem?_eq_getElem h, List.getElem?_range h]
    simp [List.getD_eq_getElem?_getD, List.getElem?_eq_getElem h]
  · rw [List.getElem?_eq_none (by omega), List.getElem?_eq_none (by simpa using h)]
    rfl
end TL
namespace K53
open PySem PySem.Spec PyProof.Rows L2 TL
structure Mk where
  t : Int
  x : Int
  y : Int
  n : Int
  deriving Inhabited, DecidableEq
def mkD (m : Mk) : D := .tup [.int m.t, .int m.x, .int m.y, .int m.n]
def msD (ms : List Mk) : D := .tup (ms.map mkD)
def ab (i : Int) : Int := if i < 0 then -i else i
def mx (i j : Int) : Int := if j > i then j else i
def mn (i j : Int) : Int := if j < i then j else i
def far (a b : Mk) : Int := mx (ab (a.x - b.x)) (ab (a.y - b.y))
def bar (s : Int) (a b : Mk) : Bool := decide (a.n + b.n + s * ab (a.t - b.t) < far a b)
theorem d_ab (i : Int) : absD (.int i) = some (.int (ab i)) := rfl
theorem d_mx (i j : Int) : max2D (.int i) (.int j) = some (.int (mx i j)) := rfl
theorem d_mn (i j : Int) : min2D (.int i) (.int j) = some (.int (mn i j)) := rfl
structure Sz (m : Mk) : Prop where
  t : -1000000 ≤ m.t ∧ m.t ≤ 1000000
  x : -1000000 ≤ m.x ∧ m.x ≤ 1000000
  y : -1000000 ≤ m.y ∧ m.y ≤ 1000000
  n : -1000000 ≤ m.n ∧ m.n ≤ 1000000
structure OkS (s : Int) : Prop where
  lo : 0 ≤ s
  hi : s ≤ 1000
theorem ab_le {i k : Int} (h1 : -k ≤ i) (h2 : i ≤ k) : 0 ≤ ab i ∧ ab i ≤ k := by
  unfold ab; split <;> omega
theorem sm_ab {i : Int} (h1 : -10000000 ≤ i) (h2 : i ≤ 10000000) : sm (ab i) = true := by
  have := ab_le (k := 10000000) h1 h2
  exact sm_of (by omega) (by omega)
theorem apart_ok (a b : Mk) : F_apart [mkD a, mkD b] = some (.int (far a b), [mkD a, mkD b]) := by
  unfold F_apart b_apart
  rw [v_run2]
  simp [mkD, far, d_ab, d_mx, -d_abs, -d_max2]
theorem bar_ok (s : Int) (hs : OkS s) (a b : Mk) (ha : Sz a) (hb : Sz b) : F_are_barring [.int s, mkD a, mkD b] = some (.bl (bar s a b), [.int s, mkD a, mkD b]) := by
  unfold F_are_barring b_are_barring
  rw [v_run3]
  have e := apart_ok a b
  have h1 := sm_of (i := s) (by have := hs.lo; omega) (by have := hs.hi; omega)
  have h2 := sm_ab (i := a.t - b.t) (by have := ha.t; have := hb.t; omega) (by have := ha.t; have := hb.t; omega)
  unfold bar
  generalize far a b = f at *
  simp only [mkD] at e ⊢
  simp [e, h1, h2, d_ab, -d_abs]
theorem lbar_ok (s : Int) (hs : OkS s) (a b : Mk) (ha : Sz a) (hb : Sz b) : F__law_is_barred [.int s, mkD a, mkD b] = some (.bl (bar s a b), [.int s, mkD a, mkD b]) := by
  unfold F__law_is_barred b__law_is_barred
  rw [v_run3]
  have h1 := sm_of (i := s) (by have := hs.lo; omega) (by have := hs.hi; omega)
  have h2 := sm_ab (i := a.t - b.t) (by have := ha.t; have := hb.t; omega) (by have := ha.t; have := hb.t; omega)
  unfold bar far
  simp [mkD, h1, h2, d_ab, d_mx, -d_abs, -d_max2]
def gm (ms : List Mk) (k : Nat) : Mk := ms.getD k default
theorem gm_mem {ms : List Mk} {k : Nat} (h : k < ms.length) : gm ms k ∈ ms := by
  unfold gm
  rw [List.getD_eq_getElem?_getD, List.getElem?_eq_getElem h]
  exact List.getElem_mem h
theorem ix_m (ms : List Mk) (i : Nat) (h : i < ms.length) : dIx (msD ms) (.int (i : Int)) = some (mkD (gm ms i)) := by
  unfold msD
  rw [d_ix_t, ix_nat _ i (by simpa using h)]
  simp [gm, List.getD_eq_getElem?_getD, List.getElem?_eq_getElem h]
theorem len_m (ms : List Mk) : lenD (msD ms) = some (.int (ms.length : Int)) := by simp [msD]
def prD (p : Nat × Nat) : D := .tup [.int (p.1 : Int), .int (p.2 : Int)]
def rowB (s : Int) (ms : List Mk) (k : Nat) : List (Nat × Nat) := (List.range (ms.length - (k + 1))).filterMap fun i => if bar s (gm ms k) (gm ms (k + 1 + i)) then some (k, k + 1 + i) else none
def bars (s : Int) (ms : List Mk) : List (Nat × Nat) := (List.range ms.length).flatMap (rowB s ms)
def SzL (ms : List Mk) : Prop := ∀ m ∈ ms, Sz m
theorem intsDn (a n : Nat) : intsD (a : Int) n = (List.range n).map fun i : Nat => D.int ((a + i : Nat) : Int) := by
  unfold intsD; simp
theorem bm_inner (s : Int) (hs : OkS s) (ms : List Mk) (hz : SzL ms) (hn : ms.length ≤ 100) (k : Nat) (hk : k < ms.length) :
    (∀ d, ((rowB s ms k).head?.map prD) = some d → ∃ r, loopF (stepB (gNm 4) q1_barring_marks) [4] ((List.range (ms.length - (k + 1))).map fun i : Nat => D.int ((k + 1 + i : Nat) : Int)) [.int s, msD ms, .int (k : Int), mkD (gm ms k), .non] = some (.rt d r)) ∧
    (((rowB s ms k).head?.map prD) = none → loopF (stepB (gNm 4) q1_barring_marks) [4] ((List.range (ms.length - (k + 1))).map fun i : Nat => D.int ((k + 1 + i : Nat) : Int)) [.int s, msD ms, .int (k : Int), mkD (gm ms k), .non] = some (.nx [.int s, msD ms, .int (k : Int), mkD (gm ms k), .non])) := by
  have key := loop_first (b := stepB (gNm 4) q1_barring_marks) (ks := [4]) (fun i : Nat => D.int ((k + 1 + i : Nat) : Int)) [.int s, msD ms, .int (k : Int), mkD (gm ms k), .non]
    (fun i => if bar s (gm ms k) (gm ms (k + 1 + i)) then some (prD (k, k + 1 + i)) else none) (List.range (ms.length - (k + 1))) fun i hi => by
      have hi := List.mem_range.mp hi
      have e1 := ix_m ms (k + 1 + i) (by omega)
      have e2 := bar_ok s hs (gm ms k) (gm ms (k + 1 + i)) (hz _ (gm_mem hk)) (hz _ (gm_mem (by omega)))
      simp only [Int.natCast_add, Int.cast_ofNat_Int] at e1
      generalize bar s (gm ms k) (gm ms (k + 1 + i)) = B at *
      generalize mkD (gm ms (k + 1 + i)) = M2 at *
      generalize mkD (gm ms k) = M1 at *
      generalize msD ms = W at *
      refine ⟨fun d e => ?_, fun e => ?_⟩
      · cases B with
        | false => simp at e
        | true =>
          simp at e
          subst e
          exact ⟨[.int s, W, .int (k : Int), M1, .int ((k + 1 + i : Nat) : Int)], by simp [q1_barring_marks, e1, e2, prD, okLen_of (n := 2) (by omega)]⟩
      · cases B with
        | true => simp at e
        | false => simp [q1_barring_marks, e1, e2]
  have e : (rowB s ms k).head?.map prD = (List.range (ms.length - (k + 1))).findSome? (fun i => if bar s (gm ms k) (gm ms (k + 1 + i)) then some (prD (k, k + 1 + i)) else none) := by
    unfold rowB
    rw [fs_map]
    congr 1
    funext i
    split <;> rfl
  rw [e]
  exact key
end K53

namespace K53
open PySem PySem.Spec PyProof.Rows L2 TL
def emk (ms : List Mk) (k : Nat) : D := .tup [.int (k : Int), mkD (gm ms k)]
theorem fs_flat {α β γ : Type} (f : α → List β) (g : β → γ) : ∀ l : List α, (l.flatMap f).head?.map g = l.findSome? fun a => (f a).head?.map g
  | [] => rfl
  | a :: l => by
    rw [List.flatMap_cons, List.findSome?_cons]
    cases h : f a with
    | nil => rw [List.nil_append]; exact fs_flat f g l
    | cons b r => rfl
def optD : Option D → D
  | some d => d
  | none => .non
theorem bm_ok (s : Int) (hs : OkS s) (ms : List Mk) (hz : SzL ms) (hn : ms.length ≤ 100) : ∃ l, F_barring_marks [.int s, msD ms] = some (optD ((bars s ms).head?.map prD), l) := by
  unfold F_barring_marks b_barring_marks
  rw [v_run2]
  have key := loop_first (b := stepB (gTp (gsCons (gNm 2) (gsCons (gNm 3) gsNil))) q2_barring_marks) (ks := [2, 3, 4]) (emk ms) [.int s, msD ms, .non, .non, .non]
    (fun k => (rowB s ms k).head?.map prD) (List.range ms.length) fun k hk => by
      have hk := List.mem_range.mp hk
      obtain ⟨h1, h2⟩ := bm_inner s hs ms hz hn k hk
      have el := len_m ms
      have ei := intsDn (k + 1) (ms.length - (k + 1))
      have e3 : (((ms.length : Int)) - ((k : Int) + 1)).toNat = ms.length - (k + 1) := by omega
      simp only [Int.natCast_add, Int.cast_ofNat_Int] at ei h1 h2
      have z1 := s62_of (i := (k : Int) + 1) (by omega) (by omega)
      have z2 := s62_of (i := (ms.length : Int)) (by omega) (by omega)
      unfold emk
      generalize (rowB s ms k).head?.map prD = O at *
      generalize mkD (gm ms k) = M at *
      generalize msD ms = W at *
      refine ⟨fun d e => ?_, fun e => ?_⟩
      · obtain ⟨r, e'⟩ := h1 d e
        exact ⟨r, by simp [q2_barring_marks, el, z1, z2, e3, ei, e']⟩
      · have e' := h2 e
        simp [q2_barring_marks, el, z1, z2, e3, ei, e']
  have ee : enuD (ms.map mkD) = (List.range ms.length).map (emk ms) := enu_range mkD ms
  rw [← fs_flat (rowB s ms) prD] at key
  have eb : (List.range ms.length).flatMap (rowB s ms) = bars s ms := rfl
  rw [eb] at key
  have ew : iEnu (aCons (eVar 1) aNil) [.int s, msD ms, .non, .non, .non] = some (enuD (ms.map mkD), [.int s, msD ms, .non, .non, .non]) := rfl
  rw [ee] at ew
  refine exo ?_
  obtain ⟨k1, k2⟩ := key
  generalize (bars s ms).head?.map prD = O at *
  generalize msD ms = W at *
  cases O with
  | none =>
    have e := k2 rfl
    simp [ew, e, optD]
  | some d =>
    obtain ⟨r, e⟩ := k1 d rfl
    simp [ew, e, optD]
theorem lrow_ok (s : Int) (hs : OkS s) (ms : List Mk) (hz : SzL ms) (acc : D) (k : Nat) (hk : k < ms.length) :
    lcF (stepLc [4] (gNm 4) t1__law_bars e2__law_bars) ((List.range (ms.length - (k + 1))).map fun i : Nat => D.int ((k + 1 + i : Nat) : Int)) [.int s, msD ms, acc, .int (k : Int), .non] = some ((rowB s ms k).map prD, [.int s, msD ms, acc, .int (k : Int), .non]) := by
  rw [lc_map (fun i : Nat => D.int ((k + 1 + i : Nat) : Int)) (fun i => if bar s (gm ms k) (gm ms (k + 1 + i)) then some (prD (k, k + 1 + i)) else none) _ _ fun i hi => by
    have hi := List.mem_range.mp hi
    have e1 := ix_m ms (k + 1 + i) (by omega)
    have e0 := ix_m ms k hk
    have e2 := lbar_ok s hs (gm ms k) (gm ms (k + 1 + i)) (hz _ (gm_mem hk)) (hz _ (gm_mem (by omega)))
    simp only [Int.natCast_add, Int.cast_ofNat_Int] at e1
    generalize bar s (gm ms k) (gm ms (k + 1 + i)) = B at *
    generalize mkD (gm ms (k + 1 + i)) = M2 at *
    generalize mkD (gm ms k) = M1 at *
    generalize msD ms = W at *
    cases B <;> simp [t1__law_bars, e2__law_bars, e0, e1, e2, prD, okLen_of (n := 2) (by omega)]]
  unfold rowB
  rw [List.map_filterMap]
  congr 3
  funext i
  split <;> rfl
theorem row_len (s : Int) (ms : List Mk) (k : Nat) : (rowB s ms k).length ≤ ms.length := by
  unfold rowB
  have := List.length_filterMap_le (fun i => if bar s (gm ms k) (gm ms (k + 1 + i)) then some (k, k + 1 + i) else none) (List.range (ms.length - (k + 1)))
  rw [List.length_range] at this
  omega
theorem lbars_ok (s : Int) (hs : OkS s) (ms : List Mk) (hz : SzL ms) (hn : ms.length ≤ 100) : F__law_bars [.int s, msD ms] = some (.lst ((bars s ms).map prD), [.int s, msD ms]) := by
  unfold F__law_bars b__law_bars
  rw [v_run2]
  have key := loop_ext (b := stepB (gNm 3) q3__law_bars) (ks := [3]) (fun i : Nat => D.int (i : Int)) (fun acc : List (Nat × Nat) => [.int s, msD ms, .lst (acc.map prD), .non, .non]) (rowB s ms) 100 100000 (List.range ms.length) []
    (fun k _ => Nat.le_trans (row_len s ms k) hn) (by simp; omega) fun k hk acc hB => by
    have hk := List.mem_range.mp hk
    have e := fun acc => lrow_ok s hs ms hz acc k hk
    have el := len_m ms
    have ei := intsDn (k + 1) (ms.length - (k + 1))
    have e3 : (((ms.length : Int)) - ((k : Int) + 1)).toNat = ms.length - (k + 1) := by omega
    simp only [Int.natCast_add, Int.cast_ofNat_Int] at ei e
    have z1 := s62_of (i := (k : Int) + 1) (by omega) (by omega)
    have z2 := s62_of (i := (ms.length : Int)) (by omega) (by omega)
    have hr := row_len s ms k
    generalize msD ms = W at *
    simp [q3__law_bars, el, z1, z2, e3, ei, e, okLen_of (n := ms.length - (k + 1)) (by omega), okLen_of (n := acc.length + (rowB s ms k).length) (by omega)]
  have el := len_m ms
  have z2 := s62_of (i := (ms.length : Int)) (by omega) (by omega)
  simp only [List.map_nil, List.nil_append] at key
  have eb : (List.range ms.length).flatMap (rowB s ms) = bars s ms := rfl
  rw [eb] at key
  generalize msD ms = W at *
  simp [el, z2, intsD0, okLen_of (n := 0) (by omega), key]
/-! ### the slowest speed -/
def lacks (a b : Mk) : Int := far a b - a.n - b.n
def turns (a b : Mk) : Int := ab (a.t - b.t)
def cl (a b : Mk) : Int := -(-(lacks a b) / turns a b)
def slowL (one : Mk) : List Mk → Int → Option Int
  | [], f => some f
  | o :: l, f => if 0 < lacks one o then (if turns one o = 0 then none else slowL one l (mx f (cl one o))) else slowL one l f
def slowO (ms : List Mk) : List Nat → Int → Option Int
  | [], f => some f
  | k :: ks, f => (slowL (gm ms k) (ms.drop (k + 1)) f).bind (slowO ms ks)
theorem sl_inner (z0 zk : D) (one : Mk) (h1 : Sz one) : ∀ (l : List Mk) (f : Int), SzL l →
    (slowL one l f = none → ∃ r, loopF (stepB (gNm 4) q1_slowest) [4, 5, 6] (l.map mkD) [z0, .int f, zk, mkD one, .non, .non, .non] = some (.rt .non r)) ∧
    (∀ f', slowL one l f = some f' → loopF (stepB (gNm 4) q1_slowest) [4, 5, 6] (l.map mkD) [z0, .int f, zk, mkD one, .non, .non, .non] = some (.nx [z0, .int f', zk, mkD one, .non, .non, .non]))
  | [], f, _ => ⟨fun h => by simp [slowL] at h, fun f' h => by simp [slowL] at h; subst h; rfl⟩
  | o :: l, f, hz => by
    have h2 := hz o (by simp)
    have ea := apart_ok one o
    have ht : turns one o = ab (one.t - o.t) := rfl
    have hl : lacks one o = far one o - one.n - o.n := rfl
    have hsm := sm_ab (i := one.t - o.t) (by have := h1.t; have := h2.t; omega) (by have := h1.t; have := h2.t; omega)
    have h0 := ab_le (i := one.t - o.t) (k := 10000000) (by have := h1.t; have := h2.t; omega) (by have := h1.t; have := h2.t; omega)
    rw [← ht] at hsm h0
    have hd : ∀ d : D, stepB (gNm 4) q1_slowest d = stepB (gNm 4) q1_slowest d := fun _ => rfl
    have n1 : dIx (mkD one) (.int 3) = some (.int one.n) := by simp [mkD]
    have n2 : dIx (mkD o) (.int 3) = some (.int o.n) := by simp [mkD]
    have n3 : dIx (mkD one) (.int 0) = some (.int one.t) := by simp [mkD]
    have n4 : dIx (mkD o) (.int 0) = some (.int o.t) := by simp [mkD]
    unfold slowL
    by_cases hp : 0 < lacks one o
    · rw [if_pos hp]
      by_cases h00 : turns one o = 0
      · rw [if_pos h00]
        refine ⟨fun _ => ?_, fun f' h => by cases h⟩
        rw [hl] at hp
        rw [ht] at h00
        refine ⟨_, by
          rw [List.map_cons]
          refine loop_rt (ρ' := [z0, .int f, zk, mkD one, mkD o, .int (far one o - one.n - o.n), .int 0]) ?_
          generalize mkD one = M1 at *
          generalize mkD o = M2 at *
          generalize far one o = F at *
          have hp' : o.n < F - one.n := by omega
          simp [q1_slowest, ea, n1, n2, n3, n4, d_ab, -d_abs, hp', h00]⟩
      · rw [if_neg h00]
        obtain ⟨i1, i2⟩ := sl_inner z0 zk one h1 l (mx f (cl one o)) fun m hm => hz m (by simp [hm])
        have hb : (turns one o == 0) = false := beq_eq_false_iff_ne.mpr h00
        have hpos : 0 < turns one o := by omega
        have step : (stepB (gNm 4) q1_slowest (mkD o) [z0, .int f, zk, mkD one, .non, .non, .non]).bind (nxOf [4, 5, 6]) = some [z0, .int (mx f (cl one o)), zk, mkD one, .non, .non, .non] := by
          unfold cl
          rw [hl] at hp ⊢
          rw [ht] at hb hpos hsm ⊢
          generalize mkD one = M1 at *
          generalize mkD o = M2 at *
          generalize far one o = F at *
          generalize hT : ab (one.t - o.t) = T at *
          have hp' : o.n < F - one.n := by omega
          simp [q1_slowest, ea, n1, n2, n3, n4, d_ab, d_mx, -d_abs, -d_max2, hp', hT, hb, hpos, hsm, -beq_iff_eq]
        rw [List.map_cons, loop_go step]
        exact ⟨i1, i2⟩
    · rw [if_neg hp]
      obtain ⟨i1, i2⟩ := sl_inner z0 zk one h1 l f fun m hm => hz m (by simp [hm])
      have step : (stepB (gNm 4) q1_slowest (mkD o) [z0, .int f, zk, mkD one, .non, .non, .non]).bind (nxOf [4, 5, 6]) = some [z0, .int f, zk, mkD one, .non, .non, .non] := by
        rw [hl] at hp
        generalize mkD one = M1 at *
        generalize mkD o = M2 at *
        generalize far one o = F at *
        have hp' : ¬ o.n < F - one.n := by omega
        simp [q1_slowest, ea, n1, n2, n3, n4, d_ab, -d_abs, hp']
      rw [List.map_cons, loop_go step]
      exact ⟨i1, i2⟩
end K53

namespace K53
open PySem PySem.Spec PyProof.Rows L2 TL
theorem sl_outer (ms : List Mk) (hz : SzL ms) : ∀ (ks : List Nat) (f : Int), (∀ k ∈ ks, k < ms.length) →
    (slowO ms ks f = none → ∃ r, loopF (stepB (gTp (gsCons (gNm 2) (gsCons (gNm 3) gsNil))) q2_slowest) [2, 3, 4, 5, 6] (ks.map (emk ms)) [msD ms, .int f, .non, .non, .non, .non, .non] = some (.rt .non r)) ∧
    (∀ f', slowO ms ks f = some f' → loopF (stepB (gTp (gsCons (gNm 2) (gsCons (gNm 3) gsNil))) q2_slowest) [2, 3, 4, 5, 6] (ks.map (emk ms)) [msD ms, .int f, .non, .non, .non, .non, .non] = some (.nx [msD ms, .int f', .non, .non, .non, .non, .non]))
  | [], f, _ => ⟨fun h => by simp [slowO] at h, fun f' h => by simp [slowO] at h; subst h; rfl⟩
  | k :: ks, f, hk => by
    have hk1 := hk k (by simp)
    obtain ⟨i1, i2⟩ := sl_inner (msD ms) (.int (k : Int)) (gm ms k) (hz _ (gm_mem hk1)) (ms.drop (k + 1)) f fun m hm => hz m (List.mem_of_mem_drop hm)
    have ec := cut_from (ms.map mkD) ((k : Int) + 1) (by omega)
    rw [show ((k : Int) + 1).toNat = k + 1 by omega, ← List.map_drop] at ec
    have es : dSl (msD ms) (some ((k : Int) + 1)) none = some (.tup ((ms.drop (k + 1)).map mkD)) := by
      unfold msD
      rw [d_sl_t, ec]
    unfold slowO
    have hstep : ∀ (o : Option Out), loopF (stepB (gNm 4) q1_slowest) [4, 5, 6] ((ms.drop (k + 1)).map mkD) [msD ms, .int f, .int (k : Int), mkD (gm ms k), .non, .non, .non] = o →
        stepB (gTp (gsCons (gNm 2) (gsCons (gNm 3) gsNil))) q2_slowest (emk ms k) [msD ms, .int f, .non, .non, .non, .non, .non] = o := by
      intro o e
      unfold emk
      generalize (ms.drop (k + 1)).map mkD = L at *
      generalize mkD (gm ms k) = M at *
      generalize msD ms = W at *
      simp [q2_slowest, es, e]
    cases h : slowL (gm ms k) (ms.drop (k + 1)) f with
    | none =>
      refine ⟨fun _ => ?_, fun f' h' => by cases h'⟩
      obtain ⟨r, e⟩ := i1 h
      exact ⟨r, by rw [List.map_cons, loop_rt (hstep _ e)]⟩
    | some g =>
      have e := hstep _ (i2 g h)
      obtain ⟨j1, j2⟩ := sl_outer ms hz ks g fun j hj => hk j (by simp [hj])
      rw [List.map_cons, loop_nx e]
      exact ⟨j1, j2⟩
def oi : Option Int → D
  | some f => .int f
  | none => .non
theorem slow_ok (ms : List Mk) (hz : SzL ms) : ∃ l, F_slowest [msD ms] = some (oi (slowO ms (List.range ms.length) 0), l) := by
  unfold F_slowest b_slowest
  rw [v_run1]
  obtain ⟨k1, k2⟩ := sl_outer ms hz (List.range ms.length) 0 fun k hk => List.mem_range.mp hk
  have ee : enuD (ms.map mkD) = (List.range ms.length).map (emk ms) := enu_range mkD ms
  have ew : iEnu (aCons (eVar 0) aNil) [msD ms, .int 0, .non, .non, .non, .non, .non] = some (enuD (ms.map mkD), [msD ms, .int 0, .non, .non, .non, .non, .non]) := rfl
  rw [ee] at ew
  refine exo ?_
  generalize slowO ms (List.range ms.length) 0 = O at *
  generalize msD ms = W at *
  cases O with
  | none =>
    obtain ⟨r, e⟩ := k1 rfl
    simp [ew, e, oi]
  | some f =>
    have e := k2 f rfl
    simp [ew, e, oi]
/-! what it is -/
theorem cl_le (a b : Mk) (s : Int) (ht : 0 < turns a b) : cl a b ≤ s ↔ lacks a b ≤ s * turns a b := by
  unfold cl
  constructor
  · intro h
    have h1 : -s ≤ -(lacks a b) / turns a b := by omega
    have h2 := (Int.le_ediv_iff_mul_le ht).mp h1
    rw [Int.neg_mul] at h2
    omega
  · intro h
    have h1 : -s * turns a b ≤ -(lacks a b) := by rw [Int.neg_mul]; omega
    have h2 := (Int.le_ediv_iff_mul_le ht).mpr h1
    omega
theorem mx_le (i j k : Int) : mx i j ≤ k ↔ i ≤ k ∧ j ≤ k := by unfold mx; split <;> omega
theorem mx_ge (i j : Int) : i ≤ mx i j ∧ j ≤ mx i j := by unfold mx; split <;> omega
theorem mn_le (i j : Int) : mn i j ≤ i ∧ mn i j ≤ j := by unfold mn; split <;> omega
theorem le_mn (i j k : Int) : k ≤ mn i j ↔ k ≤ i ∧ k ≤ j := by unfold mn; split <;> omega
theorem ab_nn (i : Int) : 0 ≤ ab i := by unfold ab; split <;> omega
def good (s : Int) (a b : Mk) : Prop := lacks a b ≤ s * turns a b
theorem slowL_spec (one : Mk) : ∀ (l : List Mk) (f : Int), 0 ≤ f →
    (slowL one l f = none → ∃ o ∈ l, ∀ s, ¬ good s one o) ∧ (∀ f', slowL one l f = some f' → 0 ≤ f' ∧ ∀ s, 0 ≤ s → (f' ≤ s ↔ f ≤ s ∧ ∀ o ∈ l, good s one o))
  | [], f, h => ⟨fun e => by simp [slowL] at e, fun f' e => by
      simp [slowL] at e; subst e
      exact ⟨h, fun s _ => by simp⟩⟩
  | o :: l, f, h => by
    have ht := ab_nn (one.t - o.t)
    have ht : 0 ≤ turns one o := ht
    unfold slowL
    by_cases hp : 0 < lacks one o
    · rw [if_pos hp]
      by_cases h0 : turns one o = 0
      · rw [if_pos h0]
        refine ⟨fun _ => ⟨o, by simp, fun s hg => ?_⟩, fun f' e => by cases e⟩
        unfold good at hg
        rw [h0] at hg
        omega
      · rw [if_neg h0]
        obtain ⟨i1, i2⟩ := slowL_spec one l (mx f (cl one o)) (by have := mx_ge f (cl one o); omega)
        refine ⟨fun e => ?_, fun f' e => ?_⟩
        · obtain ⟨o', h1, h2⟩ := i1 e
          exact ⟨o', by simp [h1], h2⟩
        · obtain ⟨a1, a2⟩ := i2 f' e
          refine ⟨a1, fun s hs => ?_⟩
          rw [a2 s hs, mx_le, cl_le one o s (by omega)]
          simp only [List.mem_cons, forall_eq_or_imp]
          unfold good
          constructor
          · rintro ⟨⟨x, y⟩, z⟩; exact ⟨x, y, z⟩
          · rintro ⟨x, y, z⟩; exact ⟨⟨x, y⟩, z⟩
    · rw [if_neg hp]
      obtain ⟨i1, i2⟩ := slowL_spec one l f h
      refine ⟨fun e => ?_, fun f' e => ?_⟩
      · obtain ⟨o', h1, h2⟩ := i1 e
        exact ⟨o', by simp [h1], h2⟩
      · obtain ⟨a1, a2⟩ := i2 f' e
        refine ⟨a1, fun s hs => ?_⟩
        rw [a2 s hs]
        simp only [List.mem_cons, forall_eq_or_imp]
        have hg : good s one o := by
          unfold good
          have := Int.mul_nonneg hs ht
          omega
        constructor
        · rintro ⟨x, z⟩; exact ⟨x, hg, z⟩
        · rintro ⟨x, y, z⟩; exact ⟨x, z⟩
def pairs (ms : List Mk) (ks : List Nat) (P : Mk → Mk → Prop) : Prop := ∀ k ∈ ks, ∀ o ∈ ms.drop (k + 1), P (gm ms k) o
theorem slowO_spec (ms : List Mk) : ∀ (ks : List Nat) (f : Int), 0 ≤ f →
    (slowO ms ks f = none → ∃ k ∈ ks, ∃ o ∈ ms.drop (k + 1), ∀ s, ¬ good s (gm ms k) o) ∧ (∀ f', slowO ms ks f = some f' → 0 ≤ f' ∧ ∀ s, 0 ≤ s → (f' ≤ s ↔ f ≤ s ∧ pairs ms ks (good s)))
  | [], f, h => ⟨fun e => by simp [slowO] at e, fun f' e => by
      simp [slowO] at e; subst e
      exact ⟨h, fun s _ => by simp [pairs]⟩⟩
  | k :: ks, f, h => by
    obtain ⟨i1, i2⟩ := slowL_spec (gm ms k) (ms.drop (k + 1)) f h
    unfold slowO
    cases e : slowL (gm ms k) (ms.drop (k + 1)) f with
    | none =>
      obtain ⟨o, h1, h2⟩ := i1 e
      exact ⟨fun _ => ⟨k, by simp, o, h1, h2⟩, fun f' e' => by cases e'⟩
    | some g =>
      obtain ⟨g0, gs⟩ := i2 g e
      obtain ⟨j1, j2⟩ := slowO_spec ms ks g g0
      rw [Option.bind_some]
      refine ⟨fun e' => ?_, fun f' e' => ?_⟩
      · obtain ⟨k', h1, o, h2, h3⟩ := j1 e'
        exact ⟨k', by simp [h1], o, h2, h3⟩
      · obtain ⟨a1, a2⟩ := j2 f' e'
        refine ⟨a1, fun s hs => ?_⟩
        rw [a2 s hs, gs s hs]
        unfold pairs
        simp only [List.mem_cons, forall_eq_or_imp]
        constructor
        · rintro ⟨⟨x, y⟩, z⟩; exact ⟨x, y, z⟩
        · rintro ⟨x, y, z⟩; exact ⟨⟨x, y⟩, z⟩
theorem bar_good (s : Int) (a b : Mk) : bar s a b = false ↔ good s a b := by
  unfold bar good lacks turns
  rw [decide_eq_false_iff_not]
  omega
theorem bars_nil (s : Int) (ms : List Mk) : bars s ms = [] ↔ pairs ms (List.range ms.length) (good s) := by
  unfold bars pairs
  rw [List.flatMap_eq_nil_iff]
  constructor
  · intro h k hk o ho
    have hr := h k hk
    have hk' := List.mem_range.mp hk
    obtain ⟨i, hi, ho⟩ := List.mem_iff_getElem.mp ho
    rw [List.length_drop] at hi
    unfold rowB at hr
    rw [List.filterMap_eq_nil_iff] at hr
    have := hr i (List.mem_range.mpr (by omega))
    rw [List.getElem_drop] at ho
    have eg : gm ms (k + 1 + i) = o := by
      unfold gm
      rw [List.getD_eq_getElem?_getD, List.getElem?_eq_getElem (by omega), Option.getD_some]
      exact ho
    rw [eg] at this
    rw [← bar_good]
    cases hb : bar s (gm ms k) o with
    | false => rfl
    | true => rw [hb, if_pos rfl] at this; cases this
  · intro h k hk
    have hk' := List.mem_range.mp hk
    unfold rowB
    rw [List.filterMap_eq_nil_iff]
    intro i hi
    have hi := List.mem_range.mp hi
    have := h k hk (gm ms (k + 1 + i)) (by
      rw [List.mem_iff_getElem]
      refine ⟨i, by rw [List.length_drop]; omega, ?_⟩
      rw [List.getElem_drop]
      unfold gm
      rw [List.getD_eq_getElem?_getD, List.getElem?_eq_getElem (by omega), Option.getD_some])
    rw [← bar_good] at this
    rw [this]; rfl
/-- what the law asks of the slowest speed -/
def Near (s : Int) (ms : List Mk) : Prop := ∀ a ∈ ms, ∀ b ∈ ms, lacks a b ≤ s * turns a b + 5
theorem least40 : ∀ f : Nat, f < 40 → ((List.range 40).filter fun s => decide (f ≤ s)).head? = some f := by decide
theorem slow_law (s : Int) (ms : List Mk) (h0 : 0 ≤ s) (hs : s ≤ 3) (hn : Near s ms) :
    ((List.range 40).filter fun one : Nat => decide (bars (one : Int) ms = [])).head?.map (fun n : Nat => (n : Int)) = slowO ms (List.range ms.length) 0 := by
  obtain ⟨i1, i2⟩ := slowO_spec ms (List.range ms.length) 0 (Int.le_refl 0)
  cases e : slowO ms (List.range ms.length) 0 with
  | none =>
    obtain ⟨k, hk, o, ho, hg⟩ := i1 e
    have : ((List.range 40).filter fun one : Nat => decide (bars (one : Int) ms = [])) = [] := by
      rw [List.filter_eq_nil_iff]
      intro a _ h
      have h := of_decide_eq_true h
      rw [bars_nil] at h
      exact hg _ (h k hk o ho)
    rw [this]; rfl
  | some f =>
    obtain ⟨f0, fs⟩ := i2 f e
    have h8 : f ≤ 8 := by
      rw [fs 8 (by omega)]
      refine ⟨by omega, fun k hk o ho => ?_⟩
      have hk' := List.mem_range.mp hk
      have hn' := hn (gm ms k) (gm_mem hk') o (List.mem_of_mem_drop ho)
      have ht : 0 ≤ turns (gm ms k) o := ab_nn _
      unfold good
      by_cases h00 : turns (gm ms k) o = 0
      · have hf := (fs f f0).mp (Int.le_refl f)
        have := hf.2 k hk o ho
        unfold good at this
        rw [h00] at this ⊢
        omega
      · have h1 : s * turns (gm ms k) o ≤ 3 * turns (gm ms k) o := Int.mul_le_mul_of_nonneg_right hs ht
        omega
    have ef : (fun one : Nat => decide (bars (one : Int) ms = [])) = fun one : Nat => decide (f.toNat ≤ one) := by
      funext one
      apply decide_eq_decide.mpr
      rw [bars_nil]
      have := fs (one : Int) (by omega)
      constructor
      · intro h
        have := this.mpr ⟨by omega, h⟩
        omega
      · intro h
        exact (this.mp (by omega)).2
    rw [ef, least40 f.toNat (by omega)]
    simp
    omega
end K53

namespace K53
open PySem PySem.Spec PyProof.Rows L2 TL
structure Bx where
  a : Int
  b : Int
  c : Int
  d : Int
  deriving DecidableEq
def bxD (b : Bx) : D := .tup [.int b.a, .int b.b, .int b.c, .int b.d]
def rch (s : Int) (t : Int) (m : Mk) : Int := m.n + s * ab (t - m.t)
def byB (s t : Int) (m : Mk) : Bx := ⟨m.x - rch s t m, m.x + rch s t m, m.y - rch s t m, m.y + rch s t m⟩
def comb (b c : Bx) : Bx := ⟨mx b.a c.a, mn b.b c.b, mx b.c c.c, mn b.d c.d⟩
def box (s t : Int) : List Mk → Bx
  | [] => ⟨0, 0, 0, 0⟩
  | m :: ms => ms.foldl (fun b m => comb b (byB s t m)) (byB s t m)
def OkT (t : Int) : Prop := -1000000 ≤ t ∧ t ≤ 1000000
theorem by_ok (s t : Int) (hs : OkS s) (ht : OkT t) (m : Mk) (hm : Sz m) : F_box_by [.int s, mkD m, .int t] = some (bxD (byB s t m), [.int s, mkD m, .int t]) := by
  unfold F_box_by b_box_by
  rw [v_run3]
  have h1 := sm_of (i := s) (by have := hs.lo; omega) (by have := hs.hi; omega)
  have h2 := sm_ab (i := t - m.t) (by have := hm.t; have := ht.1; omega) (by have := hm.t; have := ht.2; omega)
  simp [mkD, bxD, byB, rch, d_ab, -d_abs, h1, h2, okLen_of (n := 4) (by omega)]
theorem box_loop (z0 z1 z2 z3 : D) : ∀ (bs : List Bx) (b : Bx), loopF (stepB (gNm 4) q2_box) [4] (bs.map bxD) [z0, z1, z2, z3, .non, .int b.a, .int b.b, .int b.c, .int b.d, .non] = some (.nx [z0, z1, z2, z3, .non, .int (bs.foldl comb b).a, .int (bs.foldl comb b).b, .int (bs.foldl comb b).c, .int (bs.foldl comb b).d, .non])
  | [], b => rfl
  | c :: bs, b => by
    rw [List.map_cons, loop_go (ρ' := [z0, z1, z2, z3, .non, .int (comb b c).a, .int (comb b c).b, .int (comb b c).c, .int (comb b c).d, .non]), box_loop z0 z1 z2 z3 bs (comb b c)]
    · rfl
    · simp [q2_box, bxD, comb, d_mx, d_mn, -d_max2, -d_min2]
theorem mx_self (i : Int) : mx i i = i := by unfold mx; split <;> rfl
theorem mn_self (i : Int) : mn i i = i := by unfold mn; split <;> rfl
theorem comb_self (b : Bx) : comb b b = b := by cases b; simp [comb, mx_self, mn_self]
theorem box_ok (s t : Int) (hs : OkS s) (ht : OkT t) (ms : List Mk) (hz : SzL ms) (hn : ms.length ≤ 1000) (h0 : ms ≠ []) : F_box [.int s, msD ms, .int t] = some (bxD (box s t ms), [.int s, msD ms, .int t]) := by
  unfold F_box b_box
  rw [v_run3]
  have e1 : ∀ z, lcF (stepLc [9] (gNm 9) tYesF e1_box) (ms.map mkD) [.int s, z, .int t, .non, .non, .non, .non, .non, .non, .non] = some (ms.map fun m => bxD (byB s t m), [.int s, z, .int t, .non, .non, .non, .non, .non, .non, .non]) := by
    intro z
    refine lc_all mkD (fun m => bxD (byB s t m)) _ _ fun m hm => ?_
    have e := by_ok s t hs ht m (hz m hm)
    generalize mkD m = M at *
    generalize bxD (byB s t m) = B at *
    simp [e1_box, e]
  cases ms with
  | nil => exact absurd rfl h0
  | cons m ms =>
    have e2 := box_loop (.int s) (msD (m :: ms)) (.int t) (.lst ((m :: ms).map fun m => bxD (byB s t m))) (byB s t m :: ms.map (byB s t)) (byB s t m)
    have e3 : (byB s t m :: ms.map (byB s t)).foldl comb (byB s t m) = box s t (m :: ms) := by
      rw [List.foldl_cons, comb_self, List.foldl_map]
      rfl
    have e4 : (byB s t m :: ms.map (byB s t)).map bxD = (m :: ms).map fun m => bxD (byB s t m) := by simp
    rw [e3, e4] at e2
    have hl : ((m :: ms).map mkD).length = ms.length + 1 := by simp
    have hi : seqD (.v (msD (m :: ms))) = some ((m :: ms).map mkD) := rfl
    have e5 : atI ((m :: ms).map fun m => bxD (byB s t m)) 0 = some (.tup [.int (byB s t m).a, .int (byB s t m).b, .int (byB s t m).c, .int (byB s t m).d]) := by
      rw [List.map_cons, ix_0]; rfl
    simp only [List.length_cons] at hn
    have e1' := e1 (msD (m :: ms))
    generalize (m :: ms).map mkD = L at *
    generalize ((m :: ms).map fun m => bxD (byB s t m)) = BS at *
    generalize msD (m :: ms) = W at *
    generalize box s t (m :: ms) = X at *
    simp [hi, hl, okLen_of (n := ms.length + 1) (by omega), e1', e5, e2, bxD, okLen_of (n := 4) (by omega)]
/-! the law's box -/
def lo1 (s t : Int) (m : Mk) : Int := m.x - m.n - s * ab (t - m.t)
def hi1 (s t : Int) (m : Mk) : Int := m.x + m.n + s * ab (t - m.t)
def lo2 (s t : Int) (m : Mk) : Int := m.y - m.n - s * ab (t - m.t)
def hi2 (s t : Int) (m : Mk) : Int := m.y + m.n + s * ab (t - m.t)
def mxL : List Int → Int
  | [] => 0
  | a :: r => r.foldl mx a
def mnL : List Int → Int
  | [] => 0
  | a :: r => r.foldl mn a
theorem maxD_m {α : Type} (f : α → Int) (l : List α) (h : l ≠ []) : maxD (.lst (l.map fun a => D.int (f a))) = some (.int (mxL (l.map f))) := by
  cases l with
  | nil => exact absurd rfl h
  | cons a l =>
    have e := getInts_m f (a :: l)
    show (getInts _).bind _ = _
    rw [e]; rfl
theorem minD_m {α : Type} (f : α → Int) (l : List α) (h : l ≠ []) : minD (.lst (l.map fun a => D.int (f a))) = some (.int (mnL (l.map f))) := by
  cases l with
  | nil => exact absurd rfl h
  | cons a l =>
    have e := getInts_m f (a :: l)
    show (getInts _).bind _ = _
    rw [e]; rfl
theorem box_eq (s t : Int) (ms : List Mk) : box s t ms = ⟨mxL (ms.map (lo1 s t)), mnL (ms.map (hi1 s t)), mxL (ms.map (lo2 s t)), mnL (ms.map (hi2 s t))⟩ := by
  cases ms with
  | nil => rfl
  | cons m ms =>
    have go : ∀ (l : List Mk) (b : Bx), l.foldl (fun b m => comb b (byB s t m)) b = ⟨(l.map (lo1 s t)).foldl mx b.a, (l.map (hi1 s t)).foldl mn b.b, (l.map (lo2 s t)).foldl mx b.c, (l.map (hi2 s t)).foldl mn b.d⟩ := by
      intro l
      induction l with
      | nil => intro b; rfl
      | cons o l ih =>
        intro b
        rw [List.foldl_cons, ih]
        have h1 : (byB s t o).a = lo1 s t o := by simp [byB, rch, lo1]; omega
        have h2 : (byB s t o).b = hi1 s t o := by simp [byB, rch, hi1]; omega
        have h3 : (byB s t o).c = lo2 s t o := by simp [byB, rch, lo2]; omega
        have h4 : (byB s t o).d = hi2 s t o := by simp [byB, rch, hi2]; omega
        simp [comb, h1, h2, h3, h4]
    show ms.foldl (fun b m => comb b (byB s t m)) (byB s t m) = _
    rw [go]
    have h1 : (byB s t m).a = lo1 s t m := by simp [byB, rch, lo1]; omega
    have h2 : (byB s t m).b = hi1 s t m := by simp [byB, rch, hi1]; omega
    have h3 : (byB s t m).c = lo2 s t m := by simp [byB, rch, lo2]; omega
    have h4 : (byB s t m).d = hi2 s t m := by simp [byB, rch, hi2]; omega
    rw [h1, h2, h3, h4]; rfl
theorem lbox_ok (s t : Int) (hs : OkS s) (ht : OkT t) (ms : List Mk) (hz : SzL ms) (hn : ms.length ≤ 1000) (h0 : ms ≠ []) (W : D) (hW : seqD (.v W) = some (ms.map mkD)) : F__law_box [.int s, W, .int t] = some (bxD (box s t ms), [.int s, W, .int t]) := by
  unfold F__law_box b__law_box
  rw [v_run3]
  have h1 := sm_of (i := s) (by have := hs.lo; omega) (by have := hs.hi; omega)
  have h2 : ∀ m ∈ ms, sm (ab (t - m.t)) = true := fun m hm => sm_ab (i := t - m.t) (by have := (hz m hm).t; have := ht.1; omega) (by have := (hz m hm).t; have := ht.2; omega)
  have i1 : ∀ z3 z4, lcF (stepLc [6] (gNm 6) tYesF e1__law_box) (ms.map mkD) [.int s, W, .int t, z3, z4, .int 1, .non] = some (ms.map fun m => .int (lo1 s t m), [.int s, W, .int t, z3, z4, .int 1, .non]) := fun z3 z4 => by
    refine lc_all mkD (fun m => .int (lo1 s t m)) _ _ fun m hm => ?_
    have := h2 m hm
    simp [e1__law_box, mkD, d_ab, -d_abs, h1, this, lo1]
  have i2 : ∀ z3 z4, lcF (stepLc [6] (gNm 6) tYesF e1__law_box) (ms.map mkD) [.int s, W, .int t, z3, z4, .int 2, .non] = some (ms.map fun m => .int (lo2 s t m), [.int s, W, .int t, z3, z4, .int 2, .non]) := fun z3 z4 => by
    refine lc_all mkD (fun m => .int (lo2 s t m)) _ _ fun m hm => ?_
    have := h2 m hm
    simp [e1__law_box, mkD, d_ab, -d_abs, h1, this, lo2]
  have i3 : ∀ z3 z4, lcF (stepLc [6] (gNm 6) tYesF e3__law_box) (ms.map mkD) [.int s, W, .int t, z3, z4, .int 1, .non] = some (ms.map fun m => .int (hi1 s t m), [.int s, W, .int t, z3, z4, .int 1, .non]) := fun z3 z4 => by
    refine lc_all mkD (fun m => .int (hi1 s t m)) _ _ fun m hm => ?_
    have := h2 m hm
    simp [e3__law_box, mkD, d_ab, -d_abs, h1, this, hi1]
  have i4 : ∀ z3 z4, lcF (stepLc [6] (gNm 6) tYesF e3__law_box) (ms.map mkD) [.int s, W, .int t, z3, z4, .int 2, .non] = some (ms.map fun m => .int (hi2 s t m), [.int s, W, .int t, z3, z4, .int 2, .non]) := fun z3 z4 => by
    refine lc_all mkD (fun m => .int (hi2 s t m)) _ _ fun m hm => ?_
    have := h2 m hm
    simp [e3__law_box, mkD, d_ab, -d_abs, h1, this, hi2]
  have m1 := maxD_m (lo1 s t) ms h0
  have m2 := minD_m (hi1 s t) ms h0
  have m3 := maxD_m (lo2 s t) ms h0
  have m4 := minD_m (hi2 s t) ms h0
  rw [box_eq]
  have hl : (ms.map mkD).length = ms.length := by simp
  generalize ms.map mkD = L at *
  generalize (ms.map fun m => D.int (lo1 s t m)) = A1 at *
  generalize (ms.map fun m => D.int (lo2 s t m)) = A2 at *
  generalize (ms.map fun m => D.int (hi1 s t m)) = A3 at *
  generalize (ms.map fun m => D.int (hi2 s t m)) = A4 at *
  generalize mxL (ms.map (lo1 s t)) = B1 at *
  generalize mxL (ms.map (lo2 s t)) = B2 at *
  generalize mnL (ms.map (hi1 s t)) = B3 at *
  generalize mnL (ms.map (hi2 s t)) = B4 at *
  simp [hW, lcF_cons, lcF_nil, e2__law_box, e4__law_box, i1, i2, i3, i4, okLen_of (n := 2) (by omega), okLen_of (n := 4) (by omega), hl, okLen_of (n := ms.length) (by omega), m1, m2, m3, m4, bxD]
end K53

namespace K53
open PySem PySem.Spec PyProof.Rows L2 TL
theorem foldmx : ∀ (l : List Int) (a : Int), (l.foldl mx a = a ∨ l.foldl mx a ∈ l) ∧ a ≤ l.foldl mx a ∧ ∀ x ∈ l, x ≤ l.foldl mx a
  | [], a => ⟨.inl rfl, Int.le_refl _, by simp⟩
  | b :: l, a => by
    obtain ⟨h1, h2, h3⟩ := foldmx l (mx a b)
    have hg := mx_ge a b
    refine ⟨?_, Int.le_trans hg.1 h2, fun x hx => ?_⟩
    · rw [List.foldl_cons]
      rcases h1 with h | h
      · rw [h]
        unfold mx
        split
        · right; simp
        · left; rfl
      · right; simp [h]
    · rw [List.foldl_cons]
      rcases List.mem_cons.mp hx with h | h
      · rw [h]; exact Int.le_trans hg.2 h2
      · exact h3 x h
theorem foldmn : ∀ (l : List Int) (a : Int), (l.foldl mn a = a ∨ l.foldl mn a ∈ l) ∧ l.foldl mn a ≤ a ∧ ∀ x ∈ l, l.foldl mn a ≤ x
  | [], a => ⟨.inl rfl, Int.le_refl _, by simp⟩
  | b :: l, a => by
    obtain ⟨h1, h2, h3⟩ := foldmn l (mn a b)
    have hg := mn_le a b
    refine ⟨?_, Int.le_trans h2 hg.1, fun x hx => ?_⟩
    · rw [List.foldl_cons]
      rcases h1 with h | h
      · rw [h]
        unfold mn
        split
        · right; simp
        · left; rfl
      · right; simp [h]
    · rw [List.foldl_cons]
      rcases List.mem_cons.mp hx with h | h
      · rw [h]; exact Int.le_trans h2 hg.2
      · exact h3 x h
theorem mxL_mem {l : List Int} (h : l ≠ []) : mxL l ∈ l := by
  cases l with
  | nil => exact absurd rfl h
  | cons a r =>
    rcases (foldmx r a).1 with e | e
    · show r.foldl mx a ∈ _; rw [e]; simp
    · show r.foldl mx a ∈ _; simp [e]
theorem mxL_ge {l : List Int} : ∀ x ∈ l, x ≤ mxL l := by
  cases l with
  | nil => intro x h; simp at h
  | cons a r =>
    intro x h
    rcases List.mem_cons.mp h with e | e
    · rw [e]; exact (foldmx r a).2.1
    · exact (foldmx r a).2.2 x e
theorem mnL_mem {l : List Int} (h : l ≠ []) : mnL l ∈ l := by
  cases l with
  | nil => exact absurd rfl h
  | cons a r =>
    rcases (foldmn r a).1 with e | e
    · show r.foldl mn a ∈ _; rw [e]; simp
    · show r.foldl mn a ∈ _; simp [e]
theorem mnL_le {l : List Int} : ∀ x ∈ l, mnL l ≤ x := by
  cases l with
  | nil => intro x h; simp at h
  | cons a r =>
    intro x h
    rcases List.mem_cons.mp h with e | e
    · rw [e]; exact (foldmn r a).2.1
    · exact (foldmn r a).2.2 x e
theorem cross {α : Type} (f g : α → Int) {l : List α} (h0 : l ≠ []) (h : ∀ a ∈ l, ∀ b ∈ l, f a ≤ g b) : mxL (l.map f) ≤ mnL (l.map g) := by
  obtain ⟨a, ha, e1⟩ := List.mem_map.mp (mxL_mem (l := l.map f) (by simpa using h0))
  obtain ⟨b, hb, e2⟩ := List.mem_map.mp (mnL_mem (l := l.map g) (by simpa using h0))
  rw [← e1, ← e2]
  exact h a ha b hb
theorem lips {α : Type} (f g : α → Int) (c : Int) {l : List α} (h0 : l ≠ []) (h : ∀ a ∈ l, f a ≤ g a + c) : mxL (l.map f) ≤ mxL (l.map g) + c := by
  obtain ⟨a, ha, e1⟩ := List.mem_map.mp (mxL_mem (l := l.map f) (by simpa using h0))
  have h1 := h a ha
  have h2 := mxL_ge (l := l.map g) (g a) (List.mem_map_of_mem ha)
  omega
theorem ab_tri (s t u v : Int) (h : 0 ≤ s) : s * ab (u - v) ≤ s * ab (t - u) + s * ab (t - v) := by
  rw [← Int.mul_add]
  refine Int.mul_le_mul_of_nonneg_left ?_ h
  unfold ab; split <;> split <;> split <;> omega
theorem ab_sub1 (s t u : Int) (h : 0 ≤ s) : s * ab (t - u) ≤ s * ab (t - 1 - u) + s ∧ s * ab (t - 1 - u) ≤ s * ab (t - u) + s := by
  have e : ∀ k : Int, s * k + s = s * (k + 1) := fun k => by rw [Int.mul_add, Int.mul_one]
  constructor
  · rw [e]
    refine Int.mul_le_mul_of_nonneg_left ?_ h
    unfold ab; split <;> split <;> omega
  · rw [e]
    refine Int.mul_le_mul_of_nonneg_left ?_ h
    unfold ab; split <;> split <;> omega
def Goods (s : Int) (ms : List Mk) : Prop := ∀ a ∈ ms, ∀ b ∈ ms, good s a b
theorem far_ge (a b : Mk) : a.x - b.x ≤ far a b ∧ b.x - a.x ≤ far a b ∧ a.y - b.y ≤ far a b ∧ b.y - a.y ≤ far a b := by
  unfold far mx ab
  split <;> split <;> split <;> omega
theorem far_sym (a b : Mk) : far a b = far b a := by
  have h1 : ab (a.x - b.x) = ab (b.x - a.x) := by unfold ab; split <;> split <;> omega
  have h2 : ab (a.y - b.y) = ab (b.y - a.y) := by unfold ab; split <;> split <;> omega
  unfold far; rw [h1, h2]
theorem turns_sym (a b : Mk) : turns a b = turns b a := by
  unfold turns ab; split <;> split <;> omega
theorem good_sym {s : Int} {a b : Mk} (h : good s a b) : good s b a := by
  unfold good lacks at *
  rw [far_sym b a, turns_sym b a]; omega
theorem goods_of (s : Int) (hs : 0 ≤ s) (ms : List Mk) (hn : ∀ m ∈ ms, 0 ≤ m.n) (h : bars s ms = []) : Goods s ms := by
  rw [bars_nil] at h
  intro a ha b hb
  obtain ⟨i, hi, ea⟩ := List.mem_iff_getElem.mp ha
  obtain ⟨j, hj, eb⟩ := List.mem_iff_getElem.mp hb
  have key : ∀ (i j : Nat) (hi : i < ms.length) (hj : j < ms.length), i < j → good s ms[i] ms[j] := by
    intro i j hi hj hij
    have := h i (List.mem_range.mpr hi) ms[j] (by
      rw [List.mem_iff_getElem]
      refine ⟨j - (i + 1), by rw [List.length_drop]; omega, ?_⟩
      rw [List.getElem_drop]
      congr 1; omega)
    have eg : gm ms i = ms[i] := by
      unfold gm
      rw [List.getD_eq_getElem?_getD, List.getElem?_eq_getElem hi, Option.getD_some]
    rwa [eg] at this
  rw [← ea, ← eb]
  rcases Nat.lt_trichotomy i j with h1 | h1 | h1
  · exact key i j hi hj h1
  · subst h1
    have := hn ms[i] (List.getElem_mem hi)
    unfold good lacks turns far
    have e1 : ab (ms[i].x - ms[i].x) = 0 := by unfold ab; split <;> omega
    have e2 : ab (ms[i].y - ms[i].y) = 0 := by unfold ab; split <;> omega
    have e3 : ab (ms[i].t - ms[i].t) = 0 := by unfold ab; split <;> omega
    have e4 : mx (0 : Int) 0 = 0 := by unfold mx; split <;> omega
    rw [e1, e2, e3, e4]
    omega
  · exact good_sym (key j i hj hi h1)
theorem box_in (s t : Int) (hs : 0 ≤ s) (ms : List Mk) (h0 : ms ≠ []) (hg : Goods s ms) : (box s t ms).a ≤ (box s t ms).b ∧ (box s t ms).c ≤ (box s t ms).d := by
  rw [box_eq]
  constructor
  · refine cross _ _ h0 fun a ha b hb => ?_
    have h1 := hg a ha b hb
    have h2 := far_ge a b
    have h3 := ab_tri s t a.t b.t hs
    unfold good lacks turns at h1
    unfold lo1 hi1
    omega
  · refine cross _ _ h0 fun a ha b hb => ?_
    have h1 := hg a ha b hb
    have h2 := far_ge a b
    have h3 := ab_tri s t a.t b.t hs
    unfold good lacks turns at h1
    unfold lo2 hi2
    omega
theorem box_lip (s t : Int) (hs : 0 ≤ s) (ms : List Mk) (h0 : ms ≠ []) : ab ((box s t ms).a - (box s (t - 1) ms).a) ≤ s ∧ ab ((box s t ms).c - (box s (t - 1) ms).c) ≤ s := by
  rw [box_eq, box_eq]
  have k1 := lips (lo1 s t) (lo1 s (t - 1)) s h0 fun m hm => by have := ab_sub1 s t m.t hs; unfold lo1; omega
  have k2 := lips (lo1 s (t - 1)) (lo1 s t) s h0 fun m hm => by have := ab_sub1 s t m.t hs; unfold lo1; omega
  have k3 := lips (lo2 s t) (lo2 s (t - 1)) s h0 fun m hm => by have := ab_sub1 s t m.t hs; unfold lo2; omega
  have k4 := lips (lo2 s (t - 1)) (lo2 s t) s h0 fun m hm => by have := ab_sub1 s t m.t hs; unfold lo2; omega
  simp only
  constructor
  · unfold ab; split <;> omega
  · unfold ab; split <;> omega
end K53

namespace K53
open PySem PySem.Spec PyProof.Rows L2 TL
def rws (n k : Nat) : List (List Nat) := (rowsC n k).getD []
def rowN (idx : List Nat) : D := .tup (idx.map fun j : Nat => D.int (j : Int))
def gD (idx : List Nat) : D := .tup [.int (idx.length : Int), rowN idx]
def ltG (a b : List Nat) : Bool := ltD (gD a) (gD b)
def allR (n : Nat) : List (List Nat) := (List.range n).flatMap fun i => rws n (1 + i)
def setsN : Nat → List (List Nat)
  | 0 => [[]]
  | k + 1 => setsN k ++ (setsN k).map (· ++ [k])
theorem rows_some : ∀ n, n < 6 → ∀ k, k < 6 → (rowsC n k).isSome = true := by decide +kernel
theorem rows_lt : ∀ n, n < 6 → ∀ k, k < 6 → ∀ idx ∈ rws n k, ∀ j ∈ idx, j < n := by decide +kernel
theorem rows_len : ∀ n, n < 6 → ∀ k, k < 6 → (rws n k).length ≤ 20 ∧ ∀ idx ∈ rws n k, idx.length ≤ 6 := by decide +kernel
theorem rows_ne : ∀ n, n < 6 → ∀ k, k < 6 → 0 < k → ∀ idx ∈ rws n k, idx ≠ [] := by decide +kernel
theorem all_srt : ∀ n, n < 6 → (allR n).Pairwise fun a b => ltG a b = true := by decide +kernel
theorem all_mem : ∀ n, n < 6 → (∀ x ∈ setsN n, x ≠ [] → x ∈ allR n) ∧ (∀ x ∈ allR n, x ∈ setsN n ∧ x ≠ []) := by decide +kernel
theorem all_full : ∀ n, n < 6 → 0 < n → List.range n ∈ allR n := by decide +kernel
theorem sets_len : ∀ n, n < 6 → (setsN n).length ≤ 40 ∧ ∀ x ∈ setsN n, x.length ≤ 6 ∧ ∀ j ∈ x, j < n := by decide +kernel
theorem cmb_rows (n k : Nat) (hn : n < 6) (hk : k < 6) : cmbD (intsD 0 n) (k : Int) = some ((rws n k).map rowN) := by
  have hs := rows_some n hn k hk
  have hl := rows_lt n hn k hk
  unfold rws at hl ⊢
  unfold cmbD
  rw [if_pos ⟨by omega, by omega, by rw [intsD_len]; exact okS_of (by omega)⟩, intsD_len, Int.toNat_natCast]
  cases h : rowsC n k with
  | none => rw [h] at hs; cases hs
  | some rows =>
    rw [h] at hl
    simp only [Option.map_some, Option.getD_some] at hl ⊢
    congr 1
    apply List.map_congr_left
    intro idx hi
    unfold cmbRow rowN
    congr 1
    apply List.map_congr_left
    intro j hj
    have := hl idx hi j hj
    unfold intsD
    rw [List.getD_eq_getElem?_getD, List.getElem?_map, List.getElem?_range this]
    simp
def sub (ms : List Mk) (idx : List Nat) : List Mk := idx.map (gm ms)
def sameB (s : Int) (ms : List Mk) (T : Nat) (o : List Mk) : Bool := (List.range T).all fun t => decide (box s (t : Int) ms = box s (t : Int) o)
def maxT (ms : List Mk) : Nat := (mxL (ms.map fun m => m.t)).toNat + 1
theorem bx_eq (a b : Bx) : dEq (bxD a) (bxD b) = some (.bl (decide (a = b))) := by
  have h : pyOk 40 (bxD a) = true ∧ pyOk 40 (bxD b) = true := by simp [bxD, pyOk]
  unfold dEq
  rw [h.1, h.2]
  simp only [Bool.and_self, if_true]
  congr 2
  rw [Bool.eq_iff_iff]
  cases a; cases b
  simp [bxD, dq, dqs]
theorem bx_ne (a b : Bx) : dNe (bxD a) (bxD b) = some (.bl (!decide (a = b))) := by
  have h : pyOk 40 (bxD a) = true ∧ pyOk 40 (bxD b) = true := by simp [bxD, pyOk]
  unfold dNe
  rw [h.1, h.2]
  simp only [Bool.and_self, if_true]
  congr 2
  rw [Bool.eq_iff_iff]
  cases a; cases b
  simp [bxD, dq, dqs]
structure Tms (ms : List Mk) : Prop where
  sz : SzL ms
  len : ms.length ≤ 1000
  ne : ms ≠ []
  t0 : ∀ m ∈ ms, 0 ≤ m.t ∧ m.t ≤ 1000
theorem maxT_ok {ms : List Mk} (h : Tms ms) : mxL (ms.map fun m => m.t) + 1 = (maxT ms : Int) ∧ maxT ms ≤ 1001 := by
  obtain ⟨m, hm, e⟩ := List.mem_map.mp (mxL_mem (l := ms.map fun m => m.t) (by simpa using h.ne))
  have := h.t0 m hm
  unfold maxT
  omega
theorem same_boxes_ok (s : Int) (hs : OkS s) (ms o : List Mk) (h : Tms ms) (hz : SzL o) (hl : o.length ≤ 1000) (h0 : o ≠ []) : ∃ l, F_same_boxes [.int s, msD ms, msD o] = some (.bl (sameB s ms (maxT ms) o), l) := by
  unfold F_same_boxes b_same_boxes
  rw [v_run3]
  obtain ⟨e1, e2⟩ := maxT_ok h
  have e3 : lcF (stepLc [4] (gNm 4) tYesF e1_same_boxes) (ms.map mkD) [.int s, msD ms, msD o, .non, .non] = some (ms.map fun m => .int m.t, [.int s, msD ms, msD o, .non, .non]) := by
    refine lc_all mkD (fun m => .int m.t) _ _ fun m _ => ?_
    simp [e1_same_boxes, mkD]
  have e4 := maxD_m (fun m : Mk => m.t) ms h.ne
  have hi : seqD (.v (msD ms)) = some (ms.map mkD) := rfl
  have hL : (ms.map mkD).length = ms.length := by simp
  have key := loop_ret (b := stepB (gNm 3) q2_same_boxes) (ks := [3]) (fun i : Nat => D.int (i : Int)) [.int s, msD ms, msD o, .non, .non] (fun t => !decide (box s (t : Int) ms = box s (t : Int) o)) (.bl false) (List.range (maxT ms)) fun t ht => by
    have ht := List.mem_range.mp ht
    have b1 := box_ok s (t : Int) hs ⟨by omega, by omega⟩ ms h.sz h.len h.ne
    have b2 := box_ok s (t : Int) hs ⟨by omega, by omega⟩ o hz hl h0
    have b3 := bx_ne (box s (t : Int) ms) (box s (t : Int) o)
    generalize decide (box s (t : Int) ms = box s (t : Int) o) = B at *
    generalize bxD (box s (t : Int) ms) = X1 at *
    generalize bxD (box s (t : Int) o) = X2 at *
    generalize msD ms = W at *
    generalize msD o = W2 at *
    cases B with
    | true => exact ⟨fun h => (by cases h), fun _ => by simp [q2_same_boxes, b1, b2, b3]⟩
    | false => exact ⟨fun _ => ⟨[.int s, W, W2, .int (t : Int), .non], by simp [q2_same_boxes, b1, b2, b3]⟩, fun h => by cases h⟩
  have eB : sameB s ms (maxT ms) o = !((List.range (maxT ms)).any fun t => !decide (box s (t : Int) ms = box s (t : Int) o)) := by
    unfold sameB
    rw [List.not_any_eq_all_not]
    simp
  rw [eB]
  have ho := okLen_of (n := ms.length) (by have := h.len; omega)
  have h62 := s62_of (i := (maxT ms : Int)) (by omega) (by omega)
  obtain ⟨k1, k2⟩ := key
  refine exo ?_
  generalize ((List.range (maxT ms)).any fun t => !decide (box s (t : Int) ms = box s (t : Int) o)) = B at *
  generalize (ms.map fun m => D.int m.t) = TT at *
  generalize mxL (ms.map fun m => m.t) = MT at *
  generalize ms.map mkD = L at *
  generalize msD ms = W at *
  generalize msD o = W2 at *
  cases B with
  | true =>
    obtain ⟨r, e⟩ := k1 rfl
    simp [hi, hL, ho, e3, e4, e1, h62, intsD0, e]
  | false =>
    have e := k2 rfl
    simp [hi, hL, ho, e3, e4, e1, h62, intsD0, e]
theorem sub_ok {ms : List Mk} (h : Tms ms) {idx : List Nat} (hi : ∀ j ∈ idx, j < ms.length) (hl : idx.length ≤ 6) (h0 : idx ≠ []) : SzL (sub ms idx) ∧ (sub ms idx).length ≤ 1000 ∧ sub ms idx ≠ [] := by
  refine ⟨fun m hm => ?_, by simp [sub]; omega, by simpa [sub] using h0⟩
  obtain ⟨j, hj, rfl⟩ := List.mem_map.mp hm
  exact h.sz _ (gm_mem (hi j hj))
theorem sub_full (ms : List Mk) : sub ms (List.range ms.length) = ms := by
  unfold sub
  apply List.ext_getElem?
  intro i
  rw [List.getElem?_map]
  by_cases h : i < ms.length
  · rw [List.getElem?_range h, List.getElem?_eq_getElem h]
    simp [gm, List.getD_eq_getElem?_getD, List.getElem?_eq_getElem h]
  · rw [List.getElem?_eq_none (by simpa using h), List.getElem?_eq_none (by omega)]
    rfl
theorem lm_inner (s : Int) (hs : OkS s) (ms : List Mk) (h : Tms ms) (hn : ms.length < 6) (k : Nat) (hk : k < 6) (hk0 : 0 < k) :
    (∀ d, (((rws ms.length k).find? fun idx => sameB s ms (maxT ms) (sub ms idx)).map rowN) = some d → ∃ r, loopF (stepB (gNm 3) q2_least_marks) [3] ((rws ms.length k).map rowN) [.int s, msD ms, .int (k : Int), .non, .non] = some (.rt d r)) ∧
    ((((rws ms.length k).find? fun idx => sameB s ms (maxT ms) (sub ms idx)).map rowN) = none → loopF (stepB (gNm 3) q2_least_marks) [3] ((rws ms.length k).map rowN) [.int s, msD ms, .int (k : Int), .non, .non] = some (.nx [.int s, msD ms, .int (k : Int), .non, .non])) := by
  have key := loop_first (b := stepB (gNm 3) q2_least_marks) (ks := [3]) rowN [.int s, msD ms, .int (k : Int), .non, .non] (fun idx => if sameB s ms (maxT ms) (sub ms idx) then some (rowN idx) else none) (rws ms.length k) fun idx hi => by
    have hlt := rows_lt ms.length hn k hk idx hi
    have hle := (rows_len ms.length hn k hk).2 idx hi
    have hne : idx ≠ [] := by
      have e := rows_ne ms.length hn k hk hk0 idx hi
      exact e
    obtain ⟨z1, z2, z3⟩ := sub_ok h hlt hle hne
    obtain ⟨l, e1⟩ := same_boxes_ok s hs ms (sub ms idx) h z1 z2 z3
    have e2 : lcF (stepLc [4] (gNm 4) tYesF e1_least_marks) (idx.map fun j : Nat => D.int (j : Int)) [.int s, msD ms, .int (k : Int), rowN idx, .non] = some ((sub ms idx).map mkD, [.int s, msD ms, .int (k : Int), rowN idx, .non]) := by
      rw [lc_all (fun j : Nat => D.int (j : Int)) (fun j => mkD (gm ms j)) _ _ fun j hj => by
        have := ix_m ms j (hlt j hj)
        generalize mkD (gm ms j) = M at *
        generalize msD ms = W at *
        simp [e1_least_marks, this]]
      simp [sub]
    have e3 : seqD (.v (rowN idx)) = some (idx.map fun j : Nat => D.int (j : Int)) := rfl
    have e4 : (idx.map fun j : Nat => D.int (j : Int)).length = idx.length := by simp
    have e5 : msD (sub ms idx) = .tup ((sub ms idx).map mkD) := rfl
    rw [e5] at e1
    generalize sameB s ms (maxT ms) (sub ms idx) = B at *
    generalize (sub ms idx).map mkD = L at *
    generalize (idx.map fun j : Nat => D.int (j : Int)) = J at *
    generalize rowN idx = RW' at *
    generalize msD ms = W at *
    cases B with
    | true => exact ⟨fun d e => by
        cases e
        exact ⟨[.int s, W, .int (k : Int), RW', .non], by simp [q2_least_marks, e3, e4, okLen_of (n := idx.length) (by omega), e2, e1]⟩, fun e => by cases e⟩
    | false => exact ⟨fun d e => (by cases e), fun _ => by simp [q2_least_marks, e3, e4, okLen_of (n := idx.length) (by omega), e2, e1]⟩
  have e : (((rws ms.length k).find? fun idx => sameB s ms (maxT ms) (sub ms idx)).map rowN) = (rws ms.length k).findSome? fun idx => if sameB s ms (maxT ms) (sub ms idx) then some (rowN idx) else none := by
    generalize rws ms.length k = l
    induction l with
    | nil => rfl
    | cons a l ih =>
      rw [List.find?_cons, List.findSome?_cons]
      cases sameB s ms (maxT ms) (sub ms a) with
      | true => rfl
      | false => exact ih
  rw [e]
  exact key
end K53

namespace K53
open PySem PySem.Spec PyProof.Rows L2 TL
def pIx (s : Int) (ms : List Mk) (idx : List Nat) : Bool := sameB s ms (maxT ms) (sub ms idx)
theorem find_flat {α β : Type} (p : β → Bool) (f : α → List β) (g : β → D) : ∀ l : List α, ((l.flatMap f).find? p).map g = l.findSome? fun a => ((f a).find? p).map g
  | [] => rfl
  | a :: l => by
    rw [List.flatMap_cons, List.find?_append, List.findSome?_cons, ← find_flat p f g l]
    cases (f a).find? p <;> rfl
theorem least_ok (s : Int) (hs : OkS s) (ms : List Mk) (h : Tms ms) (hn : ms.length < 6) : ∃ idx, (allR ms.length).find? (pIx s ms) = some idx ∧ ∃ l, F_least_marks [.int s, msD ms] = some (rowN idx, l) := by
  have h0 : 0 < ms.length := List.length_pos_iff.mpr h.ne
  have key := loop_first (b := stepB (gNm 2) q3_least_marks) (ks := [2, 3]) (fun i : Nat => D.int ((1 + i : Nat) : Int)) [.int s, msD ms, .non, .non, .non] (fun i => ((rws ms.length (1 + i)).find? (pIx s ms)).map rowN) (List.range ms.length) fun i hi => by
    have hi := List.mem_range.mp hi
    obtain ⟨k1, k2⟩ := lm_inner s hs ms h hn (1 + i) (by omega) (by omega)
    have ec := cmb_rows ms.length (1 + i) hn (by omega)
    have el := len_m ms
    have z1 := s62_of (i := (ms.length : Int)) (by omega) (by omega)
    have z2 := okLen_of (n := ms.length) (by omega)
    have eP : (rws ms.length (1 + i)).find? (pIx s ms) = (rws ms.length (1 + i)).find? fun idx => sameB s ms (maxT ms) (sub ms idx) := rfl
    rw [eP]
    have ei : ∀ z3 z4, iCmbR (eCa (f1 lenD) (aCons (eVar 1) aNil)) (eVar 2) [.int s, msD ms, .int ((1 + i : Nat) : Int), z3, z4] = some ((rws ms.length (1 + i)).map rowN, [.int s, msD ms, .int ((1 + i : Nat) : Int), z3, z4]) := by
      intro z3 z4
      unfold iCmbR
      generalize msD ms = W at *
      simp [el]
      rw [Int.natCast_add, Int.cast_ofNat_Int] at ec
      simp [z1, z2, ec]
    generalize ((rws ms.length (1 + i)).find? fun idx => sameB s ms (maxT ms) (sub ms idx)).map rowN = O at *
    generalize (rws ms.length (1 + i)).map rowN = RR at *
    generalize ((1 + i : Nat) : Int) = K at *
    generalize msD ms = W at *
    refine ⟨fun d e => ?_, fun e => ?_⟩
    · obtain ⟨r, e'⟩ := k1 d e
      exact ⟨r, by simp [q3_least_marks, ei, e']⟩
    · have e' := k2 e
      simp [q3_least_marks, ei, e']
  rw [← find_flat (pIx s ms) (fun i => rws ms.length (1 + i)) rowN] at key
  have ea : (List.range ms.length).flatMap (fun i => rws ms.length (1 + i)) = allR ms.length := rfl
  rw [ea] at key
  have hf : pIx s ms (List.range ms.length) = true := by
    unfold pIx sameB
    rw [sub_full]
    simp
  have hs2 : ((allR ms.length).find? (pIx s ms)).isSome = true := by
    rw [List.find?_isSome]
    exact ⟨_, all_full ms.length hn h0, hf⟩
  obtain ⟨idx, ei⟩ := Option.isSome_iff_exists.mp hs2
  refine ⟨idx, ei, ?_⟩
  rw [ei] at key
  obtain ⟨r, e⟩ := key.1 (rowN idx) rfl
  unfold F_least_marks b_least_marks
  rw [v_run2]
  have el := len_m ms
  have z1 := s62_of (i := (ms.length : Int) + 1) (by omega) (by omega)
  have e3 : ((ms.length : Int) + 1 - 1).toNat = ms.length := by omega
  have en := intsDn 1 ms.length
  simp only [Int.natCast_add, Int.cast_ofNat_Int] at en e
  refine exo ?_
  generalize rowN idx = RW' at *
  generalize msD ms = W at *
  simp [el, z1, s62_of (i := 1) (by omega) (by omega), e3, en, e]
/-! the least by the law's way -/
def minI : List (List Nat) → List Nat
  | [] => []
  | a :: r => r.foldl (fun a y => if ltG y a then y else a) a
theorem minI_spec : ∀ (r : List (List Nat)) (a : List Nat), (r.foldl (fun a y => if ltG y a then y else a) a = a ∨ r.foldl (fun a y => if ltG y a then y else a) a ∈ r) ∧
    ∀ y ∈ a :: r, ltG y (r.foldl (fun a y => if ltG y a then y else a) a) = false
  | [], a => ⟨.inl rfl, fun y hy => by
      have : y = a := by simpa using hy
      rw [this]; exact ltD_irr _⟩
  | b :: r, a => by
    obtain ⟨h1, h2⟩ := minI_spec r (if ltG b a then b else a)
    rw [List.foldl_cons]
    generalize hm : r.foldl (fun a y => if ltG y a then y else a) (if ltG b a then b else a) = m at *
    have hh := h2 (if ltG b a then b else a) (by simp)
    refine ⟨?_, fun y hy => ?_⟩
    · rcases h1 with h | h
      · rw [h]
        split
        · right; simp
        · left; rfl
      · right; simp [h]
    · simp only [List.mem_cons] at hy
      rcases hy with rfl | rfl | hy
      · by_cases hb : ltG b y = true
        · rw [if_pos hb] at hh
          cases hc : ltG y m with
          | false => rfl
          | true =>
            have : ltG b m = true := ltD_trans (show ltD (gD b) (gD y) = true from hb) hc
            rw [hh] at this; cases this
        · rw [if_neg hb] at hh; exact hh
      · by_cases hb : ltG y a = true
        · rw [if_pos hb] at hh; exact hh
        · rw [if_neg hb] at hh
          cases hc : ltG y m with
          | false => rfl
          | true =>
            rcases PyProof.Rows.lex_negTrans _ (PySem.W.keyToks (py (gD a))) _ (show ltD (gD y) (gD m) = true from hc) with z | z
            · exact absurd z hb
            · have : ltG a m = true := z
              rw [hh] at this; cases this
      · exact h2 y (by simp [hy])
theorem first_of {l : List (List Nat)} (hp : l.Pairwise fun a b => ltG a b = true) {p : List Nat → Bool} {f m : List Nat} (hf : l.find? p = some f) (hm : m ∈ l) (pm : p m = true) : m = f ∨ ltG f m = true := by
  induction l with
  | nil => simp at hm
  | cons a l ih =>
    rw [List.find?_cons] at hf
    rw [List.pairwise_cons] at hp
    cases ha : p a with
    | true =>
      rw [ha] at hf
      cases hf
      rcases List.mem_cons.mp hm with e | e
      · exact .inl e
      · exact .inr (hp.1 m e)
    | false =>
      rw [ha] at hf
      rcases List.mem_cons.mp hm with e | e
      · rw [e, ha] at pm; cases pm
      · exact ih hp.2 hf e
def goodL (s : Int) (ms : List Mk) : List (List Nat) := (setsN ms.length).filter fun idx => !idx.isEmpty && pIx s ms idx
theorem min_first (s : Int) (ms : List Mk) (hn : ms.length < 6) (f : List Nat) (hf : (allR ms.length).find? (pIx s ms) = some f) : goodL s ms ≠ [] ∧ minI (goodL s ms) = f := by
  obtain ⟨a1, a2⟩ := all_mem ms.length hn
  have pf := List.find?_some hf
  have mf := List.mem_of_find?_eq_some hf
  obtain ⟨b1, b2⟩ := a2 f mf
  have fg : f ∈ goodL s ms := by
    unfold goodL
    rw [List.mem_filter]
    exact ⟨b1, by rw [pf]; cases f with | nil => exact absurd rfl b2 | cons _ _ => rfl⟩
  refine ⟨fun e => by rw [e] at fg; simp at fg, ?_⟩
  cases hg : goodL s ms with
  | nil => rw [hg] at fg; simp at fg
  | cons a r =>
    obtain ⟨h1, h2⟩ := minI_spec r a
    have hm : minI (a :: r) ∈ goodL s ms := by
      rw [hg]
      show r.foldl _ a ∈ _
      rcases h1 with h | h
      · rw [h]; simp
      · simp [h]
    have hm' := hm
    unfold goodL at hm'
    rw [List.mem_filter, Bool.and_eq_true] at hm'
    have hne : minI (a :: r) ≠ [] := fun e => by rw [e] at hm'; simp at hm'
    have h3 := h2 f (by rw [← hg]; exact fg)
    rcases first_of (all_srt ms.length hn) hf (a1 _ hm'.1 hne) hm'.2.2 with h | h
    · exact h
    · have : ltG f (minI (a :: r)) = false := h3
      rw [this] at h; cases h
open PySem.W in
theorem ints_alike : ∀ l m : List Nat, alikeAll (pys (l.map fun j : Nat => D.int (j : Int))) (pys (m.map fun j : Nat => D.int (j : Int))) = true
  | [], _ => by simp [pys, alikeAll]
  | _ :: _, [] => by simp [pys, alikeAll]
  | a :: l, b :: m => by simp [List.map_cons, pys, alikeAll, py, alike, ints_alike l m]
open PySem.W in
theorem g_alike (a b : List Nat) : alikeD (gD a) (gD b) = true := by
  simp [alikeD, gD, rowN, py, pys, alike, alikeAll, ints_alike]
theorem g_ok (a : List Nat) : pyOk 40 (gD a) = true := by
  simp [gD, rowN, pyOk]
theorem minLG_ok (l : List (List Nat)) (h : l ≠ []) : minLG (.lst (l.map gD)) = some (gD (minI l)) := by
  cases l with
  | nil => exact absurd rfl h
  | cons a r =>
    show (if ((a :: r).map gD).all _ && ((a :: r).map gD).all _ then _ else _) = _
    rw [if_pos]
    · congr 1
      show (r.map gD).foldl _ (gD a) = _
      rw [List.foldl_map]
      show _ = gD (r.foldl _ a)
      have go : ∀ (r : List (List Nat)) (a : List Nat), r.foldl (fun x y => if ltD (gD y) x then gD y else x) (gD a) = gD (r.foldl (fun a y => if ltG y a then y else a) a) := by
        intro r
        induction r with
        | nil => intro a; rfl
        | cons b r ih =>
          intro a
          rw [List.foldl_cons, List.foldl_cons, ← ih]
          congr 1
          unfold ltG
          cases ltD (gD b) (gD a) <;> rfl
      exact go r a
    · rw [Bool.and_eq_true]
      constructor
      · rw [List.all_eq_true]
        intro x hx
        obtain ⟨y, _, rfl⟩ := List.mem_map.mp (show x ∈ (a :: r).map gD from hx)
        rw [g_ok]; rfl
      · rw [List.all_eq_true]
        intro x hx
        obtain ⟨y, _, rfl⟩ := List.mem_map.mp (show x ∈ (a :: r).map gD from hx)
        rw [List.all_eq_true]
        intro x' hx'
        obtain ⟨y', _, rfl⟩ := List.mem_map.mp (show x' ∈ (a :: r).map gD from hx')
        exact g_alike y y'
end K53

namespace K53
open PySem PySem.Spec PyProof.Rows L2 TL
theorem nxt (ns : List Int) (s : Dr) (h : s.ok) (m : Int) (h0 : 0 < m) (hm : m ≤ 1000000) : ∃ (v : Nat) (s' : Dr), s'.ok ∧ (v : Int) < m ∧ F__law_next [drD ns s, .int m] = some (.int (v : Int), [drD ns s', .int m]) := next_nat ns s h m h0 (by omega)
structure GM (s x y tm : Int) (m : Mk) : Prop where
  t : 0 ≤ m.t ∧ m.t ≤ tm
  n : 0 ≤ m.n ∧ m.n ≤ 3
  w : ∃ w v, 0 ≤ m.x - w ∧ m.x - w ≤ m.n + 5 ∧ 0 ≤ v - m.y ∧ v - m.y ≤ m.n ∧ -(s * (tm - m.t)) ≤ w - x ∧ w - x ≤ s * (tm - m.t) ∧ -(s * (tm - m.t)) ≤ v - y ∧ v - y ≤ s * (tm - m.t) ∧ -100 ≤ w ∧ w ≤ 100 ∧ -100 ≤ v ∧ v ≤ 100
structure GS where
  dr : Dr
  x : Int
  y : Int
  tm : Int
  fd : List Mk
structure GI (s : Int) (n : Nat) (g : GS) : Prop where
  ok : g.dr.ok
  len : g.fd.length = n
  x : -(4 + 9 * (n : Int)) ≤ g.x ∧ g.x ≤ 4 + 9 * (n : Int)
  y : -(4 + 9 * (n : Int)) ≤ g.y ∧ g.y ≤ 4 + 9 * (n : Int)
  tm : 0 ≤ g.tm ∧ g.tm ≤ 2 + 3 * (n : Int)
  gm : ∀ m ∈ g.fd, GM s g.x g.y g.tm m
  near : Near s g.fd
def stG (ns : List Int) (s many : Int) (g : GS) : Rho := [drD ns g.dr, .int s, .int many, .non, .non, .non, .lst (g.fd.map mkD), .int g.x, .int g.y, .int g.tm, .non, .non, .non, .non]
theorem GM.later {s x y tm : Int} {m : Mk} (h : GM s x y tm m) (d x' y' : Int) (hd : 0 ≤ d) (hx : -(s * d) ≤ x' - x ∧ x' - x ≤ s * d) (hy : -(s * d) ≤ y' - y ∧ y' - y ≤ s * d) : GM s x' y' (tm + d) m := by
  obtain ⟨w, v, h1, h2, h3, h4, h5, h6, h7, h8, h9⟩ := h.w
  have e : s * (tm + d - m.t) = s * (tm - m.t) + s * d := by rw [show tm + d - m.t = (tm - m.t) + d by omega, Int.mul_add]
  refine ⟨⟨h.t.1, by have := h.t.2; omega⟩, h.n, w, v, h1, h2, h3, h4, ?_, ?_, ?_, ?_, h9⟩
  · rw [e]; omega
  · rw [e]; omega
  · rw [e]; omega
  · rw [e]; omega
theorem far_le (a b : Mk) (k : Int) (h1 : a.x - b.x ≤ k) (h2 : b.x - a.x ≤ k) (h3 : a.y - b.y ≤ k) (h4 : b.y - a.y ≤ k) : far a b ≤ k := by
  unfold far mx ab
  split <;> split <;> split <;> omega
theorem near_new {s x y tm : Int} {m a : Mk} (h : GM s x y tm m) (hs : 0 ≤ s) (ht : a.t = tm) (hx : 0 ≤ a.x - x ∧ a.x - x ≤ a.n + 5) (hy : 0 ≤ y - a.y ∧ y - a.y ≤ a.n) (hn : 0 ≤ a.n) : lacks a m ≤ s * turns a m + 5 := by
  obtain ⟨w, v, h1, h2, h3, h4, h5, h6, h7, h8, h9⟩ := h.w
  have e : turns a m = tm - m.t := by
    have := h.t
    unfold turns ab; rw [ht]; split <;> omega
  rw [e]
  unfold lacks
  have := h.n
  have := far_le a m (s * (tm - m.t) + 5 + a.n + m.n) (by omega) (by omega) (by omega) (by omega)
  omega
theorem near_sym {s : Int} {a b : Mk} (h : lacks a b ≤ s * turns a b + 5) : lacks b a ≤ s * turns b a + 5 := by
  unfold lacks at *
  rw [far_sym b a, turns_sym b a]; omega
theorem self_near (s : Int) (a : Mk) (hn : 0 ≤ a.n) : lacks a a ≤ s * turns a a + 5 := by
  unfold lacks turns far
  have e1 : ab (a.x - a.x) = 0 := by unfold ab; split <;> omega
  have e2 : ab (a.y - a.y) = 0 := by unfold ab; split <;> omega
  have e3 : ab (a.t - a.t) = 0 := by unfold ab; split <;> omega
  have e4 : mx (0 : Int) 0 = 0 := by unfold mx; split <;> omega
  rw [e1, e2, e3, e4]
  omega
theorem q1_step (ns : List Int) (s : Int) (hs : 0 ≤ s ∧ s ≤ 3) (many : Int) (n : Nat) (hn : n ≤ 5) (g : GS) (h : GI s n g) (d : D) : ∃ g', (stepB (gNm 3) q1__law_marks d (stG ns s many g)).bind (nxOf [3, 10, 11, 13]) = some (stG ns s many g') ∧ GI s (n + 1) g' := by
  obtain ⟨v1, s1, o1, h1, e1⟩ := nxt ns g.dr h.ok 4 (by omega) (by omega)
  have hp0 : 0 ≤ s * (v1 : Int) := Int.mul_nonneg hs.1 (by omega)
  have hp9 : s * (v1 : Int) ≤ 9 := by
    have h3 : s * (v1 : Int) ≤ 3 * (v1 : Int) := Int.mul_le_mul_of_nonneg_right hs.2 (by omega)
    omega
  have ea : 2 * s * (v1 : Int) = 2 * (s * (v1 : Int)) := by rw [Int.mul_assoc]
  have hm1 : sm (2 : Int) = true := sm_of (by omega) (by omega)
  have hm2 : sm s = true := sm_of (by omega) (by omega)
  have hm3 : sm (2 * s) = true := sm_of (by omega) (by omega)
  have hm4 : sm (v1 : Int) = true := sm_of (by omega) (by omega)
  obtain ⟨v2, s2, o2, h2, e2⟩ := nxt ns s1 o1 (2 * s * (v1 : Int) + 1) (by omega) (by omega)
  obtain ⟨v3, s3, o3, h3, e3⟩ := nxt ns s2 o2 (2 * s * (v1 : Int) + 1) (by omega) (by omega)
  obtain ⟨v4, s4, o4, h4, e4⟩ := nxt ns s3 o3 4 (by omega) (by omega)
  obtain ⟨v5, s5, o5, h5, e5⟩ := nxt ns s4 o4 10 (by omega) (by omega)
  obtain ⟨v6, s6, o6, h6, e6⟩ := nxt ns s5 o5 ((v4 : Int) + 1) (by omega) (by omega)
  obtain ⟨v7, s7, o7, h7, e7⟩ := nxt ns s6 o6 ((v4 : Int) + 1) (by omega) (by omega)
  generalize hmv : ((v5 : Int) == 0) = mv at *
  obtain ⟨x', hxd⟩ : ∃ x', x' = g.x + (v2 : Int) - s * (v1 : Int) := ⟨_, rfl⟩
  obtain ⟨y', hyd⟩ : ∃ y', y' = g.y + (v3 : Int) - s * (v1 : Int) := ⟨_, rfl⟩
  obtain ⟨m', hmd⟩ : ∃ m' : Mk, m' = ⟨g.tm + (v1 : Int), x' + (v6 : Int) + (if mv then 5 else 0), y' - (v7 : Int), (v4 : Int)⟩ := ⟨_, rfl⟩
  have mt : m'.t = g.tm + (v1 : Int) := by rw [hmd]
  have mx' : m'.x = x' + (v6 : Int) + (if mv then 5 else 0) := by rw [hmd]
  have my' : m'.y = y' - (v7 : Int) := by rw [hmd]
  have mn' : m'.n = (v4 : Int) := by rw [hmd]
  have hlen := h.len
  have hgx := h.x
  have hgy := h.y
  have hgt := h.tm
  refine ⟨⟨s7, x', y', g.tm + (v1 : Int), g.fd ++ [m']⟩, ?_, ?_⟩
  · have hD : mkD m' = .tup [.int (g.tm + (v1 : Int)), .int (x' + (v6 : Int) + (if mv then 5 else 0)), .int (y' - (v7 : Int)), .int (v4 : Int)] := by rw [hmd]; rfl
    have el : (g.fd ++ [m']).map mkD = g.fd.map mkD ++ [mkD m'] := by simp
    have hl' : (g.fd.map mkD).length = n := by simpa using hlen
    unfold stG
    simp only
    rw [el, hD]
    generalize g.fd.map mkD = L at *
    cases mv <;> simp [q1__law_marks, e1, e2, e3, e4, e5, e6, e7, hm1, hm2, hm3, hm4, hmv, okLen_of (n := 4) (by omega), appOf, hl', okLen_of (n := n + 1) (by omega), hxd, hyd, -beq_iff_eq]
  · have hx' : -(s * (v1 : Int)) ≤ x' - g.x ∧ x' - g.x ≤ s * (v1 : Int) := by omega
    have hy' : -(s * (v1 : Int)) ≤ y' - g.y ∧ y' - g.y ≤ s * (v1 : Int) := by omega
    have old : ∀ m ∈ g.fd, GM s x' y' (g.tm + (v1 : Int)) m := fun m hm => (h.gm m hm).later (v1 : Int) x' y' (by omega) hx' hy'
    have k1 : 0 ≤ m'.x - x' ∧ m'.x - x' ≤ m'.n + 5 := by
      rw [mx', mn']
      split <;> omega
    have k2 : 0 ≤ y' - m'.y ∧ y' - m'.y ≤ m'.n := by omega
    have k3 : 0 ≤ m'.n := by omega
    refine ⟨o7, by simp [hlen], ?_, ?_, ?_, fun m hm => ?_, fun a ha b hb => ?_⟩
    · show -(4 + 9 * ((n + 1 : Nat) : Int)) ≤ x' ∧ x' ≤ 4 + 9 * ((n + 1 : Nat) : Int)
      omega
    · show -(4 + 9 * ((n + 1 : Nat) : Int)) ≤ y' ∧ y' ≤ 4 + 9 * ((n + 1 : Nat) : Int)
      omega
    · show 0 ≤ g.tm + (v1 : Int) ∧ g.tm + (v1 : Int) ≤ 2 + 3 * ((n + 1 : Nat) : Int)
      omega
    · rcases List.mem_append.mp hm with hm | hm
      · exact old m hm
      · have hm : m = m' := by simpa using hm
        rw [hm]
        show GM s x' y' (g.tm + (v1 : Int)) m'
        have e0 : s * (g.tm + (v1 : Int) - m'.t) = 0 := by
          rw [show g.tm + (v1 : Int) - m'.t = 0 by omega, Int.mul_zero]
        refine ⟨by omega, by omega, x', y', k1.1, k1.2, k2.1, k2.2, ?_, ?_, ?_, ?_, ?_, ?_, ?_, ?_⟩
        · rw [e0]; omega
        · rw [e0]; omega
        · rw [e0]; omega
        · rw [e0]; omega
        · omega
        · omega
        · omega
        · omega
    · rcases List.mem_append.mp ha with ha | ha
      · rcases List.mem_append.mp hb with hb | hb
        · exact h.near a ha b hb
        · have hb : b = m' := by simpa using hb
          rw [hb]
          exact near_sym (near_new (old a ha) hs.1 mt k1 k2 k3)
      · have ha : a = m' := by simpa using ha
        rw [ha]
        rcases List.mem_append.mp hb with hb | hb
        · exact near_new (old b hb) hs.1 mt k1 k2 k3
        · have hb : b = m' := by simpa using hb
          rw [hb]
          exact self_near s m' k3
end K53

namespace K53
open PySem PySem.Spec PyProof.Rows L2 TL
/-! ### mixing -/
def stM (ns : List Int) (z1 z2 z3 z6 z7 z8 z9 z10 z11 z13 : D) (g : Dr × List Mk) : Rho := [drD ns g.1, z1, z2, z3, .lst (g.2.map mkD), .non, z6, z7, z8, z9, z10, z11, .non, z13]
theorem q2_step (ns : List Int) (z1 z2 z3 z6 z7 z8 z9 z10 z11 z13 : D) (g : Dr × List Mk) (m : Mk) (ho : g.1.ok) (hl : g.2.length ≤ 100) : ∃ g' : Dr × List Mk, (stepB (gNm 5) q2__law_marks (mkD m) (stM ns z1 z2 z3 z6 z7 z8 z9 z10 z11 z13 g)).bind (nxOf [5, 12]) = some (stM ns z1 z2 z3 z6 z7 z8 z9 z10 z11 z13 g') ∧ g'.1.ok ∧ g'.2.length = g.2.length + 1 ∧ ∀ x ∈ g'.2, x = m ∨ x ∈ g.2 := by
  obtain ⟨v, s1, o1, h1, e1⟩ := nxt ns g.1 ho ((g.2.length : Int) + 1) (by omega) (by omega)
  have c1 := cut_to (g.2.map mkD) (v : Int) (by omega)
  have c2 := cut_from (g.2.map mkD) (v : Int) (by omega)
  rw [Int.toNat_natCast, ← List.map_take] at c1
  rw [Int.toNat_natCast, ← List.map_drop] at c2
  refine ⟨(s1, g.2.take v ++ [m] ++ g.2.drop v), ?_, o1, ?_, ?_⟩
  · have el : (g.2.map mkD).length = g.2.length := by simp
    have l1 : ((g.2.take v).map mkD).length = v := by rw [List.length_map, List.length_take]; omega
    have l2 : ((g.2.drop v).map mkD).length = g.2.length - v := by rw [List.length_map, List.length_drop]
    have ee : (g.2.take v ++ [m] ++ g.2.drop v).map mkD = (g.2.take v).map mkD ++ ([mkD m] ++ (g.2.drop v).map mkD) := by simp
    unfold stM
    simp only
    rw [ee]
    generalize (g.2.take v).map mkD = A at *
    generalize (g.2.drop v).map mkD = B at *
    generalize g.2.map mkD = L at *
    generalize mkD m = M at *
    simp [q2__law_marks, el, e1, c1, c2, okLen_of (n := 1) (by omega), l1, l2, okLen_of (n := v + 1) (by omega), okLen_of (n := v + 1 + (g.2.length - v)) (by omega)]
  · simp only [List.length_append, List.length_take, List.length_drop, List.length_singleton]
    omega
  · intro x hx
    simp only [List.mem_append, List.mem_singleton] at hx
    rcases hx with (hx | hx) | hx
    · exact .inr (List.mem_of_mem_take hx)
    · exact .inl hx
    · exact .inr (List.mem_of_mem_drop hx)
structure MI (s : Int) (n : Nat) (ms : List Mk) : Prop where
  len : ms.length = n
  sz : SzL ms
  t0 : ∀ m ∈ ms, 0 ≤ m.t ∧ m.t ≤ 1000
  nn : ∀ m ∈ ms, 0 ≤ m.n
  near : Near s ms
theorem marks_ok (ns : List Int) (s : Int) (hs : 0 ≤ s ∧ s ≤ 3) (n : Nat) (hn : n ≤ 5) (dr : Dr) (ho : dr.ok) : ∃ ms dr', dr'.ok ∧ MI s n ms ∧ F__law_marks [drD ns dr, .int s, .int (n : Int)] = some (msD ms, [drD ns dr', .int s, .int (n : Int)]) := by
  obtain ⟨v1, s1, o1, h1, e1⟩ := nxt ns dr ho 9 (by omega) (by omega)
  obtain ⟨v2, s2, o2, h2, e2⟩ := nxt ns s1 o1 9 (by omega) (by omega)
  obtain ⟨v3, s3, o3, h3, e3⟩ := nxt ns s2 o2 3 (by omega) (by omega)
  obtain ⟨g, eg, hg⟩ := loop_inv (b := stepB (gNm 3) q1__law_marks) (ks := [3, 10, 11, 13]) (fun i : Nat => D.int (i : Int)) (stG ns s (n : Int)) (fun pre g => GI s pre.length g) (List.range n) [] ⟨s3, (v1 : Int) - 4, (v2 : Int) - 4, (v3 : Int), []⟩
    ⟨o3, rfl, by simp; omega, by simp; omega, by simp; omega, by simp, fun a ha => by simp at ha⟩ fun pre a post eq g h => by
      obtain ⟨ea, hp⟩ := range_pre eq
      obtain ⟨g', e', h'⟩ := q1_step ns s hs (n : Int) pre.length (by omega) g h (.int (a : Int))
      exact ⟨g', e', by simpa using h'⟩
  simp only [List.nil_append, List.length_range] at hg
  obtain ⟨m, em, hm⟩ := loop_inv (b := stepB (gNm 5) q2__law_marks) (ks := [5, 12]) mkD (stM ns (.int s) (.int (n : Int)) .non (.lst (g.fd.map mkD)) (.int g.x) (.int g.y) (.int g.tm) .non .non .non) (fun pre q => q.1.ok ∧ q.2.length = pre.length ∧ ∀ x ∈ q.2, x ∈ pre) g.fd [] (g.dr, [])
    ⟨hg.ok, rfl, by simp⟩ fun pre a post eq q ⟨k1, k2, k3⟩ => by
      have hpl : pre.length ≤ n := by
        have := congrArg List.length eq
        simp at this
        have := hg.len
        omega
      obtain ⟨q', e', a1, a2, a3⟩ := q2_step ns (.int s) (.int (n : Int)) .non (.lst (g.fd.map mkD)) (.int g.x) (.int g.y) (.int g.tm) .non .non .non q a k1 (by omega)
      refine ⟨q', e', a1, by rw [a2, k2]; simp, fun x hx => ?_⟩
      rcases a3 x hx with h | h
      · simp [h]
      · simp [k3 x h]
  obtain ⟨m1, m2, m3⟩ := hm
  simp only [List.nil_append] at m2 m3
  have hlen := hg.len
  refine ⟨m.2, m.1, m1, ⟨by omega, fun x hx => ?_, fun x hx => ?_, fun x hx => ?_, fun a ha b hb => hg.near a (m3 a ha) b (m3 b hb)⟩, ?_⟩
  · have q := hg.gm x (m3 x hx)
    obtain ⟨w, v, k⟩ := q.w
    have := q.t
    have := q.n
    have := hg.tm
    exact ⟨by omega, by omega, by omega, by omega⟩
  · have q := hg.gm x (m3 x hx)
    have := q.t
    have := hg.tm
    omega
  · exact (hg.gm x (m3 x hx)).n.1
  · unfold F__law_marks b__law_marks
    rw [v_run3]
    have z1 := s62_of (i := (n : Int)) (by omega) (by omega)
    have hs0 : stG ns s (n : Int) ⟨s3, (v1 : Int) - 4, (v2 : Int) - 4, (v3 : Int), []⟩ = [drD ns s3, .int s, .int (n : Int), .non, .non, .non, .lst [], .int ((v1 : Int) - 4), .int ((v2 : Int) - 4), .int (v3 : Int), .non, .non, .non, .non] := rfl
    have hs1 : stG ns s (n : Int) g = [drD ns g.dr, .int s, .int (n : Int), .non, .non, .non, .lst (g.fd.map mkD), .int g.x, .int g.y, .int g.tm, .non, .non, .non, .non] := rfl
    have hs2 : stM ns (.int s) (.int (n : Int)) .non (.lst (g.fd.map mkD)) (.int g.x) (.int g.y) (.int g.tm) .non .non .non (g.dr, []) = [drD ns g.dr, .int s, .int (n : Int), .non, .lst [], .non, .lst (g.fd.map mkD), .int g.x, .int g.y, .int g.tm, .non, .non, .non, .non] := rfl
    have hs3 : stM ns (.int s) (.int (n : Int)) .non (.lst (g.fd.map mkD)) (.int g.x) (.int g.y) (.int g.tm) .non .non .non m = [drD ns m.1, .int s, .int (n : Int), .non, .lst (m.2.map mkD), .non, .lst (g.fd.map mkD), .int g.x, .int g.y, .int g.tm, .non, .non, .non, .non] := rfl
    rw [hs0, hs1] at eg
    rw [hs2, hs3] at em
    have et : msD m.2 = .tup (m.2.map mkD) := rfl
    rw [et]
    generalize g.fd.map mkD = FD at *
    generalize m.2.map mkD = MD at *
    have hsu : ∀ a b c d : D, ∀ ρ : Rho, setAll [6, 7, 8, 9] [a, b, c, d] ρ = (((ρ.set 6 a).set 7 b).set 8 c).set 9 d := fun a b c d ρ => rfl
    simp [sUnp, e1, e2, e3, okLen_of (n := 0) (by omega), okLen_of (n := 4) (by omega), hsu, z1, intsD0, eg, em]
end K53

namespace K53
open PySem PySem.Spec PyProof.Rows L2 TL
def ptD (b : Bx) : D := .tup [.int b.a, .int b.c]
def nTr (f l : Nat) : Nat := l + 1 - f
theorem tr_loop (s : Int) (hs : OkS s) (ms : List Mk) (hz : SzL ms) (hn : ms.length ≤ 1000) (h0 : ms ≠ []) (z2 z3 : D) : ∀ (ts acc : List Int), (∀ t ∈ ts, OkT t) → acc.length + ts.length ≤ 10000 →
    loopF (stepB (gNm 5) q1_track) [5, 6, 7, 8] (ts.map D.int) [.int s, msD ms, z2, z3, .lst (acc.map fun t => ptD (box s t ms)), .non, .non, .non, .non] = some (.nx [.int s, msD ms, z2, z3, .lst ((acc ++ ts).map fun t => ptD (box s t ms)), .non, .non, .non, .non])
  | [], acc, _, _ => by simp [loop_nil]
  | t :: ts, acc, ht, hl => by
    simp only [List.length_cons] at hl
    have e := box_ok s t hs (ht t (by simp)) ms hz hn h0
    rw [List.map_cons, loop_go (ρ' := [.int s, msD ms, z2, z3, .lst ((acc ++ [t]).map fun t => ptD (box s t ms)), .non, .non, .non, .non]), tr_loop s hs ms hz hn h0 z2 z3 ts (acc ++ [t]) (fun u hu => ht u (by simp [hu])) (by simp; omega)]
    · simp
    · have el : (acc ++ [t]).map (fun t => ptD (box s t ms)) = acc.map (fun t => ptD (box s t ms)) ++ [ptD (box s t ms)] := by simp
      rw [el]
      have ll : (acc.map (fun t => ptD (box s t ms))).length = acc.length := by simp
      generalize acc.map (fun t => ptD (box s t ms)) = A at *
      generalize msD ms = W at *
      generalize box s t ms = B at *
      simp [q1_track, e, bxD, ptD, appOf, ll, okLen_of (n := acc.length + 1) (by omega), okLen_of (n := 2) (by omega)]
theorem intsD_map (lo : Int) (n : Nat) : intsD lo n = ((List.range n).map fun i : Nat => lo + (i : Int)).map D.int := by unfold intsD; rw [List.map_map]; rfl
theorem track_ok (s : Int) (hs : OkS s) (ms : List Mk) (hz : SzL ms) (hn : ms.length ≤ 1000) (h0 : ms ≠ []) (f l : Nat) (hf : f ≤ 100) (hl : l ≤ 100) :
    ∃ r, F_track [.int s, msD ms, .int (f : Int), .int (l : Int)] = some (.tup ((List.range (nTr f l)).map fun i : Nat => ptD (box s ((f : Int) + (i : Int)) ms)), r) := by
  unfold F_track b_track
  rw [v_run4]
  have e := tr_loop s hs ms hz hn h0 (.int (f : Int)) (.int (l : Int)) ((List.range (nTr f l)).map fun i : Nat => (f : Int) + (i : Int)) [] (fun t ht => by
    obtain ⟨i, hi, rfl⟩ := List.mem_map.mp ht
    have := List.mem_range.mp hi
    unfold nTr at this
    exact ⟨by omega, by omega⟩) (by simp [nTr]; omega)
  rw [← intsD_map] at e
  simp only [List.map_nil, List.nil_append, List.map_map] at e
  have e3 : ((l : Int) + 1 - (f : Int)).toNat = nTr f l := by unfold nTr; omega
  have z1 := s62_of (i := (f : Int)) (by omega) (by omega)
  have z2 := s62_of (i := (l : Int) + 1) (by omega) (by omega)
  refine exo ?_
  have eq : (List.range (nTr f l)).map ((fun t => ptD (box s t ms)) ∘ fun i : Nat => (f : Int) + (i : Int)) = (List.range (nTr f l)).map fun i : Nat => ptD (box s ((f : Int) + (i : Int)) ms) := rfl
  rw [eq] at e
  generalize ((List.range (nTr f l)).map fun i : Nat => ptD (box s ((f : Int) + (i : Int)) ms)) = P at *
  generalize msD ms = W at *
  simp [okLen_of (n := 0) (by omega), z1, z2, e3, e]
def within (a b : Bx) : Bool := decide (b.a ≤ a.a) && (decide (a.b ≤ b.b) && (decide (b.c ≤ a.c) && decide (a.d ≤ b.d)))
theorem within_ok (a b : Bx) : F_is_within [bxD a, bxD b] = some (.bl (within a b), [bxD a, bxD b]) := by
  unfold F_is_within b_is_within
  rw [v_run2]
  unfold within
  by_cases h1 : b.a ≤ a.a <;> by_cases h2 : a.b ≤ b.b <;> by_cases h3 : b.c ≤ a.c <;> simp [bxD, h1, h2, h3]
def oth (ms : List Mk) (k : Nat) : List Mk := ms.take k ++ ms.drop (k + 1)
def isI (s : Int) (ms : List Mk) (k : Nat) : Bool := !(oth ms k).isEmpty && within (box s (gm ms k).t (oth ms k)) (byB s (gm ms k).t (gm ms k))
def idles (s : Int) (ms : List Mk) : List Nat := (List.range ms.length).filter (isI s ms)
theorem oth_ok {ms : List Mk} (h : SzL ms) (hn : ms.length ≤ 900) (k : Nat) : SzL (oth ms k) ∧ (oth ms k).length ≤ 1000 := by
  refine ⟨fun m hm => ?_, by unfold oth; rw [List.length_append, List.length_take, List.length_drop]; omega⟩
  unfold oth at hm
  rcases List.mem_append.mp hm with hm | hm
  · exact h m (List.mem_of_mem_take hm)
  · exact h m (List.mem_of_mem_drop hm)
theorem cut_oth (ms : List Mk) (k : Nat) : dSl (msD ms) none (some (k : Int)) = some (.tup ((ms.take k).map mkD)) ∧ dSl (msD ms) (some ((k : Int) + 1)) none = some (.tup ((ms.drop (k + 1)).map mkD)) := by
  have c1 := cut_to (ms.map mkD) (k : Int) (by omega)
  have c2 := cut_from (ms.map mkD) ((k : Int) + 1) (by omega)
  rw [Int.toNat_natCast, ← List.map_take] at c1
  rw [show ((k : Int) + 1).toNat = k + 1 by omega, ← List.map_drop] at c2
  unfold msD
  rw [d_sl_t, d_sl_t, c1, c2]
  exact ⟨rfl, rfl⟩
theorem add_oth (ms : List Mk) (hn : ms.length ≤ 900) (k : Nat) : dAdd (.tup ((ms.take k).map mkD)) (.tup ((ms.drop (k + 1)).map mkD)) = some (msD (oth ms k)) := by
  rw [d_add_t, if_pos (okLen_of (by rw [List.length_map, List.length_map, List.length_take, List.length_drop]; omega))]
  unfold msD oth
  rw [List.map_append]
theorem tr_oth (o : List Mk) : truthD (msD o) = some (!o.isEmpty) := by
  unfold msD
  rw [d_tr_t]
  cases o <;> rfl
theorem mk_t (m : Mk) : dIx (mkD m) (.int 0) = some (.int m.t) := by simp [mkD]
theorem idle_ok (s : Int) (hs : OkS s) (ms : List Mk) (hz : SzL ms) (hn : ms.length ≤ 900) : ∃ r, F_idle_marks [.int s, msD ms] = some (.lst ((idles s ms).map fun k : Nat => .int (k : Int)), r) := by
  unfold F_idle_marks b_idle_marks
  rw [v_run2]
  have key := (loop_all (b := stepB (gTp (gsCons (gNm 3) (gsCons (gNm 4) gsNil))) q1_idle_marks) (ks := [3, 4, 5]) (emk ms) (fun acc : List Nat => [.int s, msD ms, .lst (acc.map fun k : Nat => D.int (k : Int)), .non, .non, .non]) (fun acc k => if isI s ms k then acc ++ [k] else acc) (fun pre acc => acc.length ≤ pre.length) (List.range ms.length) [] [] (Nat.le_refl _) fun pre k post eq acc hacc => by
    obtain ⟨ek, hp⟩ := range_pre eq
    have hk : k < ms.length := by omega
    obtain ⟨c1, c2⟩ := cut_oth ms k
    have ca := add_oth ms hn k
    have ct := tr_oth (oth ms k)
    obtain ⟨o1, o2⟩ := oth_ok hz hn k
    have hm := hz _ (gm_mem hk)
    have b2 := by_ok s (gm ms k).t hs ⟨hm.t.1, hm.t.2⟩ (gm ms k) hm
    have et := mk_t (gm ms k)
    have el : (acc.map fun k : Nat => D.int (k : Int)).length = acc.length := by simp
    refine ⟨?_, by split <;> simp <;> omega⟩
    cases ho : (oth ms k).isEmpty with
    | true =>
      have ef : isI s ms k = false := by unfold isI; rw [ho]; rfl
      rw [ho] at ct
      rw [ef, if_neg Bool.false_ne_true]
      unfold emk
      generalize mkD (gm ms k) = M at *
      generalize (ms.take k).map mkD = A at *
      generalize (ms.drop (k + 1)).map mkD = B at *
      generalize msD (oth ms k) = O at *
      generalize msD ms = W at *
      simp [q1_idle_marks, c1, c2, ca, ct, -d_add_t]
    | false =>
      have hne : oth ms k ≠ [] := fun e => by rw [e] at ho; cases ho
      have b1 := box_ok s (gm ms k).t hs ⟨hm.t.1, hm.t.2⟩ (oth ms k) o1 o2 hne
      have b3 := within_ok (box s (gm ms k).t (oth ms k)) (byB s (gm ms k).t (gm ms k))
      have ef : isI s ms k = within (box s (gm ms k).t (oth ms k)) (byB s (gm ms k).t (gm ms k)) := by unfold isI; rw [ho]; rfl
      rw [ho] at ct
      rw [ef]
      have em : ∀ l : List Nat, (l ++ [k]).map (fun k : Nat => D.int (k : Int)) = l.map (fun k : Nat => D.int (k : Int)) ++ [.int (k : Int)] := fun l => by simp
      unfold emk
      generalize within (box s (gm ms k).t (oth ms k)) (byB s (gm ms k).t (gm ms k)) = V at *
      generalize bxD (box s (gm ms k).t (oth ms k)) = X1 at *
      generalize bxD (byB s (gm ms k).t (gm ms k)) = X2 at *
      generalize mkD (gm ms k) = M at *
      generalize (gm ms k).t = T at *
      generalize (ms.take k).map mkD = A at *
      generalize (ms.drop (k + 1)).map mkD = B at *
      generalize msD (oth ms k) = O at *
      generalize msD ms = W at *
      cases V with
      | true =>
        rw [if_pos rfl, em]
        generalize (acc.map fun k : Nat => D.int (k : Int)) = L at *
        simp [q1_idle_marks, c1, c2, ca, ct, et, b1, b2, b3, appOf, el, okLen_of (n := acc.length + 1) (by omega), -d_add_t]
      | false =>
        rw [if_neg Bool.false_ne_true]
        generalize (acc.map fun k : Nat => D.int (k : Int)) = L at *
        simp [q1_idle_marks, c1, c2, ca, ct, et, b1, b2, b3, -d_add_t]).1
  have ef : ∀ (l acc : List Nat), l.foldl (fun acc k => if isI s ms k then acc ++ [k] else acc) acc = acc ++ l.filter (isI s ms) := by
    intro l
    induction l with
    | nil => intro acc; simp
    | cons a l ih =>
      intro acc
      rw [List.foldl_cons, ih, List.filter_cons]
      cases isI s ms a <;> simp
  rw [ef, List.nil_append] at key
  have ei : (List.range ms.length).filter (isI s ms) = idles s ms := rfl
  rw [ei] at key
  have ee : enuD (ms.map mkD) = (List.range ms.length).map (emk ms) := enu_range mkD ms
  have ew : iEnu (aCons (eVar 1) aNil) [.int s, msD ms, .lst [], .non, .non, .non] = some (enuD (ms.map mkD), [.int s, msD ms, .lst [], .non, .non, .non]) := rfl
  rw [ee] at ew
  simp only [List.map_nil] at key
  refine exo ?_
  generalize (idles s ms).map (fun k : Nat => D.int (k : Int)) = II at *
  generalize msD ms = W at *
  simp [okLen_of (n := 0) (by omega), ew, key]
end K53

namespace K53
open PySem PySem.Spec PyProof.Rows L2 TL
theorem sm_ok (d : D) (h : TL.plain 7 d = true) : F__law_same [d, d] = some (.bl true, [d, d]) := same_ok 7 d h
theorem bx_plain (b : Bx) : TL.plain 7 (bxD b) = true := by
  simp [bxD, TL.plain, okS_of (n := 4) (by omega)]
/-! ### the track is right -/
theorem q3_ok (z0 z1 z4 z5 z8 z9 z10 z11 z12 z13 z15 z16 z17 z24 z25 : D) (s : Int) (hs : OkS s) (ms : List Mk) (h : Tms ms) (hg : Goods s ms) (f l : Nat) (hf : f ≤ 100) (hl : l ≤ 100) (i : Nat) (hi : i < nTr f l) :
    (stepB (gNm 7) q3_law (.int ((f + i : Nat) : Int)) [z0, z1, .int s, msD ms, z4, z5, .tup ((List.range (nTr f l)).map fun i : Nat => ptD (box s ((f : Int) + (i : Int)) ms)), .non, z8, z9, z10, z11, z12, z13, .int (f : Int), z15, z16, z17, .non, .non, .non, .non, .non, .non, z24, z25]).bind (nxOf [7, 18, 19, 20, 21, 22, 23]) =
    some [z0, z1, .int s, msD ms, z4, z5, .tup ((List.range (nTr f l)).map fun i : Nat => ptD (box s ((f : Int) + (i : Int)) ms)), .non, z8, z9, z10, z11, z12, z13, .int (f : Int), z15, z16, z17, .non, .non, .non, .non, .non, .non, z24, z25] := by
  have hi' : i ≤ 200 := by unfold nTr at hi; omega
  have ht : OkT ((f : Int) + (i : Int)) := ⟨by omega, by omega⟩
  have b1 := box_ok s ((f : Int) + (i : Int)) hs ht ms h.sz h.len h.ne
  have b2 := lbox_ok s ((f : Int) + (i : Int)) hs ht ms h.sz h.len h.ne (msD ms) rfl
  obtain ⟨k1, k2⟩ := box_in s ((f : Int) + (i : Int)) hs.lo ms h.ne hg
  have k3 := box_lip s ((f : Int) + (i : Int)) hs.lo ms h.ne
  have hat : ∀ j : Nat, j < nTr f l → dIx (.tup ((List.range (nTr f l)).map fun i : Nat => ptD (box s ((f : Int) + (i : Int)) ms))) (.int (j : Int)) = some (ptD (box s ((f : Int) + (j : Int)) ms)) := by
    intro j hj
    rw [d_ix_t, ix_nat _ j (by simpa using hj)]
    simp
  have a1 := hat i hi
  have sm1 := sm_ok (bxD (box s ((f : Int) + (i : Int)) ms)) (bx_plain _)
  have e1 : ((f : Int) + (i : Int) - (f : Int)) = (i : Int) := by omega
  have eB : bxD (box s ((f : Int) + (i : Int)) ms) = .tup [.int (box s ((f : Int) + (i : Int)) ms).a, .int (box s ((f : Int) + (i : Int)) ms).b, .int (box s ((f : Int) + (i : Int)) ms).c, .int (box s ((f : Int) + (i : Int)) ms).d] := rfl
  have eP : ptD (box s ((f : Int) + (i : Int)) ms) = .tup [.int (box s ((f : Int) + (i : Int)) ms).a, .int (box s ((f : Int) + (i : Int)) ms).c] := rfl
  rw [eP] at a1
  rw [eB] at b1 b2 sm1
  by_cases h0 : i = 0
  · subst h0
    have hgt : ¬ ((f : Int) < (f : Int) + ((0 : Nat) : Int)) := by omega
    generalize D.tup ((List.range (nTr f l)).map fun i : Nat => ptD (box s ((f : Int) + (i : Int)) ms)) = P at *
    generalize msD ms = W at *
    simp only [Int.natCast_add]
    generalize hF : (f : Int) + ((0 : Nat) : Int) = T at *
    generalize box s T ms = B at *
    rw [← e1] at a1
    simp [q3_law, a1, b1, b2, sm1, k1, k2, hgt, okLen_of (n := 4) (by omega)]
  · have a2 := hat (i - 1) (by omega)
    have e2 : ((f : Int) + (i : Int) - (f : Int) - 1) = ((i - 1 : Nat) : Int) := by omega
    have e3 : (f : Int) + ((i - 1 : Nat) : Int) = (f : Int) + (i : Int) - 1 := by omega
    rw [e3] at a2
    have eQ : ptD (box s ((f : Int) + (i : Int) - 1) ms) = .tup [.int (box s ((f : Int) + (i : Int) - 1) ms).a, .int (box s ((f : Int) + (i : Int) - 1) ms).c] := rfl
    rw [eQ] at a2
    have hgt : (f : Int) < (f : Int) + (i : Int) := by omega
    have hmx : ¬ s < mx (ab ((box s ((f : Int) + (i : Int)) ms).a - (box s ((f : Int) + (i : Int) - 1) ms).a)) (ab ((box s ((f : Int) + (i : Int)) ms).c - (box s ((f : Int) + (i : Int) - 1) ms).c)) := by
      have := (mx_le (ab ((box s ((f : Int) + (i : Int)) ms).a - (box s ((f : Int) + (i : Int) - 1) ms).a)) (ab ((box s ((f : Int) + (i : Int)) ms).c - (box s ((f : Int) + (i : Int) - 1) ms).c)) s).mpr k3
      omega
    rw [← e2] at a2
    generalize D.tup ((List.range (nTr f l)).map fun i : Nat => ptD (box s ((f : Int) + (i : Int)) ms)) = P at *
    generalize msD ms = W at *
    simp only [Int.natCast_add]
    generalize box s ((f : Int) + (i : Int) - 1) ms = B2 at *
    generalize hF : (f : Int) + (i : Int) = T at *
    generalize box s T ms = B at *
    rw [← e1] at a1
    simp [q3_law, a1, a2, b1, b2, sm1, k1, k2, hgt, okLen_of (n := 4) (by omega), d_ab, d_mx, -d_abs, -d_max2, hmx]
/-! ### idle marks by the law -/
theorem ne_emp (o : List Mk) : dNe (msD o) (.tup []) = some (.bl (!o.isEmpty)) ∨ True := .inr trivial
end K53

namespace K53
open PySem PySem.Spec PyProof.Rows L2 TL
/-! ### idle marks by the law -/
theorem ne_oth (o : List Mk) : dNe (msD o) (.tup []) = some (.bl (!o.isEmpty)) := by
  have h : pyOk 40 (msD o) = true := by simp [msD, pyOk, mkD]
  have h2 : pyOk 40 (.tup []) = true := by simp [pyOk]
  unfold dNe
  rw [h, h2]
  simp only [Bool.and_self, if_true]
  cases o <;> simp [msD, dq, dqs]
theorem mk_cut (m : Mk) : dSl (mkD m) (some 1) none = some (.tup [.int m.x, .int m.y, .int m.n]) := by
  unfold mkD
  rw [d_sl_t, cut_from _ 1 (by omega)]
  rfl
theorem by_own (s : Int) (m : Mk) : byB s m.t m = ⟨m.x - m.n, m.x + m.n, m.y - m.n, m.y + m.n⟩ := by
  unfold byB rch
  rw [show m.t - m.t = 0 by omega, show ab 0 = 0 from rfl]
  simp
theorem q4_loop (z0 z1 s : Int) (hs : OkS s) (ms : List Mk) (hz : SzL ms) (hn : ms.length ≤ 900) (w0 w1 z4 z5 z6 z7 z10 z11 z12 z13 z14 z15 z17 z25 : D) :
    loopF (stepB (gNm 9) q4_law) [9, 16, 18, 19, 20, 21, 22, 23, 24] (intsD 0 ms.length) [w0, w1, .int s, msD ms, z4, z5, z6, z7, .lst [], .non, z10, z11, z12, z13, z14, z15, .non, z17, .non, .non, .non, .non, .non, .non, .non, z25] =
    some (.nx [w0, w1, .int s, msD ms, z4, z5, z6, z7, .lst ((idles s ms).map fun k : Nat => D.int (k : Int)), .non, z10, z11, z12, z13, z14, z15, .non, z17, .non, .non, .non, .non, .non, .non, .non, z25]) := by
  have key := (loop_all (b := stepB (gNm 9) q4_law) (ks := [9, 16, 18, 19, 20, 21, 22, 23, 24]) (fun k : Nat => D.int (k : Int)) (fun acc : List Nat => [w0, w1, .int s, msD ms, z4, z5, z6, z7, .lst (acc.map fun k : Nat => D.int (k : Int)), .non, z10, z11, z12, z13, z14, z15, .non, z17, .non, .non, .non, .non, .non, .non, .non, z25]) (fun acc k => if isI s ms k then acc ++ [k] else acc) (fun pre acc => acc.length ≤ pre.length) (List.range ms.length) [] [] (Nat.le_refl _) fun pre k post eq acc hacc => by
    obtain ⟨ek, hp⟩ := range_pre eq
    have hk : k < ms.length := by omega
    obtain ⟨c1, c2⟩ := cut_oth ms k
    have ca := add_oth ms hn k
    have ct := ne_oth (oth ms k)
    obtain ⟨o1, o2⟩ := oth_ok hz hn k
    have hm := hz _ (gm_mem hk)
    have ix := ix_m ms k hk
    have et := mk_t (gm ms k)
    have ec := mk_cut (gm ms k)
    have el : (acc.map fun k : Nat => D.int (k : Int)).length = acc.length := by simp
    refine ⟨?_, by split <;> simp <;> omega⟩
    cases ho : (oth ms k).isEmpty with
    | true =>
      have ef : isI s ms k = false := by unfold isI; rw [ho]; rfl
      rw [ho] at ct
      first | rw [Bool.not_true] at ct | rw [Bool.not_false] at ct
      rw [ef, if_neg Bool.false_ne_true]
      generalize mkD (gm ms k) = M at *
      generalize (ms.take k).map mkD = A at *
      generalize (ms.drop (k + 1)).map mkD = B at *
      generalize msD (oth ms k) = O at *
      generalize msD ms = W at *
      simp [q4_law, okLen_of (n := 0) (by omega), c1, c2, ca, ct, -d_add_t]
    | false =>
      have hne : oth ms k ≠ [] := fun e => by rw [e] at ho; cases ho
      have b1 := lbox_ok s (gm ms k).t hs ⟨hm.t.1, hm.t.2⟩ (oth ms k) o1 o2 hne (msD (oth ms k)) rfl
      have ef : isI s ms k = within (box s (gm ms k).t (oth ms k)) (byB s (gm ms k).t (gm ms k)) := by unfold isI; rw [ho]; rfl
      rw [ho] at ct
      first | rw [Bool.not_true] at ct | rw [Bool.not_false] at ct
      rw [ef, by_own]
      have em : ∀ l : List Nat, (l ++ [k]).map (fun k : Nat => D.int (k : Int)) = l.map (fun k : Nat => D.int (k : Int)) ++ [.int (k : Int)] := fun l => by simp
      have eB : bxD (box s (gm ms k).t (oth ms k)) = .tup [.int (box s (gm ms k).t (oth ms k)).a, .int (box s (gm ms k).t (oth ms k)).b, .int (box s (gm ms k).t (oth ms k)).c, .int (box s (gm ms k).t (oth ms k)).d] := rfl
      rw [eB] at b1
      have hx := hm.x
      have hy := hm.y
      have hnn := hm.n
      generalize box s (gm ms k).t (oth ms k) = BB at *
      generalize mkD (gm ms k) = M at *
      generalize gm ms k = m at *
      generalize (ms.take k).map mkD = A at *
      generalize (ms.drop (k + 1)).map mkD = B at *
      generalize msD (oth ms k) = O at *
      generalize msD ms = W at *
      unfold within
      by_cases h1 : m.x - m.n ≤ BB.a <;> by_cases h2 : BB.b ≤ m.x + m.n <;> by_cases h3 : m.y - m.n ≤ BB.c <;> by_cases h4 : BB.d ≤ m.y + m.n <;> simp only [h1, h2, h3, h4, decide_true, decide_false, Bool.and_true, Bool.and_false, Bool.true_and, Bool.false_and, if_true, if_false, em, Bool.false_eq_true] <;>
        generalize (acc.map fun k : Nat => D.int (k : Int)) = L at * <;>
        simp [q4_law, okLen_of (n := 0) (by omega), c1, c2, ca, ct, ix, et, ec, b1, appOf, el, okLen_of (n := acc.length + 1) (by omega), -d_add_t, h1, h2, h3, h4]).1
  have ef : ∀ (l acc : List Nat), l.foldl (fun acc k => if isI s ms k then acc ++ [k] else acc) acc = acc ++ l.filter (isI s ms) := by
    intro l
    induction l with
    | nil => intro acc; simp
    | cons a l ih =>
      intro acc
      rw [List.foldl_cons, ih, List.filter_cons]
      cases isI s ms a <;> simp
  rw [ef, List.nil_append] at key
  have e0 : intsD 0 ms.length = (List.range ms.length).map fun k : Nat => D.int (k : Int) := by
    have := intsDn 0 ms.length
    simpa using this
  rw [e0]
  exact key
end K53

namespace K53
open PySem PySem.Spec PyProof.Rows L2 TL
/-! ### all sets of marks -/
theorem row_add (idx : List Nat) (k : Nat) (h : idx.length ≤ 100) : dAdd (rowN idx) (.tup [.int (k : Int)]) = some (rowN (idx ++ [k])) := by
  unfold rowN
  rw [d_add_t, if_pos (okLen_of (by simp; omega))]
  simp
theorem row_ne (idx : List Nat) : dNe (rowN idx) (.tup []) = some (.bl (!idx.isEmpty)) := by
  have h : pyOk 40 (rowN idx) = true := by simp [rowN, pyOk]
  have h2 : pyOk 40 (.tup []) = true := by simp [pyOk]
  unfold dNe
  rw [h, h2]
  simp only [Bool.and_self, if_true]
  cases idx <;> simp [rowN, dq, dqs]
theorem sets_short : ∀ (n : Nat) (x : List Nat), x ∈ setsN n → x.length ≤ n
  | 0, x, h => by simp [setsN] at h; simp [h]
  | n + 1, x, h => by
    simp only [setsN, List.mem_append, List.mem_map] at h
    rcases h with h | ⟨y, hy, rfl⟩
    · have := sets_short n x h; omega
    · have := sets_short n y hy; simp; omega
theorem sets_count : ∀ n : Nat, (setsN n).length = 2 ^ n
  | 0 => rfl
  | n + 1 => by simp [setsN, sets_count n, Nat.pow_succ]; omega
theorem q7_loop (n : Nat) (hn : n < 6) (w0 w1 w2 w3 w4 w5 w6 w7 w8 w10 w12 w14 w15 w16 w17 w18 w19 w20 w21 w22 w23 w24 w25 : D) :
    loopF (stepB (gNm 9) q7_law) [9] (intsD 0 n) [w0, w1, w2, w3, w4, w5, w6, w7, w8, .non, w10, .lst [.tup []], w12, .non, w14, w15, w16, w17, w18, w19, w20, w21, w22, w23, w24, w25] =
    some (.nx [w0, w1, w2, w3, w4, w5, w6, w7, w8, .non, w10, .lst ((setsN n).map rowN), w12, .non, w14, w15, w16, w17, w18, w19, w20, w21, w22, w23, w24, w25]) := by
  have key := (loop_all (b := stepB (gNm 9) q7_law) (ks := [9]) (fun k : Nat => D.int (k : Int)) (fun acc : List (List Nat) => [w0, w1, w2, w3, w4, w5, w6, w7, w8, .non, w10, .lst (acc.map rowN), w12, .non, w14, w15, w16, w17, w18, w19, w20, w21, w22, w23, w24, w25]) (fun acc k => acc ++ acc.map (· ++ [k])) (fun pre acc => acc = setsN pre.length) (List.range n) [] [[]] rfl fun pre k post eq acc hacc => by
    obtain ⟨ek, hp⟩ := range_pre eq
    refine ⟨?_, by rw [hacc, List.length_append]; show _ = setsN (pre.length + 1); rw [ek]; rfl⟩
    have hl : ∀ x ∈ acc, x.length ≤ 6 := fun x hx => by
      rw [hacc] at hx
      have := sets_short _ x hx; omega
    have hc : acc.length ≤ 100 := by
      rw [hacc, sets_count]
      have := Nat.pow_le_pow_right (show 0 < 2 by omega) (show pre.length ≤ 6 by omega)
      omega
    have e := lc_all rowN (fun x : List Nat => rowN (x ++ [k])) [w0, w1, w2, w3, w4, w5, w6, w7, w8, .int (k : Int), w10, .lst (acc.map rowN), w12, .non, w14, w15, w16, w17, w18, w19, w20, w21, w22, w23, w24, w25] acc (step := stepLc [13] (gNm 13) tYesF e6_law) fun x hx => by
      have := row_add x k (by have := hl x hx; omega)
      generalize rowN x = X at *
      simp [e6_law, this, okLen_of (n := 1) (by omega)]
    have em : (acc ++ acc.map (· ++ [k])).map rowN = acc.map rowN ++ acc.map (fun x : List Nat => rowN (x ++ [k])) := by simp
    have h1 : (acc.map rowN).length = acc.length := by simp
    have h2 : (acc.map (fun x : List Nat => rowN (x ++ [k]))).length = acc.length := by simp
    rw [em]
    generalize acc.map rowN = A at *
    generalize acc.map (fun x : List Nat => rowN (x ++ [k])) = B at *
    simp [q7_law, e, h1, h2, okLen_of (n := acc.length) (by omega), okLen_of (n := acc.length + acc.length) (by omega)])
  obtain ⟨k1, k2⟩ := key
  have e0 : intsD 0 n = (List.range n).map fun k : Nat => D.int (k : Int) := by
    have := intsDn 0 n
    simpa using this
  rw [List.nil_append, List.length_range] at k2
  rw [k2] at k1
  rw [e0]
  exact k1
/-! ### the sets that tell all -/
theorem q10_loop (s : Int) (hs : OkS s) (ms : List Mk) (h : Tms ms) (hn : ms.length < 6) (w0 w1 w4 w5 w6 w8 w11 w14 w15 w16 w17 w18 w19 w20 w21 w22 w23 w24 w25 : D) :
    loopF (stepB (gNm 13) q10_law) [13] ((setsN ms.length).map rowN) [w0, w1, .int s, msD ms, w4, w5, w6, .non, w8, .non, .lst ((List.range (maxT ms)).map fun t : Nat => .int (t : Int)), w11, .lst [], .non, w14, w15, w16, w17, w18, w19, w20, w21, w22, w23, w24, w25] =
    some (.nx [w0, w1, .int s, msD ms, w4, w5, w6, .non, w8, .non, .lst ((List.range (maxT ms)).map fun t : Nat => .int (t : Int)), w11, .lst ((goodL s ms).map gD), .non, w14, w15, w16, w17, w18, w19, w20, w21, w22, w23, w24, w25]) := by
  obtain ⟨e1, e2⟩ := maxT_ok h
  obtain ⟨sl1, sl2⟩ := sets_len ms.length hn
  have key := (loop_all (b := stepB (gNm 13) q10_law) (ks := [13]) rowN (fun acc : List (List Nat) => [w0, w1, .int s, msD ms, w4, w5, w6, .non, w8, .non, .lst ((List.range (maxT ms)).map fun t : Nat => .int (t : Int)), w11, .lst (acc.map gD), .non, w14, w15, w16, w17, w18, w19, w20, w21, w22, w23, w24, w25]) (fun acc idx => if (!idx.isEmpty && pIx s ms idx) then acc ++ [idx] else acc) (fun pre acc => acc.length ≤ pre.length) (setsN ms.length) [] [] (Nat.le_refl _) fun pre idx post eq acc hacc => by
    have hm : idx ∈ setsN ms.length := by rw [List.nil_append] at eq; rw [eq]; simp
    obtain ⟨hl, hj⟩ := sl2 idx hm
    have hpl : pre.length ≤ 40 := by
      have := congrArg List.length eq
      simp only [List.nil_append, List.length_append, List.length_cons] at this
      omega
    refine ⟨?_, by split <;> simp <;> omega⟩
    have en := row_ne idx
    cases he : idx.isEmpty with
    | true =>
      rw [he, Bool.not_true] at en
      rw [Bool.not_true, Bool.false_and, if_neg Bool.false_ne_true]
      generalize rowN idx = R at *
      generalize ((List.range (maxT ms)).map fun t : Nat => D.int (t : Int)) = TT at *
      generalize msD ms = W at *
      simp [q10_law, en, okLen_of (n := 0) (by omega)]
    | false =>
      rw [he, Bool.not_false] at en
      have h0 : idx ≠ [] := fun e => by rw [e] at he; cases he
      obtain ⟨o1, o2, o3⟩ := sub_ok h hj hl h0
      have ei := fun t : Nat => lc_all (fun j : Nat => D.int (j : Int)) (fun j : Nat => mkD (gm ms j)) [w0, w1, .int s, msD ms, w4, w5, w6, .int (t : Int), w8, .non, .lst ((List.range (maxT ms)).map fun t : Nat => .int (t : Int)), w11, .lst (acc.map gD), rowN idx, w14, w15, w16, w17, w18, w19, w20, w21, w22, w23, w24, w25] idx (step := stepLc [9] (gNm 9) tYesF e8_law) fun j hjj => by
        have ix := ix_m ms j (hj j hjj)
        generalize mkD (gm ms j) = M at *
        generalize rowN idx = R at *
        generalize ((List.range (maxT ms)).map fun t : Nat => D.int (t : Int)) = TT at *
        generalize msD ms = W at *
        simp [e8_law, ix]
      have es : idx.map (fun j : Nat => mkD (gm ms j)) = (sub ms idx).map mkD := by unfold sub; rw [List.map_map]; rfl
      rw [es] at ei
      have el : ((sub ms idx).map mkD).length = idx.length := by simp [sub]
      have et := lc_all (fun t : Nat => D.int (t : Int)) (fun t : Nat => D.bl (decide (box s (t : Int) ms = box s (t : Int) (sub ms idx)))) [w0, w1, .int s, msD ms, w4, w5, w6, .non, w8, .non, .lst ((List.range (maxT ms)).map fun t : Nat => .int (t : Int)), w11, .lst (acc.map gD), rowN idx, w14, w15, w16, w17, w18, w19, w20, w21, w22, w23, w24, w25] (List.range (maxT ms)) (step := stepLc [7] (gNm 7) tYesF e9_law) fun t ht => by
        have ht := List.mem_range.mp ht
        have ei := ei t
        have b1 := lbox_ok s (t : Int) hs ⟨by omega, by omega⟩ ms h.sz h.len h.ne (msD ms) rfl
        have b2 := lbox_ok s (t : Int) hs ⟨by omega, by omega⟩ (sub ms idx) o1 o2 o3 (.lst ((sub ms idx).map mkD)) rfl
        have b3 := bx_eq (box s (t : Int) (sub ms idx)) (box s (t : Int) ms)
        have ec : decide (box s (t : Int) (sub ms idx) = box s (t : Int) ms) = decide (box s (t : Int) ms = box s (t : Int) (sub ms idx)) := by
          congr 1; exact propext eq_comm
        rw [ec] at b3
        have hij : (idx.map fun j : Nat => D.int (j : Int)).length = idx.length := by simp
        have sr : seqD (.v (rowN idx)) = some (idx.map fun j : Nat => D.int (j : Int)) := rfl
        generalize decide (box s (t : Int) ms = box s (t : Int) (sub ms idx)) = BB at *
        generalize bxD (box s (t : Int) ms) = X1 at *
        generalize bxD (box s (t : Int) (sub ms idx)) = X2 at *
        generalize (sub ms idx).map mkD = SM at *
        generalize (idx.map fun j : Nat => D.int (j : Int)) = IJ at *
        generalize rowN idx = R at *
        generalize ((List.range (maxT ms)).map fun t : Nat => D.int (t : Int)) = TT at *
        generalize msD ms = W at *
        simp [e9_law, sr, ei, el, hij, okLen_of (n := idx.length) (by omega), b1, b2, b3]
      have ea := all_m (fun t : Nat => decide (box s (t : Int) ms = box s (t : Int) (sub ms idx))) (List.range (maxT ms))
      have ep : (List.range (maxT ms)).all (fun t : Nat => decide (box s (t : Int) ms = box s (t : Int) (sub ms idx))) = pIx s ms idx := rfl
      rw [ep] at ea
      have hT : ((List.range (maxT ms)).map fun t : Nat => D.bl (decide (box s (t : Int) ms = box s (t : Int) (sub ms idx)))).length = maxT ms := by simp
      have hT2 : ((List.range (maxT ms)).map fun t : Nat => D.int (t : Int)).length = maxT ms := by simp
      have eG : lenD (rowN idx) = some (.int (idx.length : Int)) := by simp [rowN]
      have eGD : gD idx = .tup [.int (idx.length : Int), rowN idx] := rfl
      have em : ∀ l : List (List Nat), (l ++ [idx]).map gD = l.map gD ++ [gD idx] := fun l => by simp
      have hal : (acc.map gD).length = acc.length := by simp
      rw [Bool.not_false, Bool.true_and]
      generalize ((List.range (maxT ms)).map fun t : Nat => D.bl (decide (box s (t : Int) ms = box s (t : Int) (sub ms idx)))) = BL at *
      generalize ((List.range (maxT ms)).map fun t : Nat => D.int (t : Int)) = TT at *
      generalize pIx s ms idx = V at *
      cases V with
      | true =>
        rw [if_pos rfl, em, eGD]
        generalize rowN idx = R at *
        generalize acc.map gD = A at *
        generalize msD ms = W at *
        simp [q10_law, en, okLen_of (n := 0) (by omega), et, hT, hT2, okLen_of (n := maxT ms) (by omega), ea, eG, appOf, hal, okLen_of (n := acc.length + 1) (by omega), okLen_of (n := 2) (by omega)]
      | false =>
        rw [if_neg Bool.false_ne_true]
        generalize rowN idx = R at *
        generalize acc.map gD = A at *
        generalize msD ms = W at *
        simp [q10_law, en, okLen_of (n := 0) (by omega), et, hT, hT2, okLen_of (n := maxT ms) (by omega), ea]).1
  have ef : ∀ (l acc : List (List Nat)), l.foldl (fun acc idx => if (!idx.isEmpty && pIx s ms idx) then acc ++ [idx] else acc) acc = acc ++ l.filter fun idx => !idx.isEmpty && pIx s ms idx := by
    intro l
    induction l with
    | nil => intro acc; simp
    | cons a l ih =>
      intro acc
      rw [List.foldl_cons, ih, List.filter_cons]
      cases (!a.isEmpty && pIx s ms a) <;> simp
  rw [ef, List.nil_append] at key
  exact key
end K53

namespace K53
open PySem PySem.Spec PyProof.Rows L2 TL
theorem row_plain (idx : List Nat) (h : idx.length ≤ 100) : TL.plain 7 (rowN idx) = true := by
  simp [rowN, TL.plain, okS_of (n := idx.length) (by omega)]
theorem ints_plain (l : List Nat) (h : l.length ≤ 1000) : TL.plain 7 (.lst (l.map fun k : Nat => D.int (k : Int))) = true := by
  simp [TL.plain, okS_of (n := l.length) (by omega)]
theorem p20_ok (s : Int) (hs : OkS s) (ms : List Mk) (h : Tms ms) (hn : ms.length < 6) (w0 w1 w4 w5 w6 w7 w8 w9 w10 w11 w13 w14 w15 w16 w17 w18 w19 w20 w21 w22 w23 w24 w25 : D) :
    Tru p20_law [w0, w1, .int s, msD ms, w4, w5, w6, w7, w8, w9, w10, w11, .lst ((goodL s ms).map gD), w13, w14, w15, w16, w17, w18, w19, w20, w21, w22, w23, w24, w25] := by
  obtain ⟨idx, hf, r, e⟩ := least_ok s hs ms h hn
  obtain ⟨m1, m2⟩ := min_first s ms hn idx hf
  have m3 := minLG_ok (goodL s ms) m1
  rw [m2] at m3
  obtain ⟨a1, a2⟩ := all_mem ms.length hn
  obtain ⟨k1, k2⟩ := a2 idx (List.mem_of_find?_eq_some hf)
  have k3 := sets_short _ _ k1
  have sm1 := sm_ok (rowN idx) (row_plain idx (by omega))
  have eG : dIx (gD idx) (.int 1) = some (rowN idx) := by simp [gD]
  generalize gD idx = G at *
  generalize rowN idx = R at *
  generalize (goodL s ms).map gD = GL at *
  generalize msD ms = W at *
  unfold p20_law Tru
  simp [e, m3, eG, sm1]
theorem p15_ok (s : Int) (hs : OkS s) (ms : List Mk) (h : Tms ms) (hn : ms.length < 6) (w0 w1 w4 w5 w6 w8 w14 w15 : D) :
    Tru p15_law [w0, w1, .int s, msD ms, w4, w5, w6, .non, w8, .non, .non, .non, .non, .non, w14, w15, .non, .non, .non, .non, .non, .non, .non, .non, .non, .non] := by
  obtain ⟨e1, e2⟩ := maxT_ok h
  have e3 := lc_all mkD (fun m => .int m.t) [w0, w1, .int s, msD ms, w4, w5, w6, .non, w8, .non, .non, .non, .non, .non, w14, w15, .non, .non, .non, .non, .non, .non, .non, .non, .non, .non] ms (step := stepLc [25] (gNm 25) tYesF e5_law) fun m _ => by
    simp [e5_law, mkD]
  have e4 := maxD_m (fun m : Mk => m.t) ms h.ne
  have hi : seqD (.v (msD ms)) = some (ms.map mkD) := rfl
  have hL : (ms.map mkD).length = ms.length := by simp
  have ho := okLen_of (n := ms.length) (by have := h.len; omega)
  have ho2 := okLen_of (n := maxT ms) (by omega)
  have h62 := s62_of (i := (maxT ms : Int)) (by omega) (by omega)
  have hlen := len_m ms
  have h62b := s62_of (i := (ms.length : Int)) (by omega) (by omega)
  have eT : intsD 0 (maxT ms) = (List.range (maxT ms)).map fun t : Nat => D.int (t : Int) := by
    have := intsDn 0 (maxT ms)
    simpa using this
  have k7 := fun w10 => q7_loop ms.length hn w0 w1 (.int s) (msD ms) w4 w5 w6 .non w8 w10 .non w14 w15 .non .non .non .non .non .non .non .non .non .non
  have k10 := fun w11 => q10_loop s hs ms h hn w0 w1 w4 w5 w6 w8 w11 w14 w15 .non .non .non .non .non .non .non .non .non .non
  have hsl : ((setsN ms.length).map rowN).length ≤ 100 := by
    have := (sets_len ms.length hn).1
    simp; omega
  unfold p15_law
  refine Tru.seq (ρ1 := [w0, w1, .int s, msD ms, w4, w5, w6, .non, w8, .non, .lst ((List.range (maxT ms)).map fun t : Nat => D.int (t : Int)), .non, .non, .non, w14, w15, .non, .non, .non, .non, .non, .non, .non, .non, .non, .non]) ?_ ?_
  · generalize (ms.map fun m => D.int m.t) = TT at *
    generalize mxL (ms.map fun m => m.t) = MT at *
    generalize ms.map mkD = L at *
    generalize msD ms = W at *
    simp [hi, hL, ho, e3, e4, oRg1, e1, h62, ho2, eT]
  refine Tru.seq (ρ1 := [w0, w1, .int s, msD ms, w4, w5, w6, .non, w8, .non, .lst ((List.range (maxT ms)).map fun t : Nat => D.int (t : Int)), .lst [.tup []], .non, .non, w14, w15, .non, .non, .non, .non, .non, .non, .non, .non, .non, .non]) ?_ ?_
  · generalize msD ms = W at *
    simp [okLen_of (n := 0) (by omega), okLen_of (n := 1) (by omega)]
  refine Tru.seq (ρ1 := [w0, w1, .int s, msD ms, w4, w5, w6, .non, w8, .non, .lst ((List.range (maxT ms)).map fun t : Nat => D.int (t : Int)), .lst ((setsN ms.length).map rowN), .non, .non, w14, w15, .non, .non, .non, .non, .non, .non, .non, .non, .non, .non]) ?_ ?_
  · generalize (List.range (maxT ms)).map (fun t : Nat => D.int (t : Int)) = TT at *
    generalize (setsN ms.length).map rowN = SN at *
    generalize msD ms = W at *
    simp [hlen, h62b, k7]
  refine Tru.seq (ρ1 := [w0, w1, .int s, msD ms, w4, w5, w6, .non, w8, .non, .lst ((List.range (maxT ms)).map fun t : Nat => D.int (t : Int)), .lst ((setsN ms.length).map rowN), .lst [], .non, w14, w15, .non, .non, .non, .non, .non, .non, .non, .non, .non, .non]) ?_ ?_
  · generalize (List.range (maxT ms)).map (fun t : Nat => D.int (t : Int)) = TT at *
    generalize (setsN ms.length).map rowN = SN at *
    generalize msD ms = W at *
    simp [okLen_of (n := 0) (by omega)]
  refine Tru.seq ?_ (p20_ok s hs ms h hn w0 w1 w4 w5 w6 .non w8 .non (.lst ((List.range (maxT ms)).map fun t : Nat => D.int (t : Int))) (.lst ((setsN ms.length).map rowN)) .non w14 w15 .non .non .non .non .non .non .non .non .non .non)
  generalize (List.range (maxT ms)).map (fun t : Nat => D.int (t : Int)) = TT at *
  generalize (setsN ms.length).map rowN = SN at *
  generalize (goodL s ms).map gD = GL at *
  generalize msD ms = W at *
  simp [k10]
theorem p12_ok (s : Int) (hs : OkS s) (ms : List Mk) (h : Tms ms) (hn : ms.length < 6) (w0 w1 w4 w5 w6 w14 w15 : D) :
    Tru p12_law [w0, w1, .int s, msD ms, w4, w5, w6, .non, .non, .non, .non, .non, .non, .non, w14, w15, .non, .non, .non, .non, .non, .non, .non, .non, .non, .non] := by
  have k4 := q4_loop 0 0 s hs ms h.sz (by omega) w0 w1 w4 w5 w6 .non .non .non .non .non w14 w15 .non .non
  obtain ⟨r, ei⟩ := idle_ok s hs ms h.sz (by omega)
  have hil : (idles s ms).length ≤ 1000 := by
    have := List.length_filter_le (isI s ms) (List.range ms.length)
    rw [List.length_range] at this
    unfold idles
    omega
  have sm1 := sm_ok _ (ints_plain (idles s ms) hil)
  have hlen := len_m ms
  have h62b := s62_of (i := (ms.length : Int)) (by omega) (by omega)
  unfold p12_law
  refine Tru.seq (ρ1 := [w0, w1, .int s, msD ms, w4, w5, w6, .non, .lst [], .non, .non, .non, .non, .non, w14, w15, .non, .non, .non, .non, .non, .non, .non, .non, .non, .non]) ?_ ?_
  · generalize msD ms = W at *
    simp [okLen_of (n := 0) (by omega)]
  refine Tru.seq (ρ1 := [w0, w1, .int s, msD ms, w4, w5, w6, .non, .lst ((idles s ms).map fun k : Nat => D.int (k : Int)), .non, .non, .non, .non, .non, w14, w15, .non, .non, .non, .non, .non, .non, .non, .non, .non, .non]) ?_ ?_
  · generalize ((idles s ms).map fun k : Nat => D.int (k : Int)) = IL at *
    generalize msD ms = W at *
    simp [hlen, h62b, k4]
  refine Tru.seq ?_ (p15_ok s hs ms h hn w0 w1 w4 w5 w6 (.lst ((idles s ms).map fun k : Nat => D.int (k : Int))) w14 w15)
  generalize ((idles s ms).map fun k : Nat => D.int (k : Int)) = IL at *
  generalize msD ms = W at *
  simp [ei, sm1, immR, imm]
theorem p9_ok (s : Int) (hs : OkS s) (ms : List Mk) (h : Tms ms) (hg : Goods s ms) (hn : ms.length < 6) (f l : Nat) (hf : f ≤ 100) (hl : l ≤ 100) (w0 w1 w4 w5 : D) :
    Tru p9_law [w0, w1, .int s, msD ms, w4, w5, .non, .non, .non, .non, .non, .non, .non, .non, .int (f : Int), .int (l : Int), .non, .non, .non, .non, .non, .non, .non, .non, .non, .non] := by
  obtain ⟨r, et⟩ := track_ok s hs ms h.sz h.len h.ne f l hf hl
  have k3 := (loop_ret (b := stepB (gNm 7) q3_law) (ks := [7, 18, 19, 20, 21, 22, 23]) (fun i : Nat => D.int ((f + i : Nat) : Int)) [w0, w1, .int s, msD ms, w4, w5, .tup ((List.range (nTr f l)).map fun i : Nat => ptD (box s ((f : Int) + (i : Int)) ms)), .non, .non, .non, .non, .non, .non, .non, .int (f : Int), .int (l : Int), .non, .non, .non, .non, .non, .non, .non, .non, .non, .non] (fun _ => false) .non (List.range (nTr f l)) fun i hi => ⟨fun hh => (by cases hh), fun _ => q3_ok w0 w1 w4 w5 .non .non .non .non .non .non (.int (l : Int)) .non .non .non .non s hs ms h hg f l hf hl i (List.mem_range.mp hi)⟩).2 (by simp)
  rw [← intsDn] at k3
  have hP : ((List.range (nTr f l)).map fun i : Nat => ptD (box s ((f : Int) + (i : Int)) ms)).length = nTr f l := by simp
  have e3 : ((l : Int) + 1 - (f : Int)).toNat = nTr f l := by unfold nTr; omega
  have z1 := s62_of (i := (f : Int)) (by omega) (by omega)
  have z2 := s62_of (i := (l : Int) + 1) (by omega) (by omega)
  have e5 : mx 0 ((l : Int) - (f : Int) + 1) = (nTr f l : Int) := by unfold mx nTr; split <;> omega
  have hnt : nTr f l ≤ 1000 := by unfold nTr; omega
  have p12 := fun w6 => p12_ok s hs ms h hn w0 w1 w4 w5 w6 (.int (f : Int)) (.int (l : Int))
  unfold p9_law
  refine Tru.seq (ρ1 := [w0, w1, .int s, msD ms, w4, w5, .tup ((List.range (nTr f l)).map fun i : Nat => ptD (box s ((f : Int) + (i : Int)) ms)), .non, .non, .non, .non, .non, .non, .non, .int (f : Int), .int (l : Int), .non, .non, .non, .non, .non, .non, .non, .non, .non, .non]) ?_ ?_
  · generalize ((List.range (nTr f l)).map fun i : Nat => ptD (box s ((f : Int) + (i : Int)) ms)) = P at *
    generalize msD ms = W at *
    simp [et]
  unfold p10_law
  refine Tru.seq (ρ1 := [w0, w1, .int s, msD ms, w4, w5, .tup ((List.range (nTr f l)).map fun i : Nat => ptD (box s ((f : Int) + (i : Int)) ms)), .non, .non, .non, .non, .non, .non, .non, .int (f : Int), .int (l : Int), .non, .non, .non, .non, .non, .non, .non, .non, .non, .non]) ?_ ?_
  · generalize ((List.range (nTr f l)).map fun i : Nat => ptD (box s ((f : Int) + (i : Int)) ms)) = P at *
    generalize msD ms = W at *
    simp [hP, d_mx, -d_max2, e5]
  unfold p11_law
  refine Tru.seq ?_ (p12 (.tup ((List.range (nTr f l)).map fun i : Nat => ptD (box s ((f : Int) + (i : Int)) ms))))
  generalize ((List.range (nTr f l)).map fun i : Nat => ptD (box s ((f : Int) + (i : Int)) ms)) = P at *
  generalize msD ms = W at *
  simp [z1, z2, e3, k3]
end K53

namespace K53
open PySem PySem.Spec PyProof.Rows L2 TL
theorem prs_ok (l : List (Nat × Nat)) : pyOk 40 (.lst (l.map prD)) = true := by simp [pyOk, prD]
theorem prs_ne (l : List (Nat × Nat)) : dNe (.lst (l.map prD)) (.lst []) = some (.bl (!l.isEmpty)) := by
  have h2 : pyOk 40 (.lst []) = true := by simp [pyOk]
  unfold dNe
  rw [prs_ok, h2]
  simp only [Bool.and_self, if_true]
  cases l <;> simp [dq, dqs]
theorem prs_eq (l : List (Nat × Nat)) : dEq (.lst (l.map prD)) (.lst []) = some (.bl l.isEmpty) := by
  have h2 : pyOk 40 (.lst []) = true := by simp [pyOk]
  unfold dEq
  rw [prs_ok, h2]
  simp only [Bool.and_self, if_true]
  cases l <;> simp [dq, dqs]
theorem pr_plain (p : Nat × Nat) : TL.plain 7 (prD p) = true := by simp [prD, TL.plain, okS_of (n := 2) (by omega)]
theorem bars_len (s : Int) (ms : List Mk) (h : ms.length < 6) : (bars s ms).length ≤ 100 := by
  have : ∀ l : List Nat, (l.flatMap (rowB s ms)).length ≤ 6 * l.length := by
    intro l
    induction l with
    | nil => simp
    | cons a l ih =>
      have := row_len s ms a
      simp only [List.flatMap_cons, List.length_append, List.length_cons]
      omega
  have := this (List.range ms.length)
  rw [List.length_range] at this
  unfold bars
  omega
theorem p7_ok (ns : List Int) (d : Dr) (hd : d.ok) (s : Int) (hs : OkS s) (ms : List Mk) (n : Nat) (hm : MI s n ms) (hn : n < 6) (h0 : 0 < n) (w0 w5 : D) :
    Tru p7_law [w0, drD ns d, .int s, msD ms, .lst ((bars s ms).map prD), w5, .non, .non, .non, .non, .non, .non, .non, .non, .non, .non, .non, .non, .non, .non, .non, .non, .non, .non, .non, .non] := by
  have hl := hm.len
  have hT : Tms ms := ⟨hm.sz, by omega, by intro e; rw [e] at hl; simp at hl; omega, hm.t0⟩
  have e1 := prs_ne (bars s ms)
  unfold p7_law
  cases hb : (bars s ms).isEmpty with
  | false =>
    rw [hb] at e1
    generalize (bars s ms).map prD = BS at *
    generalize msD ms = W at *
    unfold Tru
    simp [okLen_of (n := 0) (by omega), e1]
  | true =>
    rw [hb] at e1
    have hb' := List.isEmpty_iff.mp hb
    have hg := goods_of s hs.lo ms hm.nn hb'
    obtain ⟨v1, d1, o1, l1, e2⟩ := nxt ns d hd 5 (by omega) (by omega)
    obtain ⟨v2, d2, o2, l2, e3⟩ := nxt ns d1 o1 20 (by omega) (by omega)
    have k9 := fun z4 => p9_ok s hs ms hT hg (by omega) v1 v2 (by omega) (by omega) w0 (drD ns d2) z4 w5
    generalize (bars s ms).map prD = BS at *
    refine Tru.seq (ρ1 := [w0, drD ns d, .int s, msD ms, .lst BS, w5, .non, .non, .non, .non, .non, .non, .non, .non, .non, .non, .non, .non, .non, .non, .non, .non, .non, .non, .non, .non]) ?_ ?_
    · generalize msD ms = W at *
      simp [okLen_of (n := 0) (by omega), e1]
    unfold p8_law
    refine Tru.seq ?_ (k9 (.lst BS))
    generalize msD ms = W at *
    simp [e2, e3]
theorem p3_ok (ns : List Int) (d : Dr) (hd : d.ok) (s : Int) (h0s : 0 ≤ s) (hs3 : s ≤ 3) (ms : List Mk) (n : Nat) (hm : MI s n ms) (hn : n < 6) (h0 : 0 < n) (w0 : D) :
    Tru p3_law [w0, drD ns d, .int s, msD ms, .non, .non, .non, .non, .non, .non, .non, .non, .non, .non, .non, .non, .non, .non, .non, .non, .non, .non, .non, .non, .non, .non] := by
  have hs : OkS s := ⟨h0s, by omega⟩
  have hl := hm.len
  have b1 := lbars_ok s hs ms hm.sz (by omega)
  obtain ⟨r2, b2⟩ := bm_ok s hs ms hm.sz (by omega)
  obtain ⟨r3, b3⟩ := slow_ok ms hm.sz
  have b4 := slow_law s ms h0s hs3 hm.near
  have b5 := lc_map (fun i : Nat => D.int (i : Int)) (fun i : Nat => if decide (bars (i : Int) ms = []) then some (D.int (i : Int)) else none) [w0, drD ns d, .int s, msD ms, .lst ((bars s ms).map prD), .non, .non, .non, .non, .non, .non, .non, .non, .non, .non, .non, .non, .non, .non, .non, .non, .non, .non, .non, .non, .non] (step := stepLc [17] (gNm 17) t1_law e2_law) (List.range 40) fun i hi => by
    have hi := List.mem_range.mp hi
    have b6 := lbars_ok (i : Int) ⟨by omega, by omega⟩ ms hm.sz (by omega)
    have b7 := prs_eq (bars (i : Int) ms)
    have b8 : (bars (i : Int) ms).isEmpty = decide (bars (i : Int) ms = []) := by
      cases bars (i : Int) ms <;> simp
    rw [b8] at b7
    generalize decide (bars (i : Int) ms = []) = B at *
    generalize (bars (i : Int) ms).map prD = X at *
    generalize (bars s ms).map prD = BS at *
    generalize msD ms = W at *
    generalize drD ns d = DD at *
    cases B <;> simp [t1_law, e2_law, b6, b7, okLen_of (n := 0) (by omega)]
  have b9 : (List.range 40).filterMap (fun i : Nat => if decide (bars (i : Int) ms = []) then some (D.int (i : Int)) else none) = ((List.range 40).filter fun one : Nat => decide (bars (one : Int) ms = [])).map fun i : Nat => D.int (i : Int) := by
    induction List.range 40 with
    | nil => rfl
    | cons a l ih =>
      rw [List.filterMap_cons, List.filter_cons, ih]
      cases decide (bars (a : Int) ms = []) <;> rfl
  rw [b9] at b5
  have k7 := fun w5 => p7_ok ns d hd s hs ms n hm hn h0 w0 w5
  have e40 : intsD 0 40 = (List.range 40).map fun t : Nat => D.int (t : Int) := by
    have := intsDn 0 40
    simpa using this
  unfold p3_law
  refine Tru.seq (ρ1 := [w0, drD ns d, .int s, msD ms, .lst ((bars s ms).map prD), .non, .non, .non, .non, .non, .non, .non, .non, .non, .non, .non, .non, .non, .non, .non, .non, .non, .non, .non, .non, .non]) ?_ ?_
  · generalize (bars s ms).map prD = BS at *
    generalize msD ms = W at *
    generalize drD ns d = DD at *
    simp [b1]
  unfold p4_law
  refine Tru.seq (ρ1 := [w0, drD ns d, .int s, msD ms, .lst ((bars s ms).map prD), .non, .non, .non, .non, .non, .non, .non, .non, .non, .non, .non, .non, .non, .non, .non, .non, .non, .non, .non, .non, .non]) ?_ ?_
  · have bl := bars_len s ms (by omega)
    clear b5 k7 b4 b3
    generalize drD ns d = DD at *
    generalize bars s ms = BB at *
    generalize msD ms = W at *
    cases BB with
    | nil =>
      have sm1 := sm_ok .non rfl
      simp only [List.head?_nil, Option.map_none, optD] at b2
      simp [b2, sm1]
    | cons p r =>
      have sm1 := sm_ok (prD p) (pr_plain p)
      simp only [List.head?_cons, Option.map_some, optD] at b2
      rw [List.map_cons]
      generalize prD p = PP at *
      generalize r.map prD = RR at *
      simp [b2, sm1]
  unfold p5_law
  generalize hF : ((List.range 40).filter fun one : Nat => decide (bars (one : Int) ms = [])) = F at *
  have hFl : F.length ≤ 40 := by
    have := List.length_filter_le (fun one : Nat => decide (bars (one : Int) ms = [])) (List.range 40)
    rw [hF, List.length_range] at this
    exact this
  refine Tru.seq (ρ1 := [w0, drD ns d, .int s, msD ms, .lst ((bars s ms).map prD), .lst (F.map fun i : Nat => D.int (i : Int)), .non, .non, .non, .non, .non, .non, .non, .non, .non, .non, .non, .non, .non, .non, .non, .non, .non, .non, .non, .non]) ?_ ?_
  · clear k7 b4 b3 b2
    generalize (bars s ms).map prD = BS at *
    generalize msD ms = W at *
    generalize drD ns d = DD at *
    generalize (List.range 40).map (fun t : Nat => D.int (t : Int)) = L40 at *
    have l40 : (intsD 0 40).length = 40 := by simp
    rw [e40] at l40
    simp [s62_of (i := 40) (by omega) (by omega), e40, l40, okLen_of (n := 40) (by omega), b5]
  unfold p6_law
  refine Tru.seq ?_ (k7 (.lst (F.map fun i : Nat => D.int (i : Int))))
  clear k7 b5 b2
  generalize (bars s ms).map prD = BS at *
  generalize slowO ms (List.range ms.length) 0 = SO at *
  generalize msD ms = W at *
  generalize drD ns d = DD at *
  cases F with
  | nil =>
    simp only [List.head?_nil, Option.map_none] at b4
    subst b4
    have sm1 := sm_ok .non rfl
    simp only [oi] at b3
    simp [b3, sm1]
  | cons a r =>
    simp only [List.head?_cons, Option.map_some] at b4
    subst b4
    have sm1 := sm_ok (.int (a : Int)) rfl
    simp only [oi] at b3
    rw [List.map_cons]
    generalize r.map (fun i : Nat => D.int (i : Int)) = RR at *
    simp [b3, sm1]
theorem law_true : lawF F_law := by
  intro ns _
  have e0 := draw_ok ns
  have e0' : F__law_draw [.scr ns] = some (drD ns Dr0, [.scr ns]) := e0
  refine Tru.law (b := b_law) (m := 25) ?_
  obtain ⟨v1, d1, o1, h1, e1⟩ := nxt ns Dr0 Dr0.ok 4 (by omega) (by omega)
  obtain ⟨v2, d2, o2, h2, e2⟩ := nxt ns d1 o1 5 (by omega) (by omega)
  obtain ⟨ms, d3, o3, hm, e3⟩ := marks_ok ns (v1 : Int) ⟨by omega, by omega⟩ (1 + v2) (by omega) d2 o2
  have k3 := p3_ok ns d3 o3 (v1 : Int) (by omega) (by omega) ms (1 + v2) hm (by omega) (by omega) (.scr ns)
  simp only [Int.natCast_add, Int.cast_ofNat_Int] at e3
  unfold b_law
  refine Tru.seq (ρ1 := [.scr ns, drD ns Dr0, .non, .non, .non, .non, .non, .non, .non, .non, .non, .non, .non, .non, .non, .non, .non, .non, .non, .non, .non, .non, .non, .non, .non, .non]) (by simp [e0']) ?_
  refine Tru.seq (ρ1 := [.scr ns, drD ns d1, .int (v1 : Int), .non, .non, .non, .non, .non, .non, .non, .non, .non, .non, .non, .non, .non, .non, .non, .non, .non, .non, .non, .non, .non, .non, .non]) (by simp [e1]) ?_
  unfold p2_law
  refine Tru.seq ?_ k3
  generalize msD ms = W at *
  simp [e2, e3]
end K53

open PySem PySem.W PyProof.Rows
set_option maxHeartbeats 0 in
theorem PySem.Challenge.cw_farcall_k53_tracks_and_marks_holds : PySem.Challenge.rw_farcall_k53_tracks_and_marks.Holds := by
  w_on; o_law; k_head; (case hw => w_witness2)
  k_fill
  refine L2.walk_of (l := PySem.Challenge.rw_farcall_k53_tracks_and_marks) (n := 63) (k := 10) (x := "script") (CX := fun _ => L2.CX0) (sp := fun w => TL.spL _) rfl (by decide) rfl ⟨rfl, by decide, by decide⟩ (fun w h Y => PySem.W.kIn_of Y) ?F (fun _ _ a ns hl _ hS => ⟨a, ns, rfl, hS, hl, fun _ => rfl⟩) (fun _ _ _ _ _ h => h)
  case F =>
    intro w mg fa h KX G hmg
    refine' TL.toL K53.law_true (K53.all_mk KX G hmg ?a0 ?l0 ?c0 ?k0 ?a1 ?l1 ?c1 ?k1 ?a2 ?l2 ?c2 ?k2 ?a3 ?l3 ?c3 ?k3 ?a4 ?l4 ?c4 ?k4 ?a5 ?l5 ?c5 ?k5 ?a6 ?l6 ?c6 ?k6 ?a7 ?l7 ?c7 ?k7 ?a8 ?l8 ?c8 ?k8 ?a9 ?l9 ?c9 ?k9 ?a10 ?l10 ?c10 ?k10 ?a11 ?l11 ?c11 ?k11 ?a12 ?l12 ?c12 ?k12 ?a13 ?l13 ?c13 ?k13 ?a14 ?l14 ?c14 ?k14 ?a15 ?l15 ?c15 ?k15 ?a16 ?l16 ?c16 ?k16 ?a17 ?l17 ?c17 ?k17 ?a18 ?l18 ?c18 ?k18 ?z0 ?z1 ?z2 ?z3 ?z4 ?z5 ?z6 ?z7 ?z8 ?z9 ?z10 ?z11 ?z12 ?i0)
    (case a0 => k_is); (case l0 => k_is); (case c0 => k_is); (case k0 => k_is); (case a1 => k_is); (case l1 => k_is); (case c1 => k_is); (case k1 => k_is); (case a2 => k_is); (case l2 => k_is); (case c2 => k_is); (case k2 => k_is); (case a3 => k_is); (case l3 => k_is); (case c3 => k_is); (case k3 => k_is); (case a4 => k_is); (case l4 => k_is); (case c4 => k_is); (case k4 => k_is); (case a5 => k_is); (case l5 => k_is); (case c5 => k_is); (case k5 => k_is); (case a6 => k_is); (case l6 => k_is); (case c6 => k_is); (case k6 => k_is); (case a7 => k_is); (case l7 => k_is); (case c7 => k_is); (case k7 => k_is); (case a8 => k_is); (case l8 => k_is); (case c8 => k_is); (case k8 => k_is); (case a9 => k_is); (case l9 => k_is); (case c9 => k_is); (case k9 => k_is); (case a10 => k_is); (case l10 => k_is); (case c10 => k_is); (case k10 => k_is); (case a11 => k_is); (case l11 => k_is); (case c11 => k_is); (case k11 => k_is); (case a12 => k_is); (case l12 => k_is); (case c12 => k_is); (case k12 => k_is); (case a13 => k_is); (case l13 => k_is); (case c13 => k_is); (case k13 => k_is); (case a14 => k_is); (case l14 => k_is); (case c14 => k_is); (case k14 => k_is); (case a15 => k_is); (case l15 => k_is); (case c15 => k_is); (case k15 => k_is); (case a16 => k_is); (case l16 => k_is); (case c16 => k_is); (case k16 => k_is); (case a17 => k_is); (case l17 => k_is); (case c17 => k_is); (case k17 => k_is); (case a18 => k_is); (case l18 => k_is); (case c18 => k_is); (case k18 => k_is); (case z0 => k_is); (case z1 => k_is); (case z2 => k_is); (case z3 => k_is); (case z4 => k_is); (case z5 => k_is); (case z6 => k_is); (case z7 => k_is); (case z8 => k_is); (case z9 => k_is); (case z10 => k_is); (case z11 => k_is); (case z12 => k_is); (case i0 => k_is)

