import PyProof.Rows.All
import HandS.ForMost
import HandS.TupAny
import HandS.TupLe
import HandS.Deep
import HandS.Style
import HandS.Wide
import HandS.Flow
import HandS.IsInst
import HandS.SortInts
import HandS.TupMul
import HandS.SortRule
import HandS.Zip
import KE.LtData
import KE.SortData
import KE.DataMinMax
import HandS.RepeatKit
import HandS.Conv
import HandS.Sort
import HandS.Records
import KE.GoesEnum
import HandS.Gcd
import PySem.Challenge.RW_farcall_k97_deeds_aboard_in_sight
set_option Elab.async false
set_option linter.all false
set_option maxRecDepth 100000
set_option maxHeartbeats 4000000
namespace TL
open PySem PySem.Spec PyProof.Rows L2

/-! ### data as trees -/
inductive D where
  | non | bl (b : Bool) | int (i : Int) | str (s : Str)
  | tup (l : List D) | lst (l : List D) | dct (l : List (D × D)) | set (l : List D) | obj (c : Str) (l : List (Str × D)) | scr (ns : List Int)
  deriving Inhabited

def keyD : Key → D
  | .inl i => .int i
  | .inr s => .str s
def keysD (k : List Key) : D := .tup (k.map keyD)

/-! ### what is kept apart -/
def hide (S : List Addr) (H : Hp) : Hp := fun a => if a ∈ S then none else H a
def Le (G G' : Hp) : Prop := ∀ a o, G a = some o → G' a = some o
theorem Le.refl (G : Hp) : Le G G := fun _ _ h => h
theorem Le.trans {A B C : Hp} (h : Le A B) (k : Le B C) : Le A C := fun a o e => k a o (h a o e)
theorem hide_le (S : List Addr) (H : Hp) : Le (hide S H) H := fun a o e => by
  unfold hide at e
  by_cases h : a ∈ S
  · simp [h] at e
  · simpa [h] using e
theorem hide_some {S : List Addr} {H : Hp} {a : Addr} {o : HO} : hide S H a = some o ↔ a ∉ S ∧ H a = some o := by
  unfold hide
  by_cases h : a ∈ S <;> simp [h]
theorem hide_mono {S S' : List Addr} {H H' : Hp} (hS : ∀ a o, a ∉ S → H a = some o → a ∉ S' ∧ H' a = some o) : Le (hide S H) (hide S' H') := fun a o e => by
  rw [hide_some] at e ⊢
  exact hS a o e.1 e.2
theorem Le.seqT {K : PySem.W.Frag} {G G' : Hp} {a : Addr} {xs : List V} (e : Le G G') (h : SqT K G a xs) : SqT K G' a xs := by
  rcases h with (h | ⟨o, h⟩) | h
  · exact .inl (.inl (e _ _ h))
  · exact .inl (.inr ⟨o, e _ _ h⟩)
  · exact .inr h

theorem Le.seqL {K : PySem.W.Frag} {G G' : Hp} {a : Addr} {xs : List V} (e : Le G G') (h : SqL K G a xs) : SqL K G' a xs := by
  rcases h with (h | ⟨o, h⟩) | h
  · exact .inl (.inl (e _ _ h))
  · exact .inl (.inr ⟨o, e _ _ h⟩)
  · exact .inr h

/-! ### frozen trees -/
mutual
inductive Rf (K : PySem.W.Frag) (mg : Str → Option Value) (G : Hp) : D → V → Prop
  | non : Rf K mg G .non .non
  | bl (b : Bool) : Rf K mg G (.bl b) (.bl b)
  | int (i : Int) : Rf K mg G (.int i) (.int i)
  | str (s : Str) : Rf K mg G (.str s) (.str s)
  | tup {a : Addr} {vs : List V} {ds : List D} : SqT K G a vs → Rfs K mg G ds vs → Rf K mg G (.tup ds) (.ref a)
  | lst {a : Addr} {vs : List V} {ds : List D} : G a = some (.lst vs) → Rfs K mg G ds vs → Rf K mg G (.lst ds) (.ref a)
  | dK {a : Addr} {kvs : List (Key × V)} {kds : List (D × D)} : G a = some (.dK kvs) → kds.map (·.1) = kvs.map (fun p => keyD p.1) → Rfs K mg G (kds.map (·.2)) (kvs.map (·.2)) → Rf K mg G (.dct kds) (.ref a)
  | dT {a : Addr} {kvs : List (List Key × V)} {kds : List (D × D)} : G a = some (.dT kvs) → kds.map (·.1) = kvs.map (fun p => keysD p.1) → Rfs K mg G (kds.map (·.2)) (kvs.map (·.2)) → Rf K mg G (.dct kds) (.ref a)
  | obj {a C dx : Addr} {fvs : List (Str × V)} {fds : List (Str × D)} {c : Str} : mg c = some (.ref C) → G a = some (.ins C dx fvs) → fds.map (·.1) = fvs.map (·.1) → Rfs K mg G (fds.map (·.2)) (fvs.map (·.2)) → Rf K mg G (.obj c fds) (.ref a)
  | scr {a : Addr} {ns : List Int} : SqL K G a (ns.map V.int) → Rf K mg G (.scr ns) (.ref a)
inductive Rfs (K : PySem.W.Frag) (mg : Str → Option Value) (G : Hp) : List D → List V → Prop
  | nil : Rfs K mg G [] []
  | cons {d : D} {v : V} {ds : List D} {vs : List V} : Rf K mg G d v → Rfs K mg G ds vs → Rfs K mg G (d :: ds) (v :: vs)
end

section
variable {K : PySem.W.Frag} {mg : Str → Option Value} {G G' : Hp}
mutual
theorem Rf.mono (e : Le G G') : ∀ {d : D} {v : V}, Rf K mg G d v → Rf K mg G' d v
  | _, _, .non => .non
  | _, _, .bl b => .bl b
  | _, _, .int i => .int i
  | _, _, .str s => .str s
  | _, _, .tup h r => .tup (e.seqT h) (Rfs.mono e r)
  | _, _, .lst h r => .lst (e _ _ h) (Rfs.mono e r)
  | _, _, .dK h k r => .dK (e _ _ h) k (Rfs.mono e r)
  | _, _, .dT h k r => .dT (e _ _ h) k (Rfs.mono e r)
  | _, _, .obj m h k r => .obj m (e _ _ h) k (Rfs.mono e r)
  | _, _, .scr h => .scr (e.seqL h)
theorem Rfs.mono (e : Le G G') : ∀ {ds : List D} {vs : List V}, Rfs K mg G ds vs → Rfs K mg G' ds vs
  | _, _, .nil => .nil
  | _, _, .cons h r => .cons (Rf.mono e h) (Rfs.mono e r)
end
theorem Rfs.length : ∀ {ds : List D} {vs : List V}, Rfs K mg G ds vs → ds.length = vs.length
  | _, _, .nil => rfl
  | _, _, .cons _ r => congrArg (· + 1) (Rfs.length r)
theorem Rfs.get : ∀ {ds : List D} {vs : List V} {i : Nat} {d : D}, Rfs K mg G ds vs → ds[i]? = some d → ∃ v, vs[i]? = some v ∧ Rf K mg G d v
  | _, _, 0, _, .cons h _, e => ⟨_, rfl, by simpa using (Option.some.inj e) ▸ h⟩
  | _, _, i + 1, _, .cons _ r, e => Rfs.get (i := i) r (by simpa using e)
  | _, _, _, _, .nil, e => by simp at e
theorem Rfs.get' {ds : List D} {vs : List V} {i : Nat} {v : V} (r : Rfs K mg G ds vs) (e : vs[i]? = some v) : ∃ d, ds[i]? = some d ∧ Rf K mg G d v := by
  have hl := r.length
  have hi : i < ds.length := by
    have := (List.getElem?_eq_some_iff.mp e).1
    omega
  obtain ⟨v', e', q⟩ := Rfs.get r (List.getElem?_eq_getElem hi)
  rw [e] at e'; cases e'
  exact ⟨_, List.getElem?_eq_getElem hi, q⟩
theorem Rfs.append : ∀ {ds es : List D} {vs ws : List V}, Rfs K mg G ds vs → Rfs K mg G es ws → Rfs K mg G (ds ++ es) (vs ++ ws)
  | _, _, _, _, .nil, s => s
  | _, _, _, _, .cons h r, s => .cons h (Rfs.append r s)
theorem Rfs.take : ∀ {ds : List D} {vs : List V} (n : Nat), Rfs K mg G ds vs → Rfs K mg G (ds.take n) (vs.take n)
  | _, _, 0, _ => by simpa using Rfs.nil
  | _, _, _ + 1, .nil => .nil
  | _, _, n + 1, .cons h r => .cons h (Rfs.take n r)
theorem Rfs.drop : ∀ {ds : List D} {vs : List V} (n : Nat), Rfs K mg G ds vs → Rfs K mg G (ds.drop n) (vs.drop n)
  | _, _, 0, r => r
  | _, _, _ + 1, .nil => .nil
  | _, _, n + 1, .cons _ r => Rfs.drop n r
theorem Rfs.set : ∀ {ds : List D} {vs : List V} {d : D} {v : V} (i : Nat), Rfs K mg G ds vs → Rf K mg G d v → Rfs K mg G (ds.set i d) (vs.set i v)
  | _, _, _, _, _, .nil, _ => .nil
  | _, _, _, _, 0, .cons _ r, h => .cons h r
  | _, _, _, _, i + 1, .cons q r, h => .cons q (Rfs.set i r h)
theorem Rfs.one {d : D} {v : V} (h : Rf K mg G d v) : Rfs K mg G [d] [v] := .cons h .nil
theorem Rfs.reverse : ∀ {ds : List D} {vs : List V}, Rfs K mg G ds vs → Rfs K mg G ds.reverse vs.reverse
  | _, _, .nil => .nil
  | _, _, .cons h r => by
    rw [List.reverse_cons, List.reverse_cons]
    exact (Rfs.reverse r).append (.one h)
theorem Rfs.rep {ds : List D} {vs : List V} (h : Rfs K mg G ds vs) : ∀ n : Nat, Rfs K mg G (List.replicate n ds).flatten (List.replicate n vs).flatten
  | 0 => .nil
  | n + 1 => by
    rw [List.replicate_succ, List.replicate_succ, List.flatten_cons, List.flatten_cons]
    exact h.append (Rfs.rep h n)
theorem Rfs.ints : ∀ {ns : List Int} {vs : List V}, Rfs K mg G (ns.map D.int) vs → vs = ns.map V.int
  | [], _, .nil => rfl
  | _ :: _, _, .cons (.int _) r => congrArg _ (Rfs.ints r)
theorem Rfs.of_ints : ∀ (ns : List Int), Rfs K mg G (ns.map D.int) (ns.map V.int)
  | [] => .nil
  | n :: r => .cons (.int n) (Rfs.of_ints r)
theorem Rfs.bls : ∀ {ns : List Bool} {vs : List V}, Rfs K mg G (ns.map D.bl) vs → vs = ns.map V.bl
  | [], _, .nil => rfl
  | _ :: _, _, .cons (.bl _) r => congrArg _ (Rfs.bls r)
end

/-! ### kinds of slots; trees with owned parts -/
inductive Ty where
  | no | sh | oL (t : Ty) | oK (t : Ty) | oT (t : Ty) | oO (c : Str) (l : List Ty)
  deriving Inhabited

mutual
inductive Rp (K : PySem.W.Frag) (mg : Str → Option Value) (H G : Hp) : Ty → D → V → List Addr → Prop
  | sh {d : D} {v : V} : Rf K mg G d v → Rp K mg H G .sh d v []
  | oL {t : Ty} {a : Addr} {vs : List V} {ds : List D} {f : List Addr} : H a = some (.lst vs) → Rps K mg H G (List.replicate ds.length t) ds vs f → Rp K mg H G (.oL t) (.lst ds) (.ref a) (a :: f)
  | oK {t : Ty} {a : Addr} {kvs : List (Key × V)} {kds : List (D × D)} {f : List Addr} : H a = some (.dK kvs) → kds.map (·.1) = kvs.map (fun p => keyD p.1) →
      Rps K mg H G (List.replicate kds.length t) (kds.map (·.2)) (kvs.map (·.2)) f → Rp K mg H G (.oK t) (.dct kds) (.ref a) (a :: f)
  | oT {t : Ty} {a : Addr} {kvs : List (List Key × V)} {kds : List (D × D)} {f : List Addr} : H a = some (.dT kvs) → kds.map (·.1) = kvs.map (fun p => keysD p.1) →
      Rps K mg H G (List.replicate kds.length t) (kds.map (·.2)) (kvs.map (·.2)) f → Rp K mg H G (.oT t) (.dct kds) (.ref a) (a :: f)
  | oO {ts : List Ty} {a C dx : Addr} {fvs : List (Str × V)} {fds : List (Str × D)} {c : Str} {f : List Addr} : mg c = some (.ref C) → H a = some (.ins C dx fvs) → fds.map (·.1) = fvs.map (·.1) →
      Rps K mg H G ts (fds.map (·.2)) (fvs.map (·.2)) f → Rp K mg H G (.oO c ts) (.obj c fds) (.ref a) (a :: f)
inductive Rps (K : PySem.W.Frag) (mg : Str → Option Value) (H G : Hp) : List Ty → List D → List V → List Addr → Prop
  | nil : Rps K mg H G [] [] [] []
  | cons {t : Ty} {d : D} {v : V} {f g : List Addr} {ts : List Ty} {ds : List D} {vs : List V} : Rp K mg H G t d v f → Rps K mg H G ts ds vs g → Rps K mg H G (t :: ts) (d :: ds) (v :: vs) (f ++ g)
end

section
variable {K : PySem.W.Frag} {mg : Str → Option Value} {H H' G G' : Hp}
mutual
theorem Rp.mono (e : Le G G') : ∀ {t : Ty} {d : D} {v : V} {f : List Addr}, (∀ a ∈ f, H' a = H a) → Rp K mg H G t d v f → Rp K mg H' G' t d v f
  | _, _, _, _, _, .sh r => .sh (r.mono e)
  | _, _, _, _, k, .oL h r => .oL ((k _ (by simp)).trans h) (Rps.mono e (fun a ha => k a (List.mem_cons_of_mem _ ha)) r)
  | _, _, _, _, k, .oK h n r => .oK ((k _ (by simp)).trans h) n (Rps.mono e (fun a ha => k a (List.mem_cons_of_mem _ ha)) r)
  | _, _, _, _, k, .oT h n r => .oT ((k _ (by simp)).trans h) n (Rps.mono e (fun a ha => k a (List.mem_cons_of_mem _ ha)) r)
  | _, _, _, _, k, .oO m h n r => .oO m ((k _ (by simp)).trans h) n (Rps.mono e (fun a ha => k a (List.mem_cons_of_mem _ ha)) r)
theorem Rps.mono (e : Le G G') : ∀ {ts : List Ty} {ds : List D} {vs : List V} {f : List Addr}, (∀ a ∈ f, H' a = H a) → Rps K mg H G ts ds vs f → Rps K mg H' G' ts ds vs f
  | _, _, _, _, _, .nil => .nil
  | _, _, _, _, k, .cons h r => .cons (Rp.mono e (fun a ha => k a (List.mem_append_left _ ha)) h) (Rps.mono e (fun a ha => k a (List.mem_append_right _ ha)) r)
end
mutual
/-- the owned parts given away: a frozen tree -/
theorem Rp.frz (e : Le G G') : ∀ {t : Ty} {d : D} {v : V} {f : List Addr}, (∀ a ∈ f, ∀ o, H a = some o → G' a = some o) → Rp K mg H G t d v f → Rf K mg G' d v
  | _, _, _, _, _, .sh r => r.mono e
  | _, _, _, _, k, .oL h r => .lst (k _ (by simp) _ h) (Rps.frz e (fun a ha => k a (List.mem_cons_of_mem _ ha)) r)
  | _, _, _, _, k, .oK h n r => .dK (k _ (by simp) _ h) n (Rps.frz e (fun a ha => k a (List.mem_cons_of_mem _ ha)) r)
  | _, _, _, _, k, .oT h n r => .dT (k _ (by simp) _ h) n (Rps.frz e (fun a ha => k a (List.mem_cons_of_mem _ ha)) r)
  | _, _, _, _, k, .oO m h n r => .obj m (k _ (by simp) _ h) n (Rps.frz e (fun a ha => k a (List.mem_cons_of_mem _ ha)) r)
theorem Rps.frz (e : Le G G') : ∀ {ts : List Ty} {ds : List D} {vs : List V} {f : List Addr}, (∀ a ∈ f, ∀ o, H a = some o → G' a = some o) → Rps K mg H G ts ds vs f → Rfs K mg G' ds vs
  | _, _, _, _, _, .nil => .nil
  | _, _, _, _, k, .cons h r => .cons (Rp.frz e (fun a ha => k a (List.mem_append_left _ ha)) h) (Rps.frz e (fun a ha => k a (List.mem_append_right _ ha)) r)
end
/-- what may stand at an owned address -/
def Own : HO → Prop
  | .lst _ => True
  | .dK _ => True
  | .dT _ => True
  | .ins _ _ _ => True
  | _ => False
mutual
theorem Rp.there : ∀ {t : Ty} {d : D} {v : V} {f : List Addr}, Rp K mg H G t d v f → ∀ a ∈ f, ∃ o, H a = some o ∧ Own o
  | _, _, _, _, .sh _, _, h => nomatch h
  | _, _, _, _, .oL h r, a, ha => (List.mem_cons.mp ha).elim (fun z => by subst z; exact ⟨_, h, trivial⟩) (Rps.there r a)
  | _, _, _, _, .oK h n r, a, ha => (List.mem_cons.mp ha).elim (fun z => by subst z; exact ⟨_, h, trivial⟩) (Rps.there r a)
  | _, _, _, _, .oT h n r, a, ha => (List.mem_cons.mp ha).elim (fun z => by subst z; exact ⟨_, h, trivial⟩) (Rps.there r a)
  | _, _, _, _, .oO m h n r, a, ha => (List.mem_cons.mp ha).elim (fun z => by subst z; exact ⟨_, h, trivial⟩) (Rps.there r a)
theorem Rps.there : ∀ {ts : List Ty} {ds : List D} {vs : List V} {f : List Addr}, Rps K mg H G ts ds vs f → ∀ a ∈ f, ∃ o, H a = some o ∧ Own o
  | _, _, _, _, .nil, _, h => nomatch h
  | _, _, _, _, .cons h r, a, ha => (List.mem_append.mp ha).elim (Rp.there h a) (Rps.there r a)
end
theorem Rps.of_sh : ∀ {ds : List D} {vs : List V}, Rfs K mg G ds vs → Rps K mg H G (List.replicate ds.length .sh) ds vs []
  | _, _, .nil => .nil
  | _, _, .cons h r => by
    have q := Rps.cons (Rp.sh (K := K) (mg := mg) (H := H) h) (Rps.of_sh r)
    exact q
theorem Rps.to_sh : ∀ {n : Nat} {ds : List D} {vs : List V} {f : List Addr}, Rps K mg H G (List.replicate n .sh) ds vs f → Rfs K mg G ds vs ∧ f = []
  | 0, _, _, _, r => by cases r; exact ⟨.nil, rfl⟩
  | n + 1, _, _, _, r => by
    rw [List.replicate_succ] at r
    cases r with
    | cons h r =>
      cases h with
      | sh q =>
        obtain ⟨q2, e⟩ := Rps.to_sh r
        subst e
        exact ⟨.cons q q2, rfl⟩
end

/-! ### the slots -/
inductive Sl (K : PySem.W.Frag) (mg : Str → Option Value) (H G : Hp) : List Ty → List D → L2.St → List Addr → Prop
  | nil : Sl K mg H G [] [] [] []
  | no {d : D} {v : Option V} {ts : List Ty} {ds : List D} {vs : L2.St} {f : List Addr} : Sl K mg H G ts ds vs f → Sl K mg H G (.no :: ts) (d :: ds) (v :: vs) f
  | cons {t : Ty} {d : D} {v : V} {ts : List Ty} {ds : List D} {vs : L2.St} {f g : List Addr} : Rp K mg H G t d v f → Sl K mg H G ts ds vs g → Sl K mg H G (t :: ts) (d :: ds) (some v :: vs) (f ++ g)

section
variable {K : PySem.W.Frag} {mg : Str → Option Value} {H H' G G' : Hp}
theorem Sl.mono (e : Le G G') : ∀ {τ : List Ty} {ρ : List D} {σ : L2.St} {f : List Addr}, (∀ a ∈ f, H' a = H a) → Sl K mg H G τ ρ σ f → Sl K mg H' G' τ ρ σ f
  | _, _, _, _, _, .nil => .nil
  | _, _, _, _, k, .no r => .no (Sl.mono e k r)
  | _, _, _, _, k, .cons h r => .cons (h.mono e fun a ha => k a (List.mem_append_left _ ha)) (Sl.mono e (fun a ha => k a (List.mem_append_right _ ha)) r)
theorem Sl.there : ∀ {τ : List Ty} {ρ : List D} {σ : L2.St} {f : List Addr}, Sl K mg H G τ ρ σ f → ∀ a ∈ f, ∃ o, H a = some o ∧ Own o
  | _, _, _, _, .nil, _, h => nomatch h
  | _, _, _, _, .no r, a, ha => Sl.there r a ha
  | _, _, _, _, .cons h r, a, ha => (List.mem_append.mp ha).elim (h.there a) (Sl.there r a)
theorem Sl.len : ∀ {τ : List Ty} {ρ : List D} {σ : L2.St} {f : List Addr}, Sl K mg H G τ ρ σ f → τ.length = ρ.length ∧ σ.length = ρ.length
  | _, _, _, _, .nil => ⟨rfl, rfl⟩
  | _, _, _, _, .no r => by have := Sl.len r; simp [this.1, this.2]
  | _, _, _, _, .cons h r => by have := Sl.len r; simp [this.1, this.2]
/-- one slot taken out, something else put in, in another heap -/
theorem Sl.split : ∀ {τ : List Ty} {ρ : List D} {σ : L2.St} {f : List Addr} {i : Nat} {t : Ty}, Sl K mg H G τ ρ σ f → τ[i]? = some t →
    ∃ f1 fo f2, f = f1 ++ fo ++ f2 ∧ ((t = .no ∧ fo = []) ∨ ∃ v, σ[i]? = some (some v) ∧ Rp K mg H G t (ρ.getD i .non) v fo) ∧ i < ρ.length ∧
      (∀ {H' G' : Hp} {t' : Ty} {d' : D} {v' : V} {f' : List Addr}, (∀ a ∈ f1 ++ f2, H' a = H a) → Le G G' → Rp K mg H' G' t' d' v' f' → Sl K mg H' G' (τ.set i t') (ρ.set i d') (σ.set i (some v')) (f1 ++ f' ++ f2)) ∧
      (∀ {H' G' : Hp} {t' : Ty} {d' : D} {v' : V} {f' : List Addr}, (∀ a ∈ f1 ++ f2, H' a = H a) → Le G G' → σ[i]? = some (some v') → Rp K mg H' G' t' d' v' f' → Sl K mg H' G' (τ.set i t') (ρ.set i d') σ (f1 ++ f' ++ f2)) ∧
      (∀ {H' G' : Hp} {d' : D}, (∀ a ∈ f1 ++ f2, H' a = H a) → Le G G' → Sl K mg H' G' (τ.set i .no) (ρ.set i d') σ (f1 ++ f2))
  | _, _, _, _, _, _, .nil, e => by simp at e
  | _, _, _, _, 0, t, .no (d := d) (v := v) (f := f) r, e => by
    have e' : Ty.no = t := by simpa using e
    subst e'
    refine ⟨[], [], f, by simp, .inl ⟨rfl, rfl⟩, by simp, fun {H' G' t' d' v' f'} k le h => ?_, fun {H' G' t' d' v' f'} k le ev h => ?_, fun {H' G' d'} k le => ?_⟩
    · exact .cons h (r.mono le fun a ha => k a (by simpa using ha))
    · have : v = some v' := by simpa using ev
      subst this
      exact .cons h (r.mono le fun a ha => k a (by simpa using ha))
    · exact .no (r.mono le fun a ha => k a (by simpa using ha))
  | _, _, _, _, 0, t, .cons (t := t0) (d := d) (v := v) (f := f0) (g := g) h0 r, e => by
    have e' : t0 = t := by simpa using e
    subst e'
    refine ⟨[], f0, g, by simp, .inr ⟨v, rfl, by simpa using h0⟩, by simp, fun {H' G' t' d' v' f'} k le h => ?_, fun {H' G' t' d' v' f'} k le ev h => ?_, fun {H' G' d'} k le => ?_⟩
    · exact .cons h (r.mono le fun a ha => k a (by simpa using ha))
    · have : v = v' := by simpa using ev
      subst this
      exact .cons h (r.mono le fun a ha => k a (by simpa using ha))
    · exact .no (r.mono le fun a ha => k a (by simpa using ha))
  | _, _, _, _, i + 1, t, .no (d := d) (v := v) r, e => by
    obtain ⟨f1, fo, f2, ef, ho, hi, h1, h2, h3⟩ := Sl.split (i := i) r (by simpa using e)
    refine ⟨f1, fo, f2, ef, ?_, by simpa using hi, fun k le h => ?_, fun k le ev h => ?_, fun k le => ?_⟩
    · rcases ho with ho | ⟨v, e1, q⟩
      · exact .inl ho
      · exact .inr ⟨v, by simpa using e1, by simpa using q⟩
    · exact .no (h1 k le h)
    · exact .no (h2 k le (by simpa using ev) h)
    · exact .no (h3 k le)
  | _, _, _, _, i + 1, t, .cons (t := t0) (d := d) (v := v) (f := f0) (g := g) h0 r, e => by
    obtain ⟨f1, fo, f2, ef, ho, hi, h1, h2, h3⟩ := Sl.split (i := i) r (by simpa using e)
    refine ⟨f0 ++ f1, fo, f2, by rw [ef]; simp, ?_, by simpa using hi, fun {H' G' t' d' v' f'} k le h => ?_, fun {H' G' t' d' v' f'} k le ev h => ?_, fun {H' G' d'} k le => ?_⟩
    · rcases ho with ho | ⟨v, e1, q⟩
      · exact .inl ho
      · exact .inr ⟨v, by simpa using e1, by simpa using q⟩
    · have := Sl.cons (h0.mono le fun a ha => k a (by simp [ha])) (h1 (fun a ha => k a (by simp at ha ⊢; rcases ha with h | h <;> simp [h])) le h)
      simpa using this
    · have := Sl.cons (h0.mono le fun a ha => k a (by simp [ha])) (h2 (fun a ha => k a (by simp at ha ⊢; rcases ha with h | h <;> simp [h])) le (by simpa using ev) h)
      simpa using this
    · have := Sl.cons (h0.mono le fun a ha => k a (by simp [ha])) (h3 (fun a ha => k a (by simp at ha ⊢; rcases ha with h | h <;> simp [h])) le (d' := d'))
      simpa using this
end
end TL

namespace TL
open PySem PySem.Spec PyProof.Rows L2

abbrev Rho := List D
/-- a value, or the slot of an owned list that is read where it is used -/
inductive Hd where
  | v (d : D) | x (i : Nat)
def Hd.res (h : Hd) (ρ : Rho) : D := match h with
  | .v d => d
  | .x i => ρ.getD i .non
abbrev Ef := Rho → Option (Hd × Rho)
abbrev Of := Rho → Option (D × Rho)
abbrev Tf := Rho → Option (Bool × Rho)
abbrev Af := Rho → Option (List Hd × Rho)

def Grow (H H' : Hp) : Prop := ∀ a o, H a = some o → H' a = some o
theorem Grow.refl (H : Hp) : Grow H H := fun _ _ h => h
theorem Grow.trans {A B C : Hp} (h : Grow A B) (k : Grow B C) : Grow A C := fun a o e => k a o (h a o e)
theorem Grow.upd {H : Hp} {p : Addr} {o : HO} (h : H p = none) : Grow H (upd H p o) := fun a u e => by
  rw [upd_ne (ne_of_none e h)]; exact e
theorem Grow.free {H H' : Hp} (g : Grow H H') {p : Addr} (h : H' p = none) : H p = none := by
  cases e : H p with
  | none => rfl
  | some o => rw [g _ _ e] at h; cases h

structure Step (H H' : Hp) (fs fs' : List Addr) : Prop where
  ext : ∀ a o, a ∉ fs → H a = some o → H' a = some o
  sub : ∀ a ∈ fs', a ∈ fs ∨ H a = none
  ne : ∀ a o, H a = some o → ∃ o', H' a = some o'
theorem Step.refl (H : Hp) (fs : List Addr) : Step H H fs fs := ⟨fun _ _ _ h => h, fun _ h => .inl h, fun _ o h => ⟨o, h⟩⟩
theorem Step.grow {H H' : Hp} (g : Grow H H') (fs : List Addr) : Step H H' fs fs := ⟨fun a o _ h => g a o h, fun _ h => .inl h, fun a o h => ⟨o, g a o h⟩⟩
theorem Step.trans {A B C : Hp} {f g h : List Addr} (s : Step A B f g) (t : Step B C g h) : Step A C f h where
  ext := fun a o n e => by
    refine t.ext a o (fun z => ?_) (s.ext a o n e)
    rcases s.sub a z with q | q
    · exact n q
    · rw [q] at e; cases e
  sub := fun a ha => by
    rcases t.sub a ha with q | q
    · exact s.sub a q
    · cases e : A a with
      | none => exact .inr rfl
      | some o =>
        obtain ⟨o', e'⟩ := s.ne a o e
        rw [e'] at q; cases q
  ne := fun a o e => by
    obtain ⟨o', e'⟩ := s.ne a o e
    exact t.ne a o' e'
theorem Step.less {H H' : Hp} {f g h : List Addr} (s : Step H H' f g) (k : ∀ a ∈ h, a ∈ g) : Step H H' f h := ⟨s.ext, fun a ha => s.sub a (k a ha), s.ne⟩

/-- the state: R held elsewhere, the slots' owned parts at fs -/
structure SR (K : PySem.W.Frag) (mg : Str → Option Value) (R : List Addr) (τ : List Ty) (ρ : Rho) (σ : L2.St) (H : Hp) (fs : List Addr) : Prop where
  sl : Sl K mg H (hide (R ++ fs) H) τ ρ σ fs
  nd : (R ++ fs).Nodup
  al : ∀ a ∈ R, ∃ o, H a = some o ∧ Own o

section
variable {K : PySem.W.Frag} {mg : Str → Option Value} {R : List Addr} {τ : List Ty} {ρ : Rho} {σ : L2.St} {H H' : Hp} {fs fs' : List Addr}
theorem hide_grow (S : List Addr) (g : Grow H H') : Le (hide S H) (hide S H') := hide_mono fun a o n e => ⟨n, g a o e⟩
theorem SR.own (s : SR K mg R τ ρ σ H fs) : ∀ a ∈ R ++ fs, ∃ o, H a = some o ∧ Own o := fun a ha => (List.mem_append.mp ha).elim (s.al a) (s.sl.there a)
theorem SR.grow (s : SR K mg R τ ρ σ H fs) (g : Grow H H') : SR K mg R τ ρ σ H' fs := by
  refine ⟨s.sl.mono (hide_grow _ g) fun a ha => ?_, s.nd, fun a ha => ?_⟩
  · obtain ⟨o, e, _⟩ := s.sl.there a ha
    rw [e, g a o e]
  · obtain ⟨o, e, q⟩ := s.al a ha
    exact ⟨o, g a o e, q⟩
theorem SR.fresh (s : SR K mg R τ ρ σ H fs) {p : Addr} (h : H p = none) : p ∉ R ++ fs := fun hp => by
  obtain ⟨o, e, _⟩ := s.own p hp
  rw [e] at h; cases h
/-- frozen parts stay behind a step -/
theorem SR.le (s : SR K mg R τ ρ σ H fs) (t : Step H H' fs fs') : Le (hide (R ++ fs) H) (hide (R ++ fs') H') := hide_mono fun a o n e => by
  have n1 : a ∉ R := fun z => n (List.mem_append_left _ z)
  have n2 : a ∉ fs := fun z => n (List.mem_append_right _ z)
  refine ⟨fun z => ?_, t.ext a o n2 e⟩
  rcases List.mem_append.mp z with z | z
  · exact n1 z
  · rcases t.sub a z with q | q
    · exact n2 q
    · rw [q] at e; cases e
/-- a frozen tree, relative to a whole heap; flat owned lists and dicts seen from outside -/
inductive Rv (K : PySem.W.Frag) (mg : Str → Option Value) (S : List Addr) (H : Hp) : D → V → Prop
  | rf {d : D} {v : V} : Rf K mg (hide S H) d v → Rv K mg S H d v
  | lst {a : Addr} {vs : List V} {ds : List D} : H a = some (.lst vs) → Rfs K mg (hide S H) ds vs → Rv K mg S H (.lst ds) (.ref a)
  | dK {a : Addr} {kvs : List (Key × V)} {kds : List (D × D)} : H a = some (.dK kvs) → kds.map (·.1) = kvs.map (fun p => keyD p.1) → Rfs K mg (hide S H) (kds.map (·.2)) (kvs.map (·.2)) → Rv K mg S H (.dct kds) (.ref a)
  | dT {a : Addr} {kvs : List (List Key × V)} {kds : List (D × D)} : H a = some (.dT kvs) → kds.map (·.1) = kvs.map (fun p => keysD p.1) → Rfs K mg (hide S H) (kds.map (·.2)) (kvs.map (·.2)) → Rv K mg S H (.dct kds) (.ref a)
def flatT : Ty → Bool
  | .sh => true
  | .oL .sh => true
  | .oK .sh => true
  | .oT .sh => true
  | _ => false
theorem Rp.rv {S : List Addr} {t : Ty} {d : D} {v : V} {f : List Addr} (ft : flatT t = true) (r : Rp K mg H (hide S H) t d v f) : Rv K mg S H d v := by
  cases r with
  | sh q => exact .rf q
  | @oL t' a vs ds f e q =>
    cases t' <;> simp [flatT] at ft
    exact .lst e q.to_sh.1
  | @oK t' a kvs kds f e n q =>
    cases t' <;> simp [flatT] at ft
    have hl : kds.length = (kds.map (·.2)).length := by simp
    exact .dK e n q.to_sh.1
  | @oT t' a kvs kds f e n q =>
    cases t' <;> simp [flatT] at ft
    exact .dT e n q.to_sh.1
  | oO => simp [flatT] at ft
/-- what a handle is -/
def RH (K : PySem.W.Frag) (mg : Str → Option Value) (S : List Addr) (τ : List Ty) (σ : L2.St) (H : Hp) (h : Hd) (v : V) : Prop := match h with
  | .v d => Rf K mg (hide S H) d v
  | .x i => σ[i]? = some (some v) ∧ ∃ t, τ[i]? = some t ∧ flatT t = true
theorem SR.get (s : SR K mg R τ ρ σ H fs) {i : Nat} {t : Ty} (e : τ[i]? = some t) (n : t ≠ .no) : ∃ v f, σ[i]? = some (some v) ∧ Rp K mg H (hide (R ++ fs) H) t (ρ.getD i .non) v f ∧ ∀ a ∈ f, a ∈ fs := by
  obtain ⟨f1, fo, f2, ef, ho, _⟩ := s.sl.split e
  rcases ho with ⟨rfl, _⟩ | ⟨v, ev, q⟩
  · exact absurd rfl n
  · exact ⟨v, fo, ev, q, fun a ha => by rw [ef]; simp [ha]⟩
theorem SR.res (s : SR K mg R τ ρ σ H fs) {h : Hd} {v : V} (r : RH K mg (R ++ fs) τ σ H h v) : Rv K mg (R ++ fs) H (h.res ρ) v := by
  cases h with
  | v d => exact .rf r
  | x i =>
    obtain ⟨ev, t, et, ft⟩ := r
    obtain ⟨v', f, ev', q, _⟩ := s.get et (by intro z; rw [z] at ft; cases ft)
    rw [ev] at ev'; cases ev'
    exact q.rv ft
theorem SR.holdH (s : SR K mg R τ ρ σ H fs) (t : Step H H' fs fs') {h : Hd} {v : V} (r : RH K mg (R ++ fs) τ σ H h v) : RH K mg (R ++ fs') τ σ H' h v := by
  cases h with
  | v d => exact Rf.mono (s.le t) r
  | x i => exact r
inductive RHs (K : PySem.W.Frag) (mg : Str → Option Value) (S : List Addr) (τ : List Ty) (σ : L2.St) (H : Hp) : List Hd → List V → Prop
  | nil : RHs K mg S τ σ H [] []
  | cons {h : Hd} {v : V} {hs : List Hd} {vs : List V} : RH K mg S τ σ H h v → RHs K mg S τ σ H hs vs → RHs K mg S τ σ H (h :: hs) (v :: vs)
theorem RHs.vals : ∀ {hs : List Hd} {vs : List V} {S : List Addr} {ds : List D}, RHs K mg S τ σ H hs vs → hs = ds.map .v → Rfs K mg (hide S H) ds vs
  | _, _, _, [], .nil, _ => .nil
  | _, _, _, d :: ds, .nil, e => by simp at e
  | _, _, _, [], .cons _ _, e => by simp at e
  | _, _, _, d :: ds, .cons h r, e => by
    simp at e
    obtain ⟨rfl, e⟩ := e
    exact .cons h (RHs.vals r e)
end

/-! ### the judgements -/
def tD (X : Cx) (τ : List Ty) (f : Ef) : TE := fun σ H Q => ∃ R ρ fs h ρ', SR X.K X.mg R τ ρ σ H fs ∧ f ρ = some (h, ρ') ∧
  ∀ v H' fs', Step H H' fs fs' → SR X.K X.mg R τ ρ' σ H' fs' → RH X.K X.mg (R ++ fs') τ σ H' h v → Q v H'
def tO (X : Cx) (τ : List Ty) (f : Of) (t : Ty) : TE := fun σ H Q => ∃ R ρ fs d ρ', SR X.K X.mg R τ ρ σ H fs ∧ f ρ = some (d, ρ') ∧
  ∀ v H' fs' fv, Step H H' fs (fv ++ fs') → SR X.K X.mg (fv ++ R) τ ρ' σ H' fs' → Rp X.K X.mg H' (hide (fv ++ R ++ fs') H') t d v fv → Q v H'
def tT (X : Cx) (τ : List Ty) (f : Tf) : TT := fun σ H Q => ∃ R ρ fs b ρ', SR X.K X.mg R τ ρ σ H fs ∧ f ρ = some (b, ρ') ∧
  ∀ H' fs', Step H H' fs fs' → SR X.K X.mg R τ ρ' σ H' fs' → Q b H'
def tA (X : Cx) (τ : List Ty) (f : Af) : TA := fun σ H Q => ∃ R ρ fs hs ρ', SR X.K X.mg R τ ρ σ H fs ∧ f ρ = some (hs, ρ') ∧
  ∀ vs H' fs', Step H H' fs fs' → SR X.K X.mg R τ ρ' σ H' fs' → RHs X.K X.mg (R ++ fs') τ σ H' hs vs → Q vs H'
abbrev DE (X : Cx) (e : Expr) (τ : List Ty) (f : Ef) : Prop := PE X e (tD X τ f)
abbrev DO (X : Cx) (e : Expr) (τ : List Ty) (f : Of) (t : Ty) : Prop := PE X e (tO X τ f t)
abbrev DT (X : Cx) (e : Expr) (τ : List Ty) (f : Tf) : Prop := PT X e (tT X τ f)
abbrev DA (X : Cx) (es : List Expr) (τ : List Ty) (f : Af) : Prop := PA X es (tA X τ f)

theorem pe_imp {X : Cx} {e : Expr} {t t' : TE} (h : PE X e t) (k : ∀ σ H Q, t' σ H Q → t σ H Q) : PE X e t' := ⟨fun pins s σ H Q I q => h.run pins s σ H Q I (k σ H Q q)⟩
theorem pt_imp {X : Cx} {e : Expr} {t t' : TT} (h : PT X e t) (k : ∀ σ H Q, t' σ H Q → t σ H Q) : PT X e t' := ⟨fun pins s σ H Q I q => h.run pins s σ H Q I (k σ H Q q)⟩
theorem pw_imp {X : Cx} {e : Expr} {t t' : TT} (h : PW X e t) (k : ∀ σ H Q, t' σ H Q → t σ H Q) : PW X e t' := ⟨fun wh pins s σ H Q I q => h.run wh pins s σ H Q I (k σ H Q q)⟩
theorem pa_imp {X : Cx} {es : List Expr} {t t' : TA} (h : PA X es t) (k : ∀ σ H Q, t' σ H Q → t σ H Q) : PA X es t' := ⟨fun pos pins s σ H Q I q => h.run pos pins s σ H Q I (k σ H Q q)⟩

/-! ### names, constants -/
def eC (d : D) : Ef := fun ρ => some (.v d, ρ)
def eVar (i : Nat) : Ef := fun ρ => some (.v (ρ.getD i .non), ρ)
def eOwn (i : Nat) : Ef := fun ρ => some (.x i, ρ)
section
variable {X : Cx} {τ : List Ty} {a b c : Expr} {pos : Pos}
theorem de_C {e : Expr} {d : D} {v : V} (h : PE X e (tC v)) (r : ∀ G, Rf X.K X.mg G d v) : DE X e τ (eC d) := pe_imp h fun σ H Q ⟨R, ρ, fs, h, ρ', s, e, q⟩ => by
  cases e
  exact q v H fs (Step.refl H fs) s (r _)
theorem de_int {i j} : DE X (.Constant (.int i) j pos) τ (eC (.int i)) := de_C pe_int fun _ => .int _
theorem de_bl {i j} : DE X (.Constant (.bool i) j pos) τ (eC (.bl i)) := de_C pe_bl fun _ => .bl _
theorem de_non {j} : DE X (.Constant .none j pos) τ (eC .non) := de_C pe_non fun _ => .non
theorem de_str {i j} : DE X (.Constant (.str i) j pos) τ (eC (.str i)) := de_C pe_str fun _ => .str _
theorem de_var {e : Expr} (i : Nat) (h : PE X e (tVar i)) (ht : τ[i]? = some .sh := by rfl) : DE X e τ (eVar i) := pe_imp h fun σ H Q ⟨R, ρ, fs, h, ρ', s, e, q⟩ => by
  cases e
  obtain ⟨v, f, ev, r, _⟩ := s.get ht (by intro z; cases z)
  cases r with
  | sh r => exact ⟨v, ev, q v H fs (Step.refl H fs) s r⟩
theorem de_own {e : Expr} (i : Nat) {t : Ty} (h : PE X e (tVar i)) (ht : τ[i]? = some t := by rfl) (hf : flatT t = true := by rfl) : DE X e τ (eOwn i) := pe_imp h fun σ H Q ⟨R, ρ, fs, h, ρ', s, e, q⟩ => by
  cases e
  obtain ⟨v, f, ev, r, _⟩ := s.get ht (by intro z; rw [z] at hf; cases hf)
  exact ⟨v, ev, q v H fs (Step.refl H fs) s ⟨ev, t, ht, hf⟩⟩

/-! ### operators by values -/
/-- a rule r of HandS does what g says on trees; the result is frozen -/
def OpD (X : Cx) (r : R2) (g : D → D → Option D) : Prop := ∀ (S : List Addr) (H : Hp) (d1 d2 d : D) (v1 v2 : V) (Q : VK), (∀ a ∈ S, ∃ o, H a = some o ∧ Own o) → Rv X.K X.mg S H d1 v1 → Rv X.K X.mg S H d2 v2 → g d1 d2 = some d →
  (∀ v H', Grow H H' → Rf X.K X.mg (hide S H') d v → Q v H') → r v1 v2 H Q
/-- .. the result is a new list -/
def OpO (X : Cx) (r : R2) (g : D → D → Option (List D)) : Prop := ∀ (S : List Addr) (H : Hp) (d1 d2 : D) (ds : List D) (v1 v2 : V) (Q : VK), (∀ a ∈ S, ∃ o, H a = some o ∧ Own o) → Rv X.K X.mg S H d1 v1 → Rv X.K X.mg S H d2 v2 → g d1 d2 = some ds →
  (∀ p vs, H p = none → Rfs X.K X.mg (hide S H) ds vs → Q (.ref p) (upd H p (.lst vs))) → r v1 v2 H Q
def orG {α β γ : Type} (g g' : α → β → Option γ) : α → β → Option γ := fun a b => (g a b).or (g' a b)
theorem OpD.or {r r' : R2} {g g' : D → D → Option D} (h : OpD X r g) (h' : OpD X r' g') : OpD X (fun x y H Q => r x y H Q ∨ r' x y H Q) (orG g g') := fun S H d1 d2 d v1 v2 Q al r1 r2 e q => by
  unfold orG at e
  cases e1 : g d1 d2 with
  | some z =>
    rw [e1] at e
    exact .inl (h S H d1 d2 d v1 v2 Q al r1 r2 (by rw [e1]; exact e) q)
  | none =>
    rw [e1] at e
    exact .inr (h' S H d1 d2 d v1 v2 Q al r1 r2 (by simpa using e) q)
def eBin (g : D → D → Option D) (f1 f2 : Ef) : Ef := fun ρ => (f1 ρ).bind fun p => (f2 p.2).bind fun q => (g (p.1.res q.2) (q.1.res q.2)).bind fun d => some (.v d, q.2)
def eBinO (g : D → D → Option (List D)) (f1 f2 : Ef) : Of := fun ρ => (f1 ρ).bind fun p => (f2 p.2).bind fun q => (g (p.1.res q.2) (q.1.res q.2)).bind fun d => some (.lst d, q.2)
/-- two operands, one after the other -/
theorem two {f1 f2 : Ef} {R : List Addr} {ρ : Rho} {σ : L2.St} {H : Hp} {fs : List Addr} {p q : Hd × Rho} {k : V → V → Hp → Prop} (s : SR X.K X.mg R τ ρ σ H fs) (e1 : f1 ρ = some p) (e2 : f2 p.2 = some q)
    (h : ∀ v1 v2 H' fs', Step H H' fs fs' → SR X.K X.mg R τ q.2 σ H' fs' → RH X.K X.mg (R ++ fs') τ σ H' p.1 v1 → RH X.K X.mg (R ++ fs') τ σ H' q.1 v2 → k v1 v2 H') :
    tD X τ f1 σ H fun x H1 => tD X τ f2 σ H1 fun y H2 => k x y H2 :=
  ⟨R, ρ, fs, p.1, p.2, s, e1, fun v1 H1 fs1 t1 s1 r1 => ⟨R, p.2, fs1, q.1, q.2, s1, e2, fun v2 H2 fs2 t2 s2 r2 => h v1 v2 H2 fs2 (t1.trans t2) s2 (s1.holdH t2 r1) r2⟩⟩
theorem eBin_inv {g : D → D → Option D} {f1 f2 : Ef} {ρ : Rho} {r : Hd × Rho} (e : eBin g f1 f2 ρ = some r) : ∃ p q d, f1 ρ = some p ∧ f2 p.2 = some q ∧ g (p.1.res q.2) (q.1.res q.2) = some d ∧ r = (.v d, q.2) := by
  unfold eBin at e
  cases h1 : f1 ρ with
  | none => rw [h1] at e; cases e
  | some p =>
    rw [h1] at e
    cases h2 : f2 p.2 with
    | none => simp [h2] at e
    | some q =>
      simp only [Option.bind_some, h2] at e
      cases h3 : g (p.1.res q.2) (q.1.res q.2) with
      | none => simp [h3] at e
      | some d =>
        simp only [h3, Option.bind_some, Option.some.injEq] at e
        exact ⟨p, q, d, rfl, h2, h3, e.symm⟩
theorem eBinO_inv {g : D → D → Option (List D)} {f1 f2 : Ef} {ρ : Rho} {r : D × Rho} (e : eBinO g f1 f2 ρ = some r) : ∃ p q d, f1 ρ = some p ∧ f2 p.2 = some q ∧ g (p.1.res q.2) (q.1.res q.2) = some d ∧ r = (.lst d, q.2) := by
  unfold eBinO at e
  cases h1 : f1 ρ with
  | none => rw [h1] at e; cases e
  | some p =>
    rw [h1] at e
    cases h2 : f2 p.2 with
    | none => simp [h2] at e
    | some q =>
      simp only [Option.bind_some, h2] at e
      cases h3 : g (p.1.res q.2) (q.1.res q.2) with
      | none => simp [h3] at e
      | some d =>
        simp only [h3, Option.bind_some, Option.some.injEq] at e
        exact ⟨p, q, d, rfl, h2, h3, e.symm⟩
/-- the reading of a two-place operation -/
theorem tOp_of {r : R2} {g : D → D → Option D} {f1 f2 : Ef} (o : OpD X r g) : ∀ σ H Q, tD X τ (eBin g f1 f2) σ H Q → tOp r (tD X τ f1) (tD X τ f2) σ H Q := fun σ H Q ⟨R, ρ, fs, h, ρ', s, e, k⟩ => by
  obtain ⟨p, q, d, e1, e2, e3, er⟩ := eBin_inv e
  cases er
  refine two s e1 e2 fun v1 v2 H' fs' t s' r1 r2 => ?_
  refine o (R ++ fs') H' _ _ _ v1 v2 Q s'.own (s'.res r1) (s'.res r2) e3 fun v H2 g2 rf => ?_
  exact k v H2 fs' (t.trans (Step.grow g2 _)) (s'.grow g2) rf
theorem de_bin {op : Operator} {r : R2} {g : D → D → Option D} {f1 f2 : Ef} (ho : OpR X (binaryOp op) r) (o : OpD X r g) (ha : DE X a τ f1) (hb : DE X b τ f2) : DE X (.BinOp a op b pos) τ (eBin g f1 f2) := pe_imp (pe_op ho ha hb) (tOp_of o)
theorem de_cmp {op : CmpOp} {r : R2} {g : D → D → Option D} {f1 f2 : Ef} (ho : OpR X (compareOp op) r) (o : OpD X r g) (ha : DE X a τ f1) (hb : DE X b τ f2) (hm : behindInMarks op b = false) : DE X (.Compare a [op] [b] pos) τ (eBin g f1 f2) := pe_imp (pe_cmpR ho ha hb hm) (tOp_of o)
theorem de_ix {r : R2} {g : D → D → Option D} {f1 f2 : Ef} (hr : IxR X r) (o : OpD X r g) (ha : DE X a τ f1) (hb : DE X b τ f2) (hs : PlainIx b) : DE X (.Subscript a b pos) τ (eBin g f1 f2) := pe_imp (pe_ix hr ha hb hs) (tOp_of o)
theorem hide_upd {S : List Addr} {H : Hp} {p : Addr} {o : HO} (h : H p = none) : Le (hide S H) (hide (p :: S) (upd H p o)) := hide_mono fun a u n e => by
  have ne : a ≠ p := ne_of_none e h
  exact ⟨by simp [ne, n], by rw [upd_ne ne]; exact e⟩
theorem hide_upd' {S S' : List Addr} {H : Hp} {p : Addr} {o : HO} (h : H p = none) (k : ∀ a, a ∈ S' → a = p ∨ a ∈ S) : Le (hide S H) (hide S' (upd H p o)) := hide_mono fun a u n e => by
  have ne : a ≠ p := ne_of_none e h
  exact ⟨fun z => (k a z).elim ne n, by rw [upd_ne ne]; exact e⟩
/-- a new list at p: owned by the value -/
theorem SR.newL {R : List Addr} {ρ : Rho} {σ : L2.St} {H : Hp} {fs : List Addr} {p : Addr} {vs : List V} {ds : List D} (s : SR X.K X.mg R τ ρ σ H fs) (hp : H p = none) (r : Rfs X.K X.mg (hide (R ++ fs) H) ds vs) :
    SR X.K X.mg ([p] ++ R) τ ρ σ (upd H p (.lst vs)) fs ∧ Rp X.K X.mg (upd H p (.lst vs)) (hide ([p] ++ R ++ fs) (upd H p (.lst vs))) (.oL .sh) (.lst ds) (.ref p) [p] ∧ Step H (upd H p (.lst vs)) fs ([p] ++ fs) := by
  have hf := s.fresh hp
  have le : Le (hide (R ++ fs) H) (hide ([p] ++ R ++ fs) (upd H p (.lst vs))) := hide_upd' hp fun a z => by simpa using z
  have np : ∀ a ∈ R ++ fs, a ≠ p := fun a ha e => hf (e ▸ ha)
  refine ⟨⟨s.sl.mono le fun a ha => upd_ne (np a (List.mem_append_right _ ha)), ?_, fun a ha => ?_⟩, ?_, ⟨fun a o _ e => ?_, fun a ha => ?_, fun a o e => ?_⟩⟩
  · have := s.nd
    simpa [hf] using this
  · rcases List.mem_append.mp ha with ha | ha
    · have e : a = p := by simpa using ha
      exact ⟨.lst vs, by rw [e, upd_same], trivial⟩
    · obtain ⟨o, e, w⟩ := s.al a ha
      exact ⟨o, by rw [upd_ne (np a (List.mem_append_left _ ha))]; exact e, w⟩
  · exact Rp.oL upd_same (Rps.of_sh (r.mono le))
  · rw [upd_ne (ne_of_none e hp)]; exact e
  · rcases List.mem_append.mp ha with ha | ha
    · have e : a = p := by simpa using ha
      exact .inr (e ▸ hp)
    · exact .inl ha
  · exact ⟨o, by rw [upd_ne (ne_of_none e hp)]; exact e⟩
theorem tOpO_of {r : R2} {g : D → D → Option (List D)} {f1 f2 : Ef} (o : OpO X r g) : ∀ σ H Q, tO X τ (eBinO g f1 f2) (.oL .sh) σ H Q → tOp r (tD X τ f1) (tD X τ f2) σ H Q := fun σ H Q ⟨R, ρ, fs, h, ρ', s, e, k⟩ => by
  obtain ⟨p, q, d, e1, e2, e3, er⟩ := eBinO_inv e
  cases er
  refine two s e1 e2 fun v1 v2 H' fs' t s' r1 r2 => ?_
  refine o (R ++ fs') H' _ _ _ v1 v2 Q s'.own (s'.res r1) (s'.res r2) e3 fun a vs ha rf => ?_
  obtain ⟨n1, n2, n3⟩ := s'.newL ha rf
  exact k _ _ fs' [a] (t.trans n3) n1 n2
theorem do_bin {op : Operator} {r : R2} {g : D → D → Option (List D)} {f1 f2 : Ef} (ho : OpR X (binaryOp op) r) (o : OpO X r g) (ha : DE X a τ f1) (hb : DE X b τ f2) : DO X (.BinOp a op b pos) τ (eBinO g f1 f2) (.oL .sh) := pe_imp (pe_op ho ha hb) (tOpO_of o)

/-! ### an owned result given away -/
def eF (f : Of) : Ef := fun ρ => (f ρ).bind fun p => some (.v p.1, p.2)
theorem SR.drop {K : PySem.W.Frag} {mg : Str → Option Value} {fv R : List Addr} {ρ : Rho} {σ : L2.St} {H : Hp} {fs : List Addr} (s : SR K mg (fv ++ R) τ ρ σ H fs) : SR K mg R τ ρ σ H fs := by
  refine ⟨s.sl.mono (hide_mono fun a o n e => ⟨fun z => n ?_, e⟩) fun _ _ => rfl, ?_, fun a ha => s.al a (List.mem_append_right _ ha)⟩
  · rw [List.append_assoc]; exact List.mem_append_right _ z
  · have := s.nd
    rw [List.append_assoc] at this
    exact (List.nodup_append.mp this).2.1
theorem Rp.give {K : PySem.W.Frag} {mg : Str → Option Value} {fv R : List Addr} {ρ : Rho} {σ : L2.St} {H : Hp} {fs : List Addr} {t : Ty} {d : D} {v : V} (s : SR K mg (fv ++ R) τ ρ σ H fs) (r : Rp K mg H (hide (fv ++ R ++ fs) H) t d v fv) : Rf K mg (hide (R ++ fs) H) d v := by
  refine r.frz (hide_mono fun a o n e => ⟨fun z => n ?_, e⟩) fun a ha o e => hide_some.mpr ⟨fun z => ?_, e⟩
  · rw [List.append_assoc]; exact List.mem_append_right _ z
  · have := s.nd
    rw [List.append_assoc] at this
    exact (List.nodup_append.mp this).2.2 a ha a z rfl
theorem de_F {e : Expr} {f : Of} {t : Ty} (h : DO X e τ f t) : DE X e τ (eF f) := pe_imp h fun σ H Q ⟨R, ρ, fs, hd, ρ', s, e, k⟩ => by
  unfold eF at e
  cases h1 : f ρ with
  | none => rw [h1] at e; cases e
  | some p =>
    rw [h1] at e
    cases e
    exact ⟨R, ρ, fs, p.1, p.2, s, h1, fun v H' fs' fv t s' r => k v H' fs' (t.less fun a ha => List.mem_append_right _ ha) s'.drop (r.give s')⟩
end
end TL

namespace TL
open PySem PySem.Spec PyProof.Rows L2

def okLen (n : Nat) : Bool := Nat.ble n 16777216
theorem okLen_le {n : Nat} (h : okLen n = true) : n ≤ sizeLine := Nat.le_of_ble_eq_true h

section
variable {K : PySem.W.Frag} {mg : Str → Option Value} {S : List Addr} {H : Hp}
/-! ### what a seen tree is -/
theorem Rv.int_inv {i : Int} {v : V} (r : Rv K mg S H (.int i) v) : v = .int i := by
  cases r with
  | rf r => cases r; rfl
theorem Rv.bl_inv {i : Bool} {v : V} (r : Rv K mg S H (.bl i) v) : v = .bl i := by
  cases r with
  | rf r => cases r; rfl
theorem Rv.non_inv {v : V} (r : Rv K mg S H .non v) : v = .non := by
  cases r with
  | rf r => cases r; rfl
theorem Rv.str_inv {i : Str} {v : V} (r : Rv K mg S H (.str i) v) : v = .str i := by
  cases r with
  | rf r => cases r; rfl
theorem Rv.lst_inv {ds : List D} {v : V} (r : Rv K mg S H (.lst ds) v) : ∃ a vs, v = .ref a ∧ H a = some (.lst vs) ∧ Rfs K mg (hide S H) ds vs := by
  cases r with
  | rf r =>
    cases r with
    | lst h r => exact ⟨_, _, rfl, hide_le _ _ _ _ h, r⟩
  | lst h r => exact ⟨_, _, rfl, h, r⟩
theorem Rv.tup_inv {ds : List D} {v : V} (r : Rv K mg S H (.tup ds) v) : ∃ a vs, v = .ref a ∧ SqT K H a vs ∧ SqT K (hide S H) a vs ∧ Rfs K mg (hide S H) ds vs := by
  cases r with
  | rf r =>
    cases r with
    | tup h r => exact ⟨_, _, rfl, (hide_le _ _).seqT h, h, r⟩
theorem ifSome' {α : Type} {c : Bool} {x r : α} (e : (if c then some x else none) = some r) : c = true ∧ x = r := by
  cases c with
  | true => exact ⟨rfl, by simpa using e⟩
  | false => cases e
def truthD : D → Option Bool
  | .non => some false
  | .bl b => some b
  | .int i => some (i != 0)
  | .str s => if okLen s.length then some ((s.length : Int) != 0) else none
  | .tup l => some (!l.isEmpty)
  | .lst l => some (!l.isEmpty)
  | _ => none
theorem Rfs.isEmpty {G : Hp} {ds : List D} {vs : List V} (r : Rfs K mg G ds vs) : ds.isEmpty = vs.isEmpty := by
  cases r <;> rfl
theorem Rv.tru {d : D} {v : V} {k : Bool} (r : Rv K mg S H d v) (e : truthD d = some k) : TruV K v H k := by
  cases d with
  | non => rw [r.non_inv]; cases e; rfl
  | bl b => rw [r.bl_inv]; cases e; rfl
  | int i => rw [r.int_inv]; cases e; rfl
  | str s =>
    rw [r.str_inv]
    obtain ⟨h, e⟩ := ifSome' e
    subst e
    exact ⟨okLen_le h, rfl⟩
  | tup l =>
    obtain ⟨a, vs, rfl, h, _, q⟩ := r.tup_inv
    cases e
    exact .inr (.inl ⟨vs, h, by rw [q.isEmpty]⟩)
  | lst l =>
    obtain ⟨a, vs, rfl, h, q⟩ := r.lst_inv
    cases e
    exact .inl ⟨vs, .of h, by rw [q.isEmpty]⟩
  | dct l => cases e
  | set l => cases e
  | obj c l => cases e
  | scr l => cases e
end

section
variable {X : Cx} {τ : List Ty} {a b c e : Expr} {es : List Expr} {pos : Pos}
/-! ### tests -/
def tB (f : Ef) : Tf := fun ρ => (f ρ).bind fun p => (truthD (p.1.res p.2)).bind fun k => some (k, p.2)
theorem tB_inv {f : Ef} {ρ : Rho} {r : Bool × Rho} (e : tB f ρ = some r) : ∃ p k, f ρ = some p ∧ truthD (p.1.res p.2) = some k ∧ r = (k, p.2) := by
  unfold tB at e
  cases h1 : f ρ with
  | none => rw [h1] at e; cases e
  | some p =>
    rw [h1] at e
    simp only [Option.bind_some] at e
    cases h2 : truthD (p.1.res p.2) with
    | none => rw [h2] at e; cases e
    | some k => rw [h2] at e; cases e; exact ⟨p, k, rfl, h2, rfl⟩
theorem dt_truth {f : Ef} (h : DE X e τ f) (he : ∀ whole, isTrue e X.env whole = (do let v ← whole; standAt e.pos; holding [v] (truthy v)) := by intro _; rfl) : DT X e τ (tB f) := pt_imp (pt_truth h he) fun σ H Q ⟨R, ρ, fs, b, ρ', s, e, k⟩ => by
  obtain ⟨p, kk, e1, e2, er⟩ := tB_inv e
  cases er
  exact ⟨R, ρ, fs, p.1, p.2, s, e1, fun v H' fs' t s' r => ⟨_, (s'.res r).tru e2, k H' fs' t s'⟩⟩
/-- a comparison as a test -/
def tBl (f : Ef) : Tf := fun ρ => (f ρ).bind fun p => match p.1 with
  | .v (.bl k) => some (k, p.2)
  | _ => none
theorem tBl_inv {f : Ef} {ρ : Rho} {r : Bool × Rho} (e : tBl f ρ = some r) : ∃ k ρ', f ρ = some (.v (.bl k), ρ') ∧ r = (k, ρ') := by
  unfold tBl at e
  cases h1 : f ρ with
  | none => rw [h1] at e; cases e
  | some p =>
    rw [h1] at e
    obtain ⟨p1, p2⟩ := p
    cases p1 with
    | x i => cases e
    | v d => cases d <;> first | (cases e; done) | (cases e; exact ⟨_, _, rfl, rfl⟩)
theorem tTest_of {t : TE} {f : Ef} (h : ∀ σ H Q, tD X τ f σ H Q → t σ H Q) : ∀ σ H Q, tT X τ (tBl f) σ H Q → tTest t σ H Q := fun σ H Q ⟨R, ρ, fs, b, ρ', s, e, k⟩ => by
  obtain ⟨k1, ρ1, e1, er⟩ := tBl_inv e
  cases er
  refine h σ H _ ⟨R, ρ, fs, _, _, s, e1, fun v H' fs' t s' r => ?_⟩
  cases r
  exact ⟨_, rfl, k H' fs' t s'⟩
theorem dt_cmp {op : CmpOp} {r : R2} {g : D → D → Option D} {f1 f2 : Ef} (ho : OpR X (compareOp op) r) (o : OpD X r g) (ha : DE X a τ f1) (hb : DE X b τ f2) (hm : behindInMarks op b = false) : DT X (.Compare a [op] [b] pos) τ (tBl (eBin g f1 f2)) :=
  pt_imp (pt_cmpR ho ha hb hm) (tTest_of (tOp_of o))
/-! a op1 b op2 c -/
def eChain (g g' : D → D → Option D) (f1 f2 f3 : Ef) : Ef := fun ρ => (f1 ρ).bind fun p => (f2 p.2).bind fun q => (g (p.1.res q.2) (q.1.res q.2)).bind fun d => match d with
  | .bl true => (f3 q.2).bind fun r => (g' (q.1.res r.2) (r.1.res r.2)).bind fun d' => some (.v d', r.2)
  | .bl false => some (.v (.bl false), q.2)
  | _ => none
theorem tChain_of {r r' : R2} {g g' : D → D → Option D} {f1 f2 f3 : Ef} (o : OpD X r g) (o' : OpD X r' g') : ∀ σ H Q, tD X τ (eChain g g' f1 f2 f3) σ H Q → tChain r r' (tD X τ f1) (tD X τ f2) (tD X τ f3) σ H Q := fun σ H Q ⟨R, ρ, fs, h, ρ', s, e, k⟩ => by
  unfold eChain at e
  cases h1 : f1 ρ with
  | none => rw [h1] at e; cases e
  | some p =>
    rw [h1] at e
    simp only [Option.bind_some] at e
    cases h2 : f2 p.2 with
    | none => rw [h2] at e; cases e
    | some q =>
      rw [h2] at e
      simp only [Option.bind_some] at e
      cases h3 : g (p.1.res q.2) (q.1.res q.2) with
      | none => rw [h3] at e; cases e
      | some d =>
        rw [h3] at e
        simp only [Option.bind_some] at e
        refine two s h1 h2 fun v1 v2 H' fs' t s' r1 r2 => ?_
        refine o (R ++ fs') H' _ _ _ v1 v2 _ s'.own (s'.res r1) (s'.res r2) h3 fun v H2 g2 rf => ?_
        cases d with
        | bl kk =>
          cases rf
          cases kk with
          | false =>
            cases e
            exact ⟨false, rfl, iteF (k _ H2 fs' (t.trans (Step.grow g2 _)) (s'.grow g2) (.bl _))⟩
          | true =>
            simp only at e
            cases h4 : f3 q.2 with
            | none => rw [h4] at e; cases e
            | some w =>
              rw [h4] at e
              simp only [Option.bind_some] at e
              cases h5 : g' (q.1.res w.2) (w.1.res w.2) with
              | none => rw [h5] at e; cases e
              | some d' =>
                rw [h5] at e
                cases e
                refine ⟨true, rfl, iteT ⟨R, q.2, fs', w.1, w.2, s'.grow g2, h4, fun v3 H3 fs3 t3 s3 r3 => ?_⟩⟩
                have r2' := s3.res ((s'.grow g2).holdH t3 (s'.holdH (Step.grow g2 fs') r2))
                refine o' (R ++ fs3) H3 _ _ _ v2 v3 Q s3.own r2' (s3.res r3) h5 fun v4 H4 g4 rf4 => ?_
                exact k v4 H4 fs3 ((t.trans (Step.grow g2 _)).trans (t3.trans (Step.grow g4 _))) (s3.grow g4) rf4
        | _ => cases e
theorem de_chain {op op' : CmpOp} {r r' : R2} {g g' : D → D → Option D} {f1 f2 f3 : Ef} (ho : OpR X (compareOp op) r) (o : OpD X r g) (ho' : OpR X (compareOp op') r') (o' : OpD X r' g') (ha : DE X a τ f1) (hb : DE X b τ f2) (hc : DE X c τ f3)
    (hm : lastMarks [op, op'] [b, c] = false := by with_unfolding_all rfl) : DE X (.Compare a [op, op'] [b, c] pos) τ (eChain g g' f1 f2 f3) := pe_imp (pe_chain ho ho' ha hb hc hm) (tChain_of o o')
theorem dt_chain {op op' : CmpOp} {r r' : R2} {g g' : D → D → Option D} {f1 f2 f3 : Ef} (ho : OpR X (compareOp op) r) (o : OpD X r g) (ho' : OpR X (compareOp op') r') (o' : OpD X r' g') (ha : DE X a τ f1) (hb : DE X b τ f2) (hc : DE X c τ f3)
    (hm : lastMarks [op, op'] [b, c] = false := by with_unfolding_all rfl) : DT X (.Compare a [op, op'] [b, c] pos) τ (tBl (eChain g g' f1 f2 f3)) := pt_imp (pt_chain ho ho' ha hb hc hm) (tTest_of (tChain_of o o'))

/-! ### and, or, not as tests -/
def tAnd' (f g : Tf) : Tf := fun ρ => (f ρ).bind fun p => if p.1 then g p.2 else some (false, p.2)
def tOr' (f g : Tf) : Tf := fun ρ => (f ρ).bind fun p => if p.1 then some (true, p.2) else g p.2
def tNot' (f : Tf) : Tf := fun ρ => (f ρ).bind fun p => some (!p.1, p.2)
abbrev DW (X : Cx) (e : Expr) (τ : List Ty) (f : Tf) : Prop := PW X e (tT X τ f)
theorem dw_and1 {f : Tf} (h : DT X a τ f) : DW X (.BoolOp .And [a] pos) τ f := pw_and1 h
theorem dw_or1 {f : Tf} (h : DT X a τ f) : DW X (.BoolOp .Or [a] pos) τ f := pw_or1 h
theorem bindT {f : Tf} {ρ : Rho} {β : Type} {k : Bool × Rho → Option β} {r : β} (e : (f ρ).bind k = some r) : ∃ p, f ρ = some p ∧ k p = some r := by
  cases h : f ρ with
  | none => rw [h] at e; cases e
  | some p => rw [h] at e; exact ⟨p, rfl, e⟩
theorem bindO {α β : Type} {x : Option α} {k : α → Option β} {r : β} (e : x.bind k = some r) : ∃ p, x = some p ∧ k p = some r := by
  cases h : x with
  | none => rw [h] at e; cases e
  | some p => rw [h] at e; exact ⟨p, rfl, e⟩
theorem dw_and {f g : Tf} {rest : List Expr} (ha : DT X a τ f) (hb : DW X (.BoolOp .And (b :: rest) pos) τ g) : DW X (.BoolOp .And (a :: b :: rest) pos) τ (tAnd' f g) := pw_imp (pw_and ha hb) fun σ H Q ⟨R, ρ, fs, k, ρ', s, e, q⟩ => by
  obtain ⟨p, e1, e2⟩ := bindO e
  refine ⟨R, ρ, fs, p.1, p.2, s, e1, fun H' fs' t s' => ?_⟩
  cases hp : p.1 with
  | true =>
    rw [hp] at e2
    exact iteT ⟨R, p.2, fs', k, ρ', s', e2, fun H2 fs2 t2 s2 => q H2 fs2 (t.trans t2) s2⟩
  | false =>
    rw [hp] at e2
    cases e2
    exact iteF (q H' fs' t s')
theorem dw_or {f g : Tf} {rest : List Expr} (ha : DT X a τ f) (hb : DW X (.BoolOp .Or (b :: rest) pos) τ g) : DW X (.BoolOp .Or (a :: b :: rest) pos) τ (tOr' f g) := pw_imp (pw_or ha hb) fun σ H Q ⟨R, ρ, fs, k, ρ', s, e, q⟩ => by
  obtain ⟨p, e1, e2⟩ := bindO e
  refine ⟨R, ρ, fs, p.1, p.2, s, e1, fun H' fs' t s' => ?_⟩
  cases hp : p.1 with
  | false =>
    rw [hp] at e2
    exact iteF ⟨R, p.2, fs', k, ρ', s', e2, fun H2 fs2 t2 s2 => q H2 fs2 (t.trans t2) s2⟩
  | true =>
    rw [hp] at e2
    cases e2
    exact iteT (q H' fs' t s')
theorem dt_w {f : Tf} (h : DW X e τ f) : DT X e τ f := h.pt
theorem dt_not {f : Tf} (h : DT X a τ f) : DT X (.UnaryOp .Not a pos) τ (tNot' f) := pt_imp (pt_not h) fun σ H Q ⟨R, ρ, fs, k, ρ', s, e, q⟩ => by
  obtain ⟨p, e1, e2⟩ := bindO e
  cases e2
  exact ⟨R, ρ, fs, p.1, p.2, s, e1, fun H' fs' t s' => q H' fs' t s'⟩
/-! ### and, or, not, if as values -/
def eAnd (f g : Ef) : Ef := fun ρ => (f ρ).bind fun p => (truthD (p.1.res p.2)).bind fun k => if k then g p.2 else some p
def eOr (f g : Ef) : Ef := fun ρ => (f ρ).bind fun p => (truthD (p.1.res p.2)).bind fun k => if k then some p else g p.2
def eNot (f : Ef) : Ef := fun ρ => (f ρ).bind fun p => (truthD (p.1.res p.2)).bind fun k => some (.v (.bl (!k)), p.2)
def eIf (t : Tf) (f g : Ef) : Ef := fun ρ => (t ρ).bind fun p => if p.1 then f p.2 else g p.2
theorem de_one {op} {f : Ef} (h : DE X a τ f) : DE X (.BoolOp op [a] pos) τ f := pe_one h
theorem de_and {f g : Ef} {rest : List Expr} (ha : DE X a τ f) (hb : DE X (.BoolOp .And (b :: rest) pos) τ g) : DE X (.BoolOp .And (a :: b :: rest) pos) τ (eAnd f g) := pe_imp (pe_andT ha hb) fun σ H Q ⟨R, ρ, fs, h, ρ', s, e, q⟩ => by
  obtain ⟨p, e1, e2⟩ := bindO e
  obtain ⟨k, e3, e4⟩ := bindO e2
  refine ⟨R, ρ, fs, p.1, p.2, s, e1, fun v H' fs' t s' r => ⟨k, (s'.res r).tru e3, ?_⟩⟩
  cases k with
  | true => exact iteT ⟨R, p.2, fs', h, ρ', s', e4, fun v H2 fs2 t2 s2 r2 => q v H2 fs2 (t.trans t2) s2 r2⟩
  | false => cases e4; exact iteF (q v H' fs' t s' r)
theorem de_or {f g : Ef} {rest : List Expr} (ha : DE X a τ f) (hb : DE X (.BoolOp .Or (b :: rest) pos) τ g) : DE X (.BoolOp .Or (a :: b :: rest) pos) τ (eOr f g) := pe_imp (pe_orT ha hb) fun σ H Q ⟨R, ρ, fs, h, ρ', s, e, q⟩ => by
  obtain ⟨p, e1, e2⟩ := bindO e
  obtain ⟨k, e3, e4⟩ := bindO e2
  refine ⟨R, ρ, fs, p.1, p.2, s, e1, fun v H' fs' t s' r => ⟨k, (s'.res r).tru e3, ?_⟩⟩
  cases k with
  | false => exact iteF ⟨R, p.2, fs', h, ρ', s', e4, fun v H2 fs2 t2 s2 r2 => q v H2 fs2 (t.trans t2) s2 r2⟩
  | true => cases e4; exact iteT (q v H' fs' t s' r)
theorem de_not {f : Ef} (ha : DE X a τ f) : DE X (.UnaryOp .Not a pos) τ (eNot f) := pe_imp (pe_notT ha) fun σ H Q ⟨R, ρ, fs, h, ρ', s, e, q⟩ => by
  obtain ⟨p, e1, e2⟩ := bindO e
  obtain ⟨k, e3, e4⟩ := bindO e2
  cases e4
  exact ⟨R, ρ, fs, p.1, p.2, s, e1, fun v H' fs' t s' r => ⟨k, (s'.res r).tru e3, q _ H' fs' t s' (.bl _)⟩⟩
theorem de_if {t : Tf} {f g : Ef} (hc : DT X c τ t) (ha : DE X a τ f) (hb : DE X b τ g) : DE X (.IfExp c a b pos) τ (eIf t f g) := pe_imp (pe_ifExp hc ha hb) fun σ H Q ⟨R, ρ, fs, h, ρ', s, e, q⟩ => by
  obtain ⟨p, e1, e2⟩ := bindO e
  refine ⟨R, ρ, fs, p.1, p.2, s, e1, fun H' fs' t s' => ?_⟩
  cases hp : p.1 with
  | true => rw [hp] at e2; exact iteT ⟨R, p.2, fs', h, ρ', s', e2, fun v H2 fs2 t2 s2 r2 => q v H2 fs2 (t.trans t2) s2 r2⟩
  | false => rw [hp] at e2; exact iteF ⟨R, p.2, fs', h, ρ', s', e2, fun v H2 fs2 t2 s2 r2 => q v H2 fs2 (t.trans t2) s2 r2⟩

/-! ### argument lists: handles -/
def aNil : Af := fun ρ => some ([], ρ)
def aCons (f : Ef) (g : Af) : Af := fun ρ => (f ρ).bind fun p => (g p.2).bind fun q => some (p.1 :: q.1, q.2)
theorem SR.holdHs {K : PySem.W.Frag} {mg : Str → Option Value} {R : List Addr} {ρ : Rho} {σ : L2.St} {H H' : Hp} {fs fs' : List Addr} (s : SR K mg R τ ρ σ H fs) (t : Step H H' fs fs') : ∀ {hs : List Hd} {vs : List V}, RHs K mg (R ++ fs) τ σ H hs vs → RHs K mg (R ++ fs') τ σ H' hs vs
  | _, _, .nil => .nil
  | _, _, .cons h r => .cons (s.holdH t h) (SR.holdHs s t r)
theorem da_nil : DA X [] τ aNil := pa_imp pa_nil fun σ H Q ⟨R, ρ, fs, h, ρ', s, e, q⟩ => by
  cases e
  exact q [] H fs (Step.refl H fs) s .nil
theorem da_cons {f : Ef} {g : Af} (ha : DE X e τ f) (hr : DA X es τ g) (hs : starEach (e :: es) X.env = (false, eval e X.env) :: starEach es X.env := by rfl) : DA X (e :: es) τ (aCons f g) := pa_imp (pa_cons ha hr hs) fun σ H Q ⟨R, ρ, fs, h, ρ', s, e, q⟩ => by
  obtain ⟨p, e1, e2⟩ := bindO e
  obtain ⟨w, e3, e4⟩ := bindO e2
  cases e4
  exact ⟨R, ρ, fs, p.1, p.2, s, e1, fun v H' fs' t s' r => ⟨R, p.2, fs', w.1, w.2, s', e3, fun vs H2 fs2 t2 s2 r2 => q (v :: vs) H2 fs2 (t.trans t2) s2 (.cons (s'.holdH t2 r) r2)⟩⟩
def hvals : List Hd → Option (List D)
  | [] => some []
  | .v d :: r => (hvals r).bind fun ds => some (d :: ds)
  | .x _ :: _ => none
theorem RHs.valsOf {K : PySem.W.Frag} {mg : Str → Option Value} {S : List Addr} {σ : L2.St} {H : Hp} : ∀ {hs : List Hd} {vs : List V} {ds : List D}, RHs K mg S τ σ H hs vs → hvals hs = some ds → Rfs K mg (hide S H) ds vs
  | _, _, _, .nil, e => by cases e; exact .nil
  | _, _, _, .cons (h := h) (hs := hs) r rs, e => by
    cases h with
    | x i => cases e
    | v d =>
      unfold hvals at e
      obtain ⟨ds', e1, e2⟩ := bindO e
      cases e2
      exact .cons r (RHs.valsOf rs e1)
/-! ### displays -/
def eTup (f : Af) : Ef := fun ρ => (f ρ).bind fun p => (hvals p.1).bind fun ds => if okLen ds.length then some (.v (.tup ds), p.2) else none
def oLst (f : Af) : Of := fun ρ => (f ρ).bind fun p => (hvals p.1).bind fun ds => if okLen ds.length then some (.lst ds, p.2) else none
theorem SR.newT {R : List Addr} {ρ : Rho} {σ : L2.St} {H : Hp} {fs : List Addr} {p : Addr} {vs : List V} {ds : List D} (s : SR X.K X.mg R τ ρ σ H fs) (hp : H p = none) (r : Rfs X.K X.mg (hide (R ++ fs) H) ds vs) :
    Rf X.K X.mg (hide (R ++ fs) (upd H p (.tup vs))) (.tup ds) (.ref p) := by
  have hf := s.fresh hp
  refine .tup (.of (hide_some.mpr ⟨hf, upd_same⟩)) (r.mono (hide_grow _ (Grow.upd hp)))
theorem ifSome {α : Type} {c : Bool} {x r : α} (e : (if c then some x else none) = some r) : c = true ∧ x = r := by
  cases c with
  | true => exact ⟨rfl, by simpa using e⟩
  | false => cases e
theorem de_tup {f : Af} {x1} (h : DA X es τ f) : DE X (.Tuple es x1 pos) τ (eTup f) := pe_imp (pe_tup h) fun σ H Q ⟨R, ρ, fs, hh, ρ', s, e, q⟩ => by
  obtain ⟨p, e1, e2⟩ := bindO e
  obtain ⟨ds, e3, e4⟩ := bindO e2
  obtain ⟨e5, e6⟩ := ifSome e4
  cases e6
  refine ⟨R, ρ, fs, p.1, p.2, s, e1, fun vs H' fs' t s' r => ?_⟩
  have rf := r.valsOf e3
  refine ⟨by rw [← rf.length]; exact okLen_le e5, fun a ha => ?_⟩
  exact q _ _ fs' (t.trans (Step.grow (Grow.upd ha) _)) (s'.grow (Grow.upd ha)) (s'.newT ha rf)
theorem do_lst {f : Af} (h : DA X es τ f) : DO X (.List es pos) τ (oLst f) (.oL .sh) := pe_imp (pe_lst h) fun σ H Q ⟨R, ρ, fs, hh, ρ', s, e, q⟩ => by
  obtain ⟨p, e1, e2⟩ := bindO e
  obtain ⟨ds, e3, e4⟩ := bindO e2
  obtain ⟨e5, e6⟩ := ifSome e4
  cases e6
  refine ⟨R, ρ, fs, p.1, p.2, s, e1, fun vs H' fs' t s' r => ?_⟩
  have rf := r.valsOf e3
  refine ⟨by rw [← rf.length]; exact okLen_le e5, fun a ha => ?_⟩
  obtain ⟨n1, n2, n3⟩ := s'.newL ha rf
  exact q _ _ fs' [a] (t.trans n3) n1 n2

/-! ### one-place operators -/
def UnD (X : Cx) (r : V → Hp → VK → Prop) (g : D → Option D) : Prop := ∀ (S : List Addr) (H : Hp) (d1 d : D) (v1 : V) (Q : VK), (∀ a ∈ S, ∃ o, H a = some o ∧ Own o) → Rv X.K X.mg S H d1 v1 → g d1 = some d →
  (∀ v H', Grow H H' → Rf X.K X.mg (hide S H') d v → Q v H') → r v1 H Q
def eUn (g : D → Option D) (f : Ef) : Ef := fun ρ => (f ρ).bind fun p => (g (p.1.res p.2)).bind fun d => some (.v d, p.2)
theorem de_un {op : UnaryOp} {r : V → Hp → VK → Prop} {g : D → Option D} {f : Ef} (ho : UnR X (unaryOp op) r) (o : UnD X r g) (ha : DE X a τ f) : DE X (.UnaryOp op a pos) τ (eUn g f) := pe_imp (pe_un ho ha) fun σ H Q ⟨R, ρ, fs, h, ρ', s, e, q⟩ => by
  obtain ⟨p, e1, e2⟩ := bindO e
  obtain ⟨d, e3, e4⟩ := bindO e2
  cases e4
  exact ⟨R, ρ, fs, p.1, p.2, s, e1, fun v H' fs' t s' r => o (R ++ fs') H' _ _ v Q s'.own (s'.res r) e3 fun v2 H2 g2 rf => q v2 H2 fs' (t.trans (Step.grow g2 _)) (s'.grow g2) rf⟩
/-! ### calls of built-ins -/
inductive Rvs (K : PySem.W.Frag) (mg : Str → Option Value) (S : List Addr) (H : Hp) : List D → List V → Prop
  | nil : Rvs K mg S H [] []
  | cons {d : D} {v : V} {ds : List D} {vs : List V} : Rv K mg S H d v → Rvs K mg S H ds vs → Rvs K mg S H (d :: ds) (v :: vs)
theorem SR.ress {K : PySem.W.Frag} {mg : Str → Option Value} {R : List Addr} {ρ : Rho} {σ : L2.St} {H : Hp} {fs : List Addr} (s : SR K mg R τ ρ σ H fs) : ∀ {hs : List Hd} {vs : List V}, RHs K mg (R ++ fs) τ σ H hs vs → Rvs K mg (R ++ fs) H (hs.map fun h => h.res ρ) vs
  | _, _, .nil => .nil
  | _, _, .cons h r => .cons (s.res h) (SR.ress s r)
def CaD (X : Cx) (r : List V → Hp → VK → Prop) (g : List D → Option D) : Prop := ∀ (S : List Addr) (H : Hp) (ds : List D) (d : D) (vs : List V) (Q : VK), (∀ a ∈ S, ∃ o, H a = some o ∧ Own o) → Rvs X.K X.mg S H ds vs → g ds = some d →
  (∀ v H', Grow H H' → Rf X.K X.mg (hide S H') d v → Q v H') → r vs H Q
def CaO (X : Cx) (r : List V → Hp → VK → Prop) (g : List D → Option (List D)) : Prop := ∀ (S : List Addr) (H : Hp) (ds : List D) (d : List D) (vs : List V) (Q : VK), (∀ a ∈ S, ∃ o, H a = some o ∧ Own o) → Rvs X.K X.mg S H ds vs → g ds = some d →
  (∀ p H1 vs, Grow H H1 → H1 p = none → Rfs X.K X.mg (hide S H1) d vs → Q (.ref p) (upd H1 p (.lst vs))) → r vs H Q
theorem CaD.or {r r' : List V → Hp → VK → Prop} {g g' : List D → Option D} (h : CaD X r g) (h' : CaD X r' g') : CaD X (fun x H Q => r x H Q ∨ r' x H Q) (fun ds => (g ds).or (g' ds)) := fun S H ds d vs Q al r1 e q => by
  cases e1 : g ds with
  | some z => simp only [e1] at e; exact .inl (h S H ds d vs Q al r1 (by rw [e1]; exact e) q)
  | none => simp only [e1] at e; exact .inr (h' S H ds d vs Q al r1 (by simpa using e) q)
def eCa (g : List D → Option D) (f : Af) : Ef := fun ρ => (f ρ).bind fun p => (g (p.1.map fun h => h.res p.2)).bind fun d => some (.v d, p.2)
def oCa (g : List D → Option (List D)) (f : Af) : Of := fun ρ => (f ρ).bind fun p => (g (p.1.map fun h => h.res p.2)).bind fun d => some (.lst d, p.2)
theorem tCB_of {r : List V → Hp → VK → Prop} {g : List D → Option D} {f : Af} (o : CaD X r g) : ∀ σ H Q, tD X τ (eCa g f) σ H Q → tCB r (tA X τ f) σ H Q := fun σ H Q ⟨R, ρ, fs, h, ρ', s, e, q⟩ => by
  obtain ⟨p, e1, e2⟩ := bindO e
  obtain ⟨d, e3, e4⟩ := bindO e2
  cases e4
  exact ⟨R, ρ, fs, p.1, p.2, s, e1, fun v H' fs' t s' r => o (R ++ fs') H' _ _ v Q s'.own (s'.ress r) e3 fun v2 H2 g2 rf => q v2 H2 fs' (t.trans (Step.grow g2 _)) (s'.grow g2) rf⟩
theorem tCBO_of {r : List V → Hp → VK → Prop} {g : List D → Option (List D)} {f : Af} (o : CaO X r g) : ∀ σ H Q, tO X τ (oCa g f) (.oL .sh) σ H Q → tCB r (tA X τ f) σ H Q := fun σ H Q ⟨R, ρ, fs, h, ρ', s, e, q⟩ => by
  obtain ⟨p, e1, e2⟩ := bindO e
  obtain ⟨d, e3, e4⟩ := bindO e2
  cases e4
  refine ⟨R, ρ, fs, p.1, p.2, s, e1, fun v H' fs' t s' r => o (R ++ fs') H' _ _ v Q s'.own (s'.ress r) e3 fun a H1 vs g1 ha rf => ?_⟩
  obtain ⟨n1, n2, n3⟩ := (s'.grow g1).newL ha rf
  exact q _ _ fs' [a] (t.trans ((Step.grow g1 _).trans n3)) n1 n2
variable {x : Str} {p : Pos} {id T : String}
theorem de_callB {r : List V → Hp → VK → Prop} {g : List D → Option D} {f : Af} (hc : CallR X (.builtin id) r) (o : CaD X r g) (hg : Gl X x) (hm : X.mg x = none) (hv : bootBuiltins x = some (.builtin id)) (ha : DA X (e :: es) τ f) (hn : x ≠ "__name__" := by decide) (hdb : (x == ("__debug__" : Str)) = false := by decide)
    (he : starEach (e :: es) X.env = (false, eval e X.env) :: starEach es X.env := by rfl) (hpl : (backTo pos (starEach es X.env)).any (·.1) = false := by rfl) : DE X (.Call (.Name x p) (e :: es) [] pos) τ (eCa g f) := pe_imp (pe_callB hc hg hm hv ha hn hdb he hpl) (tCB_of o)
theorem de_callTy {r : List V → Hp → VK → Prop} {g : List D → Option D} {f : Af} (hc : CallR X (.type T) r) (o : CaD X r g) (hg : Gl X x) (hm : X.mg x = none) (hv : bootBuiltins x = some (.type T)) (ha : DA X (e :: es) τ f) (hn : x ≠ "__name__" := by decide) (hdb : (x == ("__debug__" : Str)) = false := by decide)
    (he : starEach (e :: es) X.env = (false, eval e X.env) :: starEach es X.env := by rfl) (hpl : (backTo pos (starEach es X.env)).any (·.1) = false := by rfl) : DE X (.Call (.Name x p) (e :: es) [] pos) τ (eCa g f) := pe_imp (pe_callTy hc hg hm hv ha hn hdb he hpl) (tCB_of o)
theorem do_callB {r : List V → Hp → VK → Prop} {g : List D → Option (List D)} {f : Af} (hc : CallR X (.builtin id) r) (o : CaO X r g) (hg : Gl X x) (hm : X.mg x = none) (hv : bootBuiltins x = some (.builtin id)) (ha : DA X (e :: es) τ f) (hn : x ≠ "__name__" := by decide) (hdb : (x == ("__debug__" : Str)) = false := by decide)
    (he : starEach (e :: es) X.env = (false, eval e X.env) :: starEach es X.env := by rfl) (hpl : (backTo pos (starEach es X.env)).any (·.1) = false := by rfl) : DO X (.Call (.Name x p) (e :: es) [] pos) τ (oCa g f) (.oL .sh) := pe_imp (pe_callB hc hg hm hv ha hn hdb he hpl) (tCBO_of o)
theorem do_callTy {r : List V → Hp → VK → Prop} {g : List D → Option (List D)} {f : Af} (hc : CallR X (.type T) r) (o : CaO X r g) (hg : Gl X x) (hm : X.mg x = none) (hv : bootBuiltins x = some (.type T)) (ha : DA X (e :: es) τ f) (hn : x ≠ "__name__" := by decide) (hdb : (x == ("__debug__" : Str)) = false := by decide)
    (he : starEach (e :: es) X.env = (false, eval e X.env) :: starEach es X.env := by rfl) (hpl : (backTo pos (starEach es X.env)).any (·.1) = false := by rfl) : DO X (.Call (.Name x p) (e :: es) [] pos) τ (oCa g f) (.oL .sh) := pe_imp (pe_callTy hc hg hm hv ha hn hdb he hpl) (tCBO_of o)
/-! ### slices -/
def SlD (X : Cx) (r : V → Option Int → Option Int → Hp → VK → Prop) (g : D → Option Int → Option Int → Option D) : Prop := ∀ (S : List Addr) (H : Hp) (d1 d : D) (lo hi : Option Int) (v1 : V) (Q : VK), (∀ a ∈ S, ∃ o, H a = some o ∧ Own o) → Rv X.K X.mg S H d1 v1 → g d1 lo hi = some d →
  (∀ v H', Grow H H' → Rf X.K X.mg (hide S H') d v → Q v H') → r v1 lo hi H Q
def SlO (X : Cx) (r : V → Option Int → Option Int → Hp → VK → Prop) (g : D → Option Int → Option Int → Option (List D)) : Prop := ∀ (S : List Addr) (H : Hp) (d1 : D) (d : List D) (lo hi : Option Int) (v1 : V) (Q : VK), (∀ a ∈ S, ∃ o, H a = some o ∧ Own o) → Rv X.K X.mg S H d1 v1 → g d1 lo hi = some d →
  (∀ p vs, H p = none → Rfs X.K X.mg (hide S H) d vs → Q (.ref p) (upd H p (.lst vs))) → r v1 lo hi H Q
abbrev Pf := Rho → Option (Option Int × Rho)
def tP (X : Cx) (τ : List Ty) (f : Pf) : TO := fun σ H Q => ∃ R ρ fs b ρ', SR X.K X.mg R τ ρ σ H fs ∧ f ρ = some (b, ρ') ∧ ∀ H' fs', Step H H' fs fs' → SR X.K X.mg R τ ρ' σ H' fs' → Q b H'
abbrev DP (X : Cx) (e : Option Expr) (τ : List Ty) (f : Pf) : Prop := PO X e (tP X τ f)
theorem po_imp {X : Cx} {e : Option Expr} {t t' : TO} (h : PO X e t) (k : ∀ σ H Q, t' σ H Q → t σ H Q) : PO X e t' := ⟨fun pins s σ H Q I q => h.run pins s σ H Q I (k σ H Q q)⟩
def pNo : Pf := fun ρ => some (none, ρ)
def pSome (f : Ef) : Pf := fun ρ => (f ρ).bind fun p => match p.1 with
  | .v (.int i) => some (some i, p.2)
  | _ => none
theorem dp_no : DP X none τ pNo := po_imp po_none fun σ H Q ⟨R, ρ, fs, h, ρ', s, e, q⟩ => by
  cases e
  exact q H fs (Step.refl H fs) s
theorem dp_some {f : Ef} (h : DE X e τ f) : DP X (some e) τ (pSome f) := po_imp (po_some h) fun σ H Q ⟨R, ρ, fs, h, ρ', s, e, q⟩ => by
  obtain ⟨p, e1, e2⟩ := bindO e
  obtain ⟨p1, p2⟩ := p
  cases p1 with
  | x i => cases e2
  | v d =>
    cases d with
    | int i =>
      cases e2
      refine ⟨R, ρ, fs, _, _, s, e1, fun v H' fs' t s' r => ?_⟩
      cases r
      exact ⟨i, rfl, q H' fs' t s'⟩
    | _ => cases e2
def eSl (g : D → Option Int → Option Int → Option D) (f : Ef) (lo hi : Pf) : Ef := fun ρ => (f ρ).bind fun p => (lo p.2).bind fun l => (hi l.2).bind fun h => (g (p.1.res h.2) l.1 h.1).bind fun d => some (.v d, h.2)
def oSl (g : D → Option Int → Option Int → Option (List D)) (f : Ef) (lo hi : Pf) : Of := fun ρ => (f ρ).bind fun p => (lo p.2).bind fun l => (hi l.2).bind fun h => (g (p.1.res h.2) l.1 h.1).bind fun d => some (.lst d, h.2)
theorem de_slice {r : V → Option Int → Option Int → Hp → VK → Prop} {g : D → Option Int → Option Int → Option D} {f : Ef} {lo hi : Pf} {l u : Option Expr} {p2 : Pos} (hr : SlR X r) (o : SlD X r g) (he : DE X e τ f) (hl : DP X l τ lo) (hu : DP X u τ hi) :
    DE X (.Subscript e (.Slice l u none p2) pos) τ (eSl g f lo hi) := pe_imp (pe_slice hr he hl hu) fun σ H Q ⟨R, ρ, fs, h, ρ', s, e, q⟩ => by
  obtain ⟨p, e1, e2⟩ := bindO e
  obtain ⟨w, e3, e4⟩ := bindO e2
  obtain ⟨z, e5, e6⟩ := bindO e4
  obtain ⟨d, e7, e8⟩ := bindO e6
  cases e8
  refine ⟨R, ρ, fs, p.1, p.2, s, e1, fun v H' fs' t s' r => ⟨R, p.2, fs', w.1, w.2, s', e3, fun H2 fs2 t2 s2 => ⟨R, w.2, fs2, z.1, z.2, s2, e5, fun H3 fs3 t3 s3 => ?_⟩⟩⟩
  exact o (R ++ fs3) H3 _ _ _ _ v Q s3.own (s3.res (s2.holdH t3 (s'.holdH t2 r))) e7 fun v4 H4 g4 rf => q v4 H4 fs3 ((t.trans t2).trans (t3.trans (Step.grow g4 _))) (s3.grow g4) rf
theorem do_slice {r : V → Option Int → Option Int → Hp → VK → Prop} {g : D → Option Int → Option Int → Option (List D)} {f : Ef} {lo hi : Pf} {l u : Option Expr} {p2 : Pos} (hr : SlR X r) (o : SlO X r g) (he : DE X e τ f) (hl : DP X l τ lo) (hu : DP X u τ hi) :
    DO X (.Subscript e (.Slice l u none p2) pos) τ (oSl g f lo hi) (.oL .sh) := pe_imp (pe_slice hr he hl hu) fun σ H Q ⟨R, ρ, fs, h, ρ', s, e, q⟩ => by
  obtain ⟨p, e1, e2⟩ := bindO e
  obtain ⟨w, e3, e4⟩ := bindO e2
  obtain ⟨z, e5, e6⟩ := bindO e4
  obtain ⟨d, e7, e8⟩ := bindO e6
  cases e8
  refine ⟨R, ρ, fs, p.1, p.2, s, e1, fun v H' fs' t s' r => ⟨R, p.2, fs', w.1, w.2, s', e3, fun H2 fs2 t2 s2 => ⟨R, w.2, fs2, z.1, z.2, s2, e5, fun H3 fs3 t3 s3 => ?_⟩⟩⟩
  refine o (R ++ fs3) H3 _ _ _ _ v Q s3.own (s3.res (s2.holdH t3 (s'.holdH t2 r))) e7 fun a vs ha rf => ?_
  obtain ⟨n1, n2, n3⟩ := s3.newL ha rf
  exact q _ _ fs3 [a] (((t.trans t2).trans t3).trans n3) n1 n2
/-! ### methods of built-in types that change nothing -/
def MtD (X : Cx) (T : String) (r : V → List V → Hp → VK → Prop) (g : D → List D → Option D) : Prop := ∀ (S : List Addr) (H : Hp) (d1 : D) (ds : List D) (d : D) (v1 : V) (vs : List V) (Q : VK), (∀ a ∈ S, ∃ o, H a = some o ∧ Own o) → Rv X.K X.mg S H d1 v1 → Rvs X.K X.mg S H ds vs → g d1 ds = some d →
  (∀ v H', Grow H H' → Rf X.K X.mg (hide S H') d v → Q v H') → r v1 vs H Q
end
end TL

namespace TL
open PySem PySem.Spec PyProof.Rows L2

/-! ### slots changed -/
def kill (ks : List Nat) (ρ : Rho) : Rho := ks.foldl (fun r i => r.set i .non) ρ
def killT (ks : List Nat) (τ : List Ty) : List Ty := ks.foldl (fun r i => r.set i .no) τ
section
variable {K : PySem.W.Frag} {mg : Str → Option Value} {R : List Addr} {τ : List Ty} {ρ : Rho} {σ : L2.St} {H H' : Hp} {fs fs' : List Addr}
theorem hide_sub {S S' : List Addr} {H : Hp} (k : ∀ a ∈ S', a ∈ S) : Le (hide S H) (hide S' H) := hide_mono fun a o n e => ⟨fun z => n (k a z), e⟩
theorem nodup_mid {A f1 fo f2 f' : List Addr} (h : (A ++ (f1 ++ fo ++ f2)).Nodup) (k : ∀ a ∈ f', a ∉ A ++ (f1 ++ f2)) (n : f'.Nodup) : (A ++ (f1 ++ f' ++ f2)).Nodup := by
  simp only [List.nodup_append, List.mem_append, not_or] at h k ⊢
  obtain ⟨hA, ⟨⟨h1, ho, h1o⟩, h2, h12⟩, hx⟩ := h
  refine ⟨hA, ⟨⟨h1, n, fun a ha b hb e => ?_⟩, h2, fun a ha b hb e => ?_⟩, fun a ha b hb e => ?_⟩
  · subst e; exact (k _ hb).2.1 ha
  · subst e
    rcases ha with ha | ha
    · exact h12 _ (.inl ha) _ hb rfl
    · exact (k _ ha).2.2 hb
  · subst e
    rcases hb with (hb | hb) | hb
    · exact hx _ ha _ (.inl (.inl hb)) rfl
    · exact (k _ hb).1 ha
    · exact hx _ ha _ (.inr hb) rfl
/-- a value goes into a slot -/
theorem SR.put {fv : List Addr} {i : Nat} {t : Ty} {d : D} {v : V} (s : SR K mg (fv ++ R) τ ρ σ H fs) (hi : i < τ.length) (r : Rp K mg H (hide (fv ++ R ++ fs) H) t d v fv) :
    ∃ fs', SR K mg R (τ.set i t) (ρ.set i d) (σ.set i (some v)) H fs' ∧ ∀ a ∈ fs', a ∈ fv ++ fs := by
  obtain ⟨f1, fo, f2, ef, ho, hl, h1, h2, h3⟩ := s.sl.split (List.getElem?_eq_getElem hi)
  have nd := s.nd
  subst ef
  have sub : ∀ a ∈ R ++ (f1 ++ fv ++ f2), a ∈ fv ++ R ++ (f1 ++ fo ++ f2) := by
    intro a ha
    simp only [List.mem_append] at ha ⊢
    rcases ha with h | (h | h) | h <;> simp [h]
  have le : Le (hide (fv ++ R ++ (f1 ++ fo ++ f2)) H) (hide (R ++ (f1 ++ fv ++ f2)) H) := hide_sub sub
  refine ⟨f1 ++ fv ++ f2, ⟨h1 (fun _ _ => rfl) le (r.mono le fun _ _ => rfl), ?_, fun a ha => s.al a (List.mem_append_right _ ha)⟩, fun a ha => ?_⟩
  · have nd' : (R ++ (f1 ++ fo ++ f2)).Nodup := by
      rw [List.append_assoc] at nd
      exact (List.nodup_append.mp nd).2.1
    refine nodup_mid nd' (fun a ha z => ?_) ?_
    · rw [List.append_assoc] at nd
      exact (List.nodup_append.mp nd).2.2 a ha a (by
        simp only [List.mem_append] at z ⊢
        rcases z with h | h | h <;> simp [h]) rfl
    · rw [List.append_assoc] at nd
      exact (List.nodup_append.mp nd).1
  · simp only [List.mem_append] at ha ⊢
    rcases ha with (h | h) | h <;> simp [h]
theorem set_getD {α : Type} (d : α) : ∀ (l : List α) (i : Nat), l.set i (l.getD i d) = l
  | [], _ => rfl
  | a :: r, 0 => rfl
  | a :: r, i + 1 => by simpa using set_getD d r i
theorem set_at {α : Type} : ∀ {l : List α} {i : Nat} {t : α}, l[i]? = some t → l.set i t = l
  | [], _, _, e => by simp at e
  | a :: r, 0, t, e => by simp at e; simp [e]
  | a :: r, i + 1, t, e => by simpa using set_at (l := r) (i := i) (by simpa using e)
theorem SR.frz {i : Nat} {t : Ty} (s : SR K mg R τ ρ σ H fs) (e : τ[i]? = some t) (n : t ≠ .no) : ∃ fs', SR K mg R (τ.set i .sh) ρ σ H fs' ∧ ∀ a ∈ fs', a ∈ fs := by
  obtain ⟨f1, fo, f2, ef, ho, hl, h1, h2, h3⟩ := s.sl.split e
  subst ef
  rcases ho with ⟨z, _⟩ | ⟨v, ev, r⟩
  · exact absurd z n
  · have le : Le (hide (R ++ (f1 ++ fo ++ f2)) H) (hide (R ++ (f1 ++ [] ++ f2)) H) := hide_sub fun a ha => by
      simp only [List.mem_append] at ha ⊢
      rcases ha with h | (h | h) | h
      · simp [h]
      · simp [h]
      · simp at h
      · simp [h]
    have nd := s.nd
    have rf : Rf K mg (hide (R ++ (f1 ++ [] ++ f2)) H) (ρ.getD i .non) v := r.frz le fun a ha o eo => hide_some.mpr ⟨fun z => ?_, eo⟩
    · have q := h2 (fun _ _ => rfl) le ev (.sh rf)
      rw [set_getD] at q
      refine ⟨f1 ++ [] ++ f2, ⟨q, nodup_mid nd (fun a ha => nomatch ha) List.nodup_nil, s.al⟩, fun a ha => ?_⟩
      simp only [List.mem_append] at ha ⊢
      rcases ha with (h | h) | h
      · simp [h]
      · simp at h
      · simp [h]
    · simp only [List.nodup_append, List.mem_append] at nd
      simp only [List.mem_append] at z
      rcases z with z | (z | z) | z
      · exact nd.2.2 a z a (.inl (.inr ha)) rfl
      · exact nd.2.1.1.2.2 a z a ha rfl
      · simp at z
      · exact nd.2.1.2.2 a (.inr ha) a z rfl
theorem SR.kill1 (s : SR K mg R τ ρ σ H fs) (i : Nat) (d : D) : ∃ fs', SR K mg R (τ.set i .no) (ρ.set i d) σ H fs' ∧ ∀ a ∈ fs', a ∈ fs := by
  by_cases hi : i < τ.length
  · obtain ⟨f1, fo, f2, ef, ho, hl, h1, h2, h3⟩ := s.sl.split (List.getElem?_eq_getElem hi)
    subst ef
    have nd := s.nd
    refine ⟨f1 ++ f2, ⟨h3 (fun _ _ => rfl) (hide_sub fun a ha => ?_), ?_, s.al⟩, fun a ha => ?_⟩
    · simp only [List.mem_append] at ha ⊢
      rcases ha with h | h | h <;> simp [h]
    · have := nodup_mid nd (f' := []) (fun a ha => nomatch ha) List.nodup_nil
      simpa using this
    · simp only [List.mem_append] at ha ⊢
      rcases ha with h | h <;> simp [h]
  · have hl := s.sl.len
    rw [List.set_eq_of_length_le (by omega), List.set_eq_of_length_le (by omega)]
    exact ⟨fs, s, fun _ h => h⟩
theorem SR.killS : ∀ (ks : List Nat) {τ : List Ty} {ρ : Rho} {fs : List Addr}, SR K mg R τ ρ σ H fs → ∃ fs', SR K mg R (killT ks τ) (kill ks ρ) σ H fs' ∧ ∀ a ∈ fs', a ∈ fs
  | [], _, _, fs, s => ⟨fs, s, fun _ h => h⟩
  | i :: ks, _, _, _, s => by
    obtain ⟨f1, s1, k1⟩ := s.kill1 i .non
    obtain ⟨f2, s2, k2⟩ := SR.killS ks s1
    exact ⟨f2, s2, fun a ha => k1 a (k2 a ha)⟩
end

/-! ### a def's promise -/
structure Sg where
  ps : List Ty
  ret : Ty
def Ty.io : Ty → Ty
  | .sh => .no
  | t => t
/-- the result, and the parameters' trees behind the call -/
abbrev Fm := List D → Option (D × List D)
def spD (K : PySem.W.Frag) (mg : Str → Option Value) (sg : Sg) (F : Fm) : Sp := fun vs H Q _ => ∃ R ds fs d ds', SR K mg R sg.ps ds (vs.map some) H fs ∧ F ds = some (d, ds') ∧
  ∀ v H' fs' fv, Step H H' fs (fv ++ fs') → SR K mg (fv ++ R) (sg.ps.map Ty.io) ds' (vs.map some) H' fs' → Rp K mg H' (hide (fv ++ R ++ fs') H') sg.ret d v fv → Q v H'
abbrev FnD (P : Program) (w : World) (K : PySem.W.Frag) (mg : Str → Option Value) (base : Heap) (k : Nat) (f : Addr) (fd : FuncData) (ps : List Str) (sg : Sg) (F : Fm) : Prop := FnOk P w K mg base CX0 k f fd ps (spD K mg sg F)
theorem Sl.of_sh {K : PySem.W.Frag} {mg : Str → Option Value} {H G : Hp} : ∀ {ds : List D} {vs : List V}, Rfs K mg G ds vs → Sl K mg H G (List.replicate ds.length .sh) ds (vs.map some) []
  | _, _, .nil => .nil
  | _, _, .cons h r => by
    have q := Sl.cons (Rp.sh (K := K) (mg := mg) (H := H) h) (Sl.of_sh r)
    exact q
theorem SR.args {K : PySem.W.Frag} {mg : Str → Option Value} {S : List Addr} {H : Hp} {ds : List D} {vs : List V} (r : Rfs K mg (hide S H) ds vs) (nd : S.Nodup) (al : ∀ a ∈ S, ∃ o, H a = some o ∧ Own o) : SR K mg S (List.replicate ds.length .sh) ds (vs.map some) H [] := by
  refine ⟨?_, by simpa using nd, al⟩
  rw [List.append_nil]
  exact Sl.of_sh r

section
variable {X : Cx} {τ : List Ty} {a b c e : Expr} {es : List Expr} {pos p : Pos} {x : Str} {k : Nat} {f : Addr} {fd : FuncData} {ps : List Str} {sg : Sg} {F : Fm}
/-! ### a call: all arguments frozen -/
def oCall (F : Fm) (g : Af) : Of := fun ρ => (g ρ).bind fun p => (hvals p.1).bind fun ds => (F ds).bind fun r => some (r.1, p.2)
theorem hvals_len : ∀ {hs : List Hd} {ds : List D}, hvals hs = some ds → ds.length = hs.length
  | [], _, e => by cases e; rfl
  | .v d :: r, _, e => by
    obtain ⟨ds, e1, e2⟩ := bindO (show (hvals r).bind _ = _ from e)
    cases e2
    simp [hvals_len e1]
  | .x i :: r, _, e => by cases e
theorem do_call {g : Af} (Fo : FnD X.prog X.w X.K X.mg X.base k f fd ps sg F) (hr : Room k X.A) (hg : Gl X x) (hm : X.mg x = some (.ref f)) (hk : PySem.W.keepIn X.K (.ref f) = true) (hb : Binds X.K fd ps [])
    (ha : DA X (e :: es) τ g) (n : Nat) (hps : sg.ps = List.replicate n .sh) (hn : ∀ ds r, F ds = some r → ds.length = n) (hdb : (x == ("__debug__" : Str)) = false := by decide) (he : starEach (e :: es) X.env = (false, eval e X.env) :: starEach es X.env := by rfl) (hpl : (backTo pos (starEach es X.env)).any (·.1) = false := by rfl) :
    DO X (.Call (.Name x p) (e :: es) [] pos) τ (oCall F g) sg.ret := pe_imp (pe_call Fo hr hg hm hk hb .nil (pass0 (X := X)) ha hdb he hpl) fun σ H Q ⟨R, ρ, fs, d, ρ', s, eq, q⟩ => by
  obtain ⟨w, e1, e2⟩ := bindO eq
  obtain ⟨ds, e3, e4⟩ := bindO e2
  obtain ⟨r, e5, e6⟩ := bindO e4
  cases e6
  refine ⟨R, ρ, fs, w.1, w.2, s, e1, fun vs H1 fs1 t1 s1 r1 => ?_⟩
  have rf := r1.valsOf e3
  show spD X.K X.mg sg F (vs ++ []) H1 Q E0
  rw [List.append_nil]
  have sa := SR.args rf s1.nd s1.own
  rw [hn _ _ e5, ← hps] at sa
  refine ⟨R ++ fs1, ds, [], r.1, r.2, sa, e5, fun v H2 fs2 fv t2 s2 rp => ?_⟩
  have gr : Grow H1 H2 := fun a o e => t2.ext a o (by simp) e
  have fr : ∀ a ∈ fv, H1 a = none := fun a ha => (t2.sub a (List.mem_append_left _ ha)).elim (fun z => by simp at z) id
  have nd2 := s2.nd
  refine q v H2 fs1 fv (t1.trans ⟨fun a o _ e => gr a o e, fun a ha => (List.mem_append.mp ha).elim (fun z => .inr (fr a z)) .inl, fun a o e => ⟨o, gr a o e⟩⟩) ⟨s1.sl.mono ?_ ?_, ?_, fun a ha => ?_⟩ (rp.mono ?_ fun _ _ => rfl)
  · refine hide_mono fun a o n e => ⟨fun z => ?_, gr a o e⟩
    simp only [List.mem_append] at z n
    rcases z with (z | z) | z
    · rw [fr a z] at e; cases e
    · exact n (.inl z)
    · exact n (.inr z)
  · intro a ha
    obtain ⟨o, e, _⟩ := s1.sl.there a ha
    rw [e, gr a o e]
  · rw [List.append_assoc] at nd2
    have := List.nodup_append.mp nd2
    rw [List.append_assoc, List.nodup_append]
    refine ⟨this.1, s1.nd, fun a ha b hb => this.2.2 a ha b (List.mem_append_left _ hb)⟩
  · rcases List.mem_append.mp ha with z | z
    · exact s2.own a (List.mem_append_left _ (List.mem_append_left _ z))
    · obtain ⟨o, e, w⟩ := s1.al a z
      exact ⟨o, gr a o e, w⟩
  · exact hide_sub fun a ha => by
      simp only [List.mem_append] at ha ⊢
      rcases ha with (z | z) | z <;> simp [z]

/-! ### a call with borrowed lists: what comes back holds none -/
def immL (l : List D) (f : D → Bool) : Bool := l.all f
mutual
def imm : D → Bool
  | .tup l => imms l
  | .lst _ => false
  | .dct _ => false
  | .set _ => false
  | .obj _ _ => false
  | .scr _ => false
  | _ => true
def imms : List D → Bool
  | [] => true
  | d :: r => imm d && imms r
end
def immR : Ty → D → Bool
  | .sh, d => imm d
  | .oL .sh, .lst l => imms l
  | _, _ => false
mutual
theorem Rf.imm {K : PySem.W.Frag} {mg : Str → Option Value} {G G' : Hp} (h : ∀ a xs, G a = some (.tup xs) → G' a = some (.tup xs)) (hf : ∀ a o u, G a = some (.frz o u) → G' a = some (.frz o u)) : ∀ {d : D} {v : V}, imm d = true → Rf K mg G d v → Rf K mg G' d v
  | _, _, _, .non => .non
  | _, _, _, .bl b => .bl b
  | _, _, _, .int i => .int i
  | _, _, _, .str s => .str s
  | _, _, e, .tup q r => .tup (by
      rcases q with (q | ⟨o, q⟩) | q
      · exact .inl (.inl (h _ _ q))
      · exact .inl (.inr ⟨o, hf _ _ _ q⟩)
      · exact .inr q) (Rfs.imm h hf (by simpa [TL.imm] using e) r)
  | _, _, e, .lst _ _ => by simp [TL.imm] at e
  | _, _, e, .dK _ _ _ => by simp [TL.imm] at e
  | _, _, e, .dT _ _ _ => by simp [TL.imm] at e
  | _, _, e, .obj _ _ _ _ => by simp [TL.imm] at e
  | _, _, e, .scr _ => by simp [TL.imm] at e
theorem Rfs.imm {K : PySem.W.Frag} {mg : Str → Option Value} {G G' : Hp} (h : ∀ a xs, G a = some (.tup xs) → G' a = some (.tup xs)) (hf : ∀ a o u, G a = some (.frz o u) → G' a = some (.frz o u)) : ∀ {d : List D} {v : List V}, imms d = true → Rfs K mg G d v → Rfs K mg G' d v
  | _, _, _, .nil => .nil
  | _, _, e, .cons q r => .cons (Rf.imm h hf (by simp [imms] at e; exact e.1) q) (Rfs.imm h hf (by simp [imms] at e; exact e.2) r)
end
theorem Rv.whole {K : PySem.W.Frag} {mg : Str → Option Value} {S : List Addr} {H : Hp} {d : D} {v : V} (r : Rv K mg S H d v) : Rf K mg (hide [] H) d v := by
  have le : Le (hide S H) (hide [] H) := hide_sub fun a ha => by simp at ha
  have eq : hide [] H = H := by funext a; simp [hide]
  rw [eq] at le ⊢
  cases r with
  | rf r => exact r.mono le
  | lst h r => exact .lst h (r.mono le)
  | dK h n r => exact .dK h n (r.mono le)
  | dT h n r => exact .dT h n (r.mono le)
theorem Rvs.whole {K : PySem.W.Frag} {mg : Str → Option Value} {S : List Addr} {H : Hp} : ∀ {d : List D} {v : List V}, Rvs K mg S H d v → Rfs K mg (hide [] H) d v
  | _, _, .nil => .nil
  | _, _, .cons h r => .cons h.whole (Rvs.whole r)
def oCallB (t : Ty) (F : Fm) (g : Af) : Of := fun ρ => (g ρ).bind fun p => (F (p.1.map fun h => h.res p.2)).bind fun r => if immR t r.1 then some (r.1, p.2) else none
theorem do_callB' {g : Af} (Fo : FnD X.prog X.w X.K X.mg X.base k f fd ps sg F) (hr : Room k X.A) (hg : Gl X x) (hm : X.mg x = some (.ref f)) (hk : PySem.W.keepIn X.K (.ref f) = true) (hb : Binds X.K fd ps [])
    (ha : DA X (e :: es) τ g) (n : Nat) (hps : sg.ps = List.replicate n .sh) (hn : ∀ ds r, F ds = some r → ds.length = n) (hdb : (x == ("__debug__" : Str)) = false := by decide) (he : starEach (e :: es) X.env = (false, eval e X.env) :: starEach es X.env := by rfl) (hpl : (backTo pos (starEach es X.env)).any (·.1) = false := by rfl) :
    DO X (.Call (.Name x p) (e :: es) [] pos) τ (oCallB sg.ret F g) sg.ret := pe_imp (pe_call Fo hr hg hm hk hb .nil (pass0 (X := X)) ha hdb he hpl) fun σ H Q ⟨R, ρ, fs, d, ρ', s, eq, q⟩ => by
  obtain ⟨w, e1, e2⟩ := bindO eq
  obtain ⟨r, e5, e6⟩ := bindO e2
  obtain ⟨e7, e8⟩ := ifSome e6
  cases e8
  refine ⟨R, ρ, fs, w.1, w.2, s, e1, fun vs H1 fs1 t1 s1 r1 => ?_⟩
  have rf := (s1.ress r1).whole
  show spD X.K X.mg sg F (vs ++ []) H1 Q E0
  rw [List.append_nil]
  have sa := SR.args rf List.nodup_nil (fun a ha => nomatch ha)
  rw [hn _ _ e5, ← hps] at sa
  refine ⟨[], _, [], r.1, r.2, sa, e5, fun v H2 fs2 fv t2 s2 rp => ?_⟩
  have gr : Grow H1 H2 := fun a o e => t2.ext a o (by simp) e
  have fr : ∀ a ∈ fv, H1 a = none := fun a ha => (t2.sub a (List.mem_append_left _ ha)).elim (fun z => by simp at z) id
  have nd2 := s2.nd
  have nfv : fv.Nodup := by
    simp only [List.append_nil] at nd2
    exact (List.nodup_append.mp nd2).1
  have own2 : ∀ a ∈ R ++ fs1, ∃ o, H2 a = some o ∧ Own o := fun a ha => by
    obtain ⟨o, e, w⟩ := s1.own a ha
    exact ⟨o, gr a o e, w⟩
  have dis : ∀ a ∈ fv, a ∉ R ++ fs1 := fun a ha z => by
    obtain ⟨o, e, _⟩ := s1.own a z
    rw [fr a ha] at e; cases e
  have immk : ∀ a xs, hide (fv ++ [] ++ fs2) H2 a = some (.tup xs) → hide (fv ++ R ++ fs1) H2 a = some (.tup xs) := fun a xs e => by
    rw [hide_some] at e ⊢
    refine ⟨fun z => ?_, e.2⟩
    rw [List.append_assoc] at z
    rcases List.mem_append.mp z with z | z
    · exact e.1 (by simp [z])
    · obtain ⟨o, e', w⟩ := own2 a z
      rw [e.2] at e'; cases e'; exact w
  have immf : ∀ a o u, hide (fv ++ [] ++ fs2) H2 a = some (.frz o u) → hide (fv ++ R ++ fs1) H2 a = some (.frz o u) := fun a o u e => by
    rw [hide_some] at e ⊢
    refine ⟨fun z => ?_, e.2⟩
    rw [List.append_assoc] at z
    rcases List.mem_append.mp z with z | z
    · exact e.1 (by simp [z])
    · obtain ⟨o, e', w⟩ := own2 a z
      rw [e.2] at e'; cases e'; exact w
  refine q v H2 fs1 fv (t1.trans ⟨fun a o _ e => gr a o e, fun a ha => (List.mem_append.mp ha).elim (fun z => .inr (fr a z)) .inl, fun a o e => ⟨o, gr a o e⟩⟩) ⟨s1.sl.mono ?_ ?_, ?_, fun a ha => ?_⟩ ?_
  · refine hide_mono fun a o n e => ⟨fun z => ?_, gr a o e⟩
    simp only [List.mem_append] at z n
    rcases z with (z | z) | z
    · rw [fr a z] at e; cases e
    · exact n (.inl z)
    · exact n (.inr z)
  · intro a ha
    obtain ⟨o, e, _⟩ := s1.sl.there a ha
    rw [e, gr a o e]
  · rw [List.append_assoc, List.nodup_append]
    exact ⟨nfv, s1.nd, fun a ha b hb e => dis a ha (e ▸ hb)⟩
  · rcases List.mem_append.mp ha with z | z
    · exact s2.own a (by simp [z])
    · obtain ⟨o, e, w⟩ := s1.al a z
      exact ⟨o, gr a o e, w⟩
  · revert rp e7
    cases hret : sg.ret with
    | sh =>
      intro e7 rp
      cases rp with
      | sh rp => exact .sh (rp.imm immk immf e7)
    | oL t =>
      cases t with
      | sh =>
        intro e7 rp
        generalize r.1 = dd at e7 rp
        cases rp with
        | oL h rp =>
          have z := rp.to_sh
          have z2 := z.2
          subst z2
          exact .oL h (Rps.of_sh (z.1.imm immk immf e7))
      | _ => intro e7; simp [immR] at e7
    | _ => intro e7; simp [immR] at e7

/-! ### a call that changes one of its arguments -/
inductive RHi (K : PySem.W.Frag) (mg : Str → Option Value) (S : List Addr) (τ : List Ty) (σ : L2.St) (H : Hp) : Hd → V → Prop
  | rh {h : Hd} {v : V} : RH K mg S τ σ H h v → RHi K mg S τ σ H h v
  | io {i : Nat} {v : V} : σ[i]? = some (some v) → RHi K mg S τ σ H (.x i) v
inductive RHis (K : PySem.W.Frag) (mg : Str → Option Value) (S : List Addr) (τ : List Ty) (σ : L2.St) (H : Hp) : List Hd → List V → Prop
  | nil : RHis K mg S τ σ H [] []
  | cons {h : Hd} {v : V} {hs : List Hd} {vs : List V} : RHi K mg S τ σ H h v → RHis K mg S τ σ H hs vs → RHis K mg S τ σ H (h :: hs) (v :: vs)
def tAi (X : Cx) (τ : List Ty) (f : Af) : TA := fun σ H Q => ∃ R ρ fs hs ρ', SR X.K X.mg R τ ρ σ H fs ∧ f ρ = some (hs, ρ') ∧
  ∀ vs H' fs', Step H H' fs fs' → SR X.K X.mg R τ ρ' σ H' fs' → RHis X.K X.mg (R ++ fs') τ σ H' hs vs → Q vs H'
abbrev DAi (X : Cx) (es : List Expr) (τ : List Ty) (f : Af) : Prop := PA X es (tAi X τ f)
theorem SR.holdHi {K : PySem.W.Frag} {mg : Str → Option Value} {R : List Addr} {ρ : Rho} {σ : L2.St} {H H' : Hp} {fs fs' : List Addr} (s : SR K mg R τ ρ σ H fs) (t : Step H H' fs fs') {h : Hd} {v : V} (r : RHi K mg (R ++ fs) τ σ H h v) : RHi K mg (R ++ fs') τ σ H' h v := by
  cases r with
  | rh r => exact .rh (s.holdH t r)
  | io e => exact .io e
theorem dai_nil : DAi X [] τ aNil := pa_imp pa_nil fun σ H Q ⟨R, ρ, fs, h, ρ', s, e, q⟩ => by
  cases e
  exact q [] H fs (Step.refl H fs) s .nil
theorem dai_cons {f : Ef} {g : Af} (ha : DE X e τ f) (hr : DAi X es τ g) (hs : starEach (e :: es) X.env = (false, eval e X.env) :: starEach es X.env := by rfl) : DAi X (e :: es) τ (aCons f g) := pa_imp (pa_cons ha hr hs) fun σ H Q ⟨R, ρ, fs, h, ρ', s, e, q⟩ => by
  obtain ⟨p, e1, e2⟩ := bindO e
  obtain ⟨w, e3, e4⟩ := bindO e2
  cases e4
  exact ⟨R, ρ, fs, p.1, p.2, s, e1, fun v H' fs' t s' r => ⟨R, p.2, fs', w.1, w.2, s', e3, fun vs H2 fs2 t2 s2 r2 => q (v :: vs) H2 fs2 (t.trans t2) s2 (.cons (s'.holdHi t2 (.rh r)) r2)⟩⟩
theorem dai_io {g : Af} (i : Nat) {t : Ty} (ha : PE X e (tVar i)) (hr : DAi X es τ g) (ht : τ[i]? = some t := by rfl) (hn : t ≠ .no := by intro z; cases z) (hs : starEach (e :: es) X.env = (false, eval e X.env) :: starEach es X.env := by rfl) : DAi X (e :: es) τ (aCons (eOwn i) g) := pa_imp (pa_cons ha hr hs) fun σ H Q ⟨R, ρ, fs, h, ρ', s, e, q⟩ => by
  obtain ⟨p, e1, e2⟩ := bindO e
  obtain ⟨w, e3, e4⟩ := bindO e2
  cases e4
  cases e1
  obtain ⟨v, f, ev, _, _⟩ := s.get ht hn
  exact ⟨v, ev, R, ρ, fs, w.1, w.2, s, e3, fun vs H2 fs2 t2 s2 r2 => q (v :: vs) H2 fs2 t2 s2 (.cons (.io ev) r2)⟩
/-- the parameters' kinds: all frozen but the j-th -/
def ioPs (n j : Nat) (t : Ty) : List Ty := (List.replicate n .sh).set j t
/-- the handles: all values but the j-th, which is the slot i -/
def hvI (i : Nat) : List Hd → Nat → Rho → Option (List D)
  | [], _, _ => none
  | .x m :: r, 0, ρ => if m == i then (hvals r).bind fun ds => some (ρ.getD i .non :: ds) else none
  | .v _ :: _, 0, _ => none
  | .v d :: r, j + 1, ρ => (hvI i r j ρ).bind fun ds => some (d :: ds)
  | .x _ :: _, _ + 1, _ => none
def oCallI (F : Fm) (i j : Nat) (g : Af) : Of := fun ρ => (g ρ).bind fun p => (hvI i p.1 j p.2).bind fun ds => (F ds).bind fun r => some (r.1, p.2.set i (r.2.getD j .non))
theorem RHis.valsOf {K : PySem.W.Frag} {mg : Str → Option Value} {S : List Addr} {σ : L2.St} {H : Hp} : ∀ {hs : List Hd} {vs : List V} {ds : List D}, RHis K mg S τ σ H hs vs → hvals hs = some ds → Rfs K mg (hide S H) ds vs
  | _, _, _, .nil, e => by cases e; exact .nil
  | _, _, _, .cons (h := h) (hs := hs) r rs, e => by
    cases h with
    | x i => cases e
    | v d =>
      obtain ⟨ds', e1, e2⟩ := bindO (show (hvals hs).bind _ = _ from e)
      cases e2
      cases r with
      | rh r => exact .cons r (RHis.valsOf rs e1)
theorem RHis.argsI {K : PySem.W.Frag} {mg : Str → Option Value} {S : List Addr} {σ : L2.St} {H : Hp} {ρ : Rho} {t : Ty} {v : V} {fo : List Addr} {i : Nat} (ev : σ[i]? = some (some v)) (rp : Rp K mg H (hide S H) t (ρ.getD i .non) v fo) : ∀ {hs : List Hd} {vs : List V} {ds : List D} {j : Nat}, RHis K mg S τ σ H hs vs → hvI i hs j ρ = some ds →
    Sl K mg H (hide S H) (ioPs ds.length j t) ds (vs.map some) fo ∧ vs[j]? = some v ∧ j < ds.length
  | _, _, _, _, .nil, e => by cases e
  | _, _, _, 0, .cons (h := h) (v := v0) (hs := hs) r rs, e => by
    cases h with
    | v d => cases e
    | x m =>
      obtain ⟨e1, e2⟩ := ifSome' (x := ()) (r := ()) (c := m == i) (by
        unfold hvI at e
        by_cases q : (m == i) = true
        · simp [q]
        · rw [if_neg q] at e; cases e)
      have em : m = i := by simpa using e1
      subst em
      unfold hvI at e
      rw [if_pos e1] at e
      obtain ⟨ds', e3, e4⟩ := bindO e
      cases e4
      have ev' : σ[m]? = some (some v0) := by
        cases r with
        | rh r => exact r.1
        | io r => exact r
      rw [ev] at ev'; cases ev'
      have q := Sl.cons rp (Sl.of_sh (H := H) (rs.valsOf e3))
      rw [List.append_nil] at q
      exact ⟨q, rfl, by simp⟩
  | _, _, _, j + 1, .cons (h := h) (hs := hs) r rs, e => by
    cases h with
    | x i => cases e
    | v d =>
      obtain ⟨ds', e1, e2⟩ := bindO (show (hvI i hs j ρ).bind _ = _ from e)
      cases e2
      obtain ⟨q, q2, q3⟩ := RHis.argsI ev rp rs e1
      cases r with
      | rh r =>
        exact ⟨Sl.cons (Rp.sh (H := H) r) q, by simpa using q2, by simpa using q3⟩
theorem do_callI {g : Af} {t : Ty} (i j n : Nat) (Fo : FnD X.prog X.w X.K X.mg X.base k f fd ps sg F) (hr : Room k X.A) (hg : Gl X x) (hm : X.mg x = some (.ref f)) (hk : PySem.W.keepIn X.K (.ref f) = true) (hb : Binds X.K fd ps [])
    (ha : DAi X (e :: es) τ g) (hps : sg.ps = ioPs n j t) (hn : ∀ ds r, F ds = some r → ds.length = n) (ht : τ[i]? = some t := by rfl) (hno : t ≠ .no := by intro z; cases z) (hsh : t.io = t := by rfl) (hdb : (x == ("__debug__" : Str)) = false := by decide) (he : starEach (e :: es) X.env = (false, eval e X.env) :: starEach es X.env := by rfl) (hpl : (backTo pos (starEach es X.env)).any (·.1) = false := by rfl) :
    DO X (.Call (.Name x p) (e :: es) [] pos) τ (oCallI F i j g) sg.ret := pe_imp (pe_call Fo hr hg hm hk hb .nil (pass0 (X := X)) ha hdb he hpl) fun σ H Q ⟨R, ρ, fs, d, ρ', s, eq, q⟩ => by
  obtain ⟨w, e1, e2⟩ := bindO eq
  obtain ⟨ds, e3, e4⟩ := bindO e2
  obtain ⟨r, e5, e6⟩ := bindO e4
  cases e6
  refine ⟨R, ρ, fs, w.1, w.2, s, e1, fun vs H1 fs1 t1 s1 r1 => ?_⟩
  show spD X.K X.mg sg F (vs ++ []) H1 Q E0
  rw [List.append_nil]
  obtain ⟨f1, fo, f2, ef, ho, hl, h1, h2, h3⟩ := s1.sl.split ht
  rcases ho with ⟨z, _⟩ | ⟨vi, evi, rp⟩
  · exact absurd z hno
  subst ef
  obtain ⟨sa, ej, hj⟩ := r1.argsI evi rp e3
  rw [hn _ _ e5, ← hps] at sa
  have nd1 := s1.nd
  have mem1 : ∀ a, a ∈ (R ++ (f1 ++ f2)) ++ fo ↔ a ∈ R ++ (f1 ++ fo ++ f2) := fun a => by
    simp only [List.mem_append]
    constructor
    · rintro ((h | h | h) | h) <;> simp [h]
    · rintro (h | (h | h) | h) <;> simp [h]
  have ndm : ((R ++ (f1 ++ f2)) ++ fo).Nodup := by
    have pm : ((R ++ (f1 ++ f2)) ++ fo).Perm (R ++ (f1 ++ fo ++ f2)) := by
      rw [List.append_assoc]
      refine List.Perm.append_left R ?_
      rw [List.append_assoc, List.append_assoc]
      exact List.Perm.append_left f1 List.perm_append_comm
    exact pm.nodup_iff.mpr nd1
  have sA : SR X.K X.mg (R ++ (f1 ++ f2)) sg.ps ds (vs.map some) H1 fo := ⟨sa.mono (hide_sub fun a ha => (mem1 a).mp ha) fun _ _ => rfl, ndm, fun a ha => s1.own a ((mem1 a).mp (List.mem_append_left _ ha))⟩
  refine ⟨R ++ (f1 ++ f2), ds, fo, r.1, r.2, sA, e5, fun v H2 fs2 fv t2 s2 rp2 => ?_⟩
  have hjn : j < n := by rw [← hn _ _ e5]; exact hj
  have tj : (sg.ps.map Ty.io)[j]? = some t := by
    rw [hps, List.getElem?_map]
    unfold ioPs
    rw [List.getElem?_set_self (by simpa using hjn)]
    simp [hsh]
  obtain ⟨g1, f', g2, eg, ho2, _⟩ := s2.sl.split tj
  rcases ho2 with ⟨z, _⟩ | ⟨v', ev', rpj⟩
  · exact absurd z hno
  have hf' : ∀ a ∈ f', a ∈ fs2 := fun a ha => by rw [eg]; simp [ha]
  have evv : v' = vi := by
    rw [List.getElem?_map, ej] at ev'
    simpa using ev'.symm
  subst evv
  have nd2 := s2.nd
  have H12 : ∀ a ∈ R ++ (f1 ++ f2), ∀ o, H1 a = some o → H2 a = some o := fun a ha o e => t2.ext a o (fun z => (List.nodup_append.mp ndm).2.2 a ha a z rfl) e
  have key : ∀ a, a ∈ fv ++ R ++ (f1 ++ f' ++ f2) → a ∈ fv ++ (R ++ (f1 ++ f2)) ++ fs2 := fun a ha => by
    simp only [List.mem_append] at ha ⊢
    rcases ha with (h | h) | (h | h) | h
    · simp [h]
    · simp [h]
    · simp [h]
    · simp [hf' a h]
    · simp [h]
  have le1 : Le (hide (R ++ (f1 ++ fo ++ f2)) H1) (hide (fv ++ R ++ (f1 ++ f' ++ f2)) H2) := hide_mono fun a o n e => by
    have nfo : a ∉ fo := fun z => n (by simp [z])
    refine ⟨fun z => ?_, t2.ext a o nfo e⟩
    have z := key a z
    have nR : a ∉ R ++ (f1 ++ f2) := fun z => n ((mem1 a).mp (List.mem_append_left _ z))
    rcases List.mem_append.mp z with z | z
    · rcases List.mem_append.mp z with z | z
      · rcases t2.sub a (List.mem_append_left _ z) with q | q
        · exact nfo q
        · rw [q] at e; cases e
      · exact nR z
    · rcases t2.sub a (List.mem_append_right _ z) with q | q
      · exact nfo q
      · rw [q] at e; cases e
  have rpj' : Rp X.K X.mg H2 (hide (fv ++ R ++ (f1 ++ f' ++ f2)) H2) t (r.2.getD j .non) v' f' := rpj.mono (hide_sub key) fun _ _ => rfl
  have sl' := h2 (H' := H2) (G' := hide (fv ++ R ++ (f1 ++ f' ++ f2)) H2) (t' := t) (d' := r.2.getD j .non) (v' := v') (f' := f') (fun a ha => by
      obtain ⟨o, e, _⟩ := s1.own a (by
        simp only [List.mem_append] at ha ⊢
        rcases ha with h | h <;> simp [h])
      rw [e, H12 a (List.mem_append_right _ ha) o e]) le1 evi rpj'
  rw [set_at ht] at sl'
  have nfs2 : fs2.Nodup := (List.nodup_append.mp nd2).2.1
  have nf' : f'.Nodup := by
    rw [eg] at nfs2
    exact (List.nodup_append.mp (List.nodup_append.mp nfs2).1).2.1
  have ndA : (fv ++ (R ++ (f1 ++ f2))).Nodup := (List.nodup_append.mp nd2).1
  have nd3 : (fv ++ R ++ (f1 ++ f' ++ f2)).Nodup := by
    refine nodup_mid (fo := []) ?_ (fun a ha z => ?_) nf'
    · simp only [List.append_nil]
      rw [List.append_assoc]; exact ndA
    · refine (List.nodup_append.mp nd2).2.2 a ?_ a (hf' a ha) rfl
      rw [List.append_assoc] at z
      exact z
  refine q v H2 (f1 ++ f' ++ f2) fv (t1.trans ⟨fun a o n e => t2.ext a o (fun z => n (by simp [z])) e, fun a ha => ?_, t2.ne⟩) ⟨sl', nd3, fun a ha => ?_⟩ (rp2.mono (hide_sub key) fun _ _ => rfl)
  · rcases List.mem_append.mp ha with z | z
    · rcases t2.sub a (List.mem_append_left _ z) with q | q
      · exact .inl (by simp [q])
      · exact .inr q
    · simp only [List.mem_append] at z
      rcases z with (z | z) | z
      · exact .inl (by simp [z])
      · rcases t2.sub a (List.mem_append_right _ (hf' a z)) with q | q
        · exact .inl (by simp [q])
        · exact .inr q
      · exact .inl (by simp [z])
  · rcases List.mem_append.mp ha with z | z
    · exact s2.own a (by simp [z])
    · obtain ⟨o, e, w⟩ := s1.al a z
      exact ⟨o, H12 a (List.mem_append_left _ z) o e, w⟩
end
end TL

namespace TL
open PySem PySem.Spec PyProof.Rows L2

inductive Out where
  | nx (ρ : Rho) | bk (ρ : Rho) | ct (ρ : Rho) | rt (d : D) (ρ : Rho)
abbrev Sf := Rho → Option Out
/-- what holds throughout a def: the slots that stay (its changed parameters), the result's kind, the slots' kinds at a return; at a break, at a continue -/
structure Gm where
  io : List Nat
  ret : Ty
  rty : List Ty
  bk : List Ty := []
  ct : List Ty := []
def Kp (io : List Nat) (σ σ' : L2.St) : Prop := ∀ i ∈ io, σ'[i]? = σ[i]?
theorem Kp.refl (io : List Nat) (σ : L2.St) : Kp io σ σ := fun _ _ => rfl
theorem Kp.trans {io : List Nat} {a b c : L2.St} (h : Kp io a b) (k : Kp io b c) : Kp io a c := fun i hi => (k i hi).trans (h i hi)
/-- the end of a statement, seen from the state (σ0, H0, fs0) -/
def Post (X : Cx) (γ : Gm) (D : Ends) (R : List Addr) (σ0 : L2.St) (H0 : Hp) (fs0 : List Addr) (τ' : List Ty) : Out → Prop
  | .nx ρ' => ∀ σ' H' fs', Step H0 H' fs0 fs' → Kp γ.io σ0 σ' → SR X.K X.mg R τ' ρ' σ' H' fs' → D.nx σ' H'
  | .bk ρ' => ∀ σ' H' fs', Step H0 H' fs0 fs' → Kp γ.io σ0 σ' → SR X.K X.mg R γ.bk ρ' σ' H' fs' → D.bk σ' H'
  | .ct ρ' => ∀ σ' H' fs', Step H0 H' fs0 fs' → Kp γ.io σ0 σ' → SR X.K X.mg R γ.ct ρ' σ' H' fs' → D.ct σ' H'
  | .rt d ρ' => ∀ v σ' H' fs' fv, Step H0 H' fs0 (fv ++ fs') → Kp γ.io σ0 σ' → SR X.K X.mg (fv ++ R) γ.rty ρ' σ' H' fs' → Rp X.K X.mg H' (hide (fv ++ R ++ fs') H') γ.ret d v fv → D.rt v H'
def tS (X : Cx) (γ : Gm) (τ : List Ty) (f : Sf) (τ' : List Ty) : TS := fun D σ H => ∃ R ρ fs out, SR X.K X.mg R τ ρ σ H fs ∧ f ρ = some out ∧ Post X γ D R σ H fs τ' out
abbrev DS (X : Cx) (γ : Gm) (st : Stmt) (τ : List Ty) (f : Sf) (τ' : List Ty) : Prop := PS X st (tS X γ τ f τ')
abbrev DSs (X : Cx) (γ : Gm) (st : List Stmt) (τ : List Ty) (f : Sf) (τ' : List Ty) : Prop := PSs X st (tS X γ τ f τ')
theorem ps_imp {X : Cx} {e : Stmt} {t t' : TS} (h : PS X e t) (k : ∀ D σ H, t' D σ H → t D σ H) : PS X e t' := ⟨fun pins s σ H D I q => h.run pins s σ H D I (k D σ H q)⟩
theorem pss_imp {X : Cx} {e : List Stmt} {t t' : TS} (h : PSs X e t) (k : ∀ D σ H, t' D σ H → t D σ H) : PSs X e t' := ⟨fun pins s σ H D I q => h.run pins s σ H D I (k D σ H q)⟩
theorem Post.mono {X : Cx} {γ : Gm} {D D' : Ends} {R : List Addr} {σ0 σ1 : L2.St} {H0 H1 : Hp} {fs0 fs1 : List Addr} {τ' τ'' : List Ty} {o : Out} (t : Step H0 H1 fs0 fs1) (k : Kp γ.io σ0 σ1) (p : Post X γ D R σ0 H0 fs0 τ' o)
    (hn : ∀ ρ' σ' H' fs', o = .nx ρ' → Step H0 H' fs0 fs' → Kp γ.io σ0 σ' → SR X.K X.mg R τ'' ρ' σ' H' fs' → D'.nx σ' H') (hb : D'.bk = D.bk) (hc : D'.ct = D.ct) (hr : D'.rt = D.rt) : Post X γ D' R σ1 H1 fs1 τ'' o := by
  cases o with
  | nx ρ' => exact fun σ' H' fs' t' k' s' => hn ρ' σ' H' fs' rfl (t.trans t') (k.trans k') s'
  | bk ρ' => exact fun σ' H' fs' t' k' s' => by rw [hb]; exact p σ' H' fs' (t.trans t') (k.trans k') s'
  | ct ρ' => exact fun σ' H' fs' t' k' s' => by rw [hc]; exact p σ' H' fs' (t.trans t') (k.trans k') s'
  | rt d ρ' => exact fun v σ' H' fs' fv t' k' s' r => by rw [hr]; exact p v σ' H' fs' fv (t.trans t') (k.trans k') s' r

def sNil : Sf := fun ρ => some (.nx ρ)
def sSeq (f g : Sf) : Sf := fun ρ => (f ρ).bind fun o => match o with
  | .nx ρ' => g ρ'
  | o => some o
/-- slots forgotten behind a block -/
def sKl (ks : List Nat) (f : Sf) : Sf := fun ρ => (f ρ).bind fun o => match o with
  | .nx ρ' => some (.nx (kill ks ρ'))
  | o => some o
section
variable {X : Cx} {γ : Gm} {τ τ1 τ' : List Ty} {st : Stmt} {rest : List Stmt} {a b c e : Expr} {es : List Expr} {pos p : Pos}
theorem dss_nil : DSs X γ [] τ sNil τ := pss_imp pss_nil fun D σ H ⟨R, ρ, fs, o, s, e, q⟩ => by
  cases e
  exact q σ H fs (Step.refl H fs) (Kp.refl _ _) s
theorem dss_cons {f g : Sf} (h1 : DS X γ st τ f τ1) (h2 : DSs X γ rest τ1 g τ') : DSs X γ (st :: rest) τ (sSeq f g) τ' := pss_imp (pss_cons h1 h2) fun D σ H ⟨R, ρ, fs, o, s, e, q⟩ => by
  obtain ⟨o1, e1, e2⟩ := bindO e
  refine ⟨R, ρ, fs, o1, s, e1, ?_⟩
  cases o1 with
  | nx ρ1 => exact fun σ1 H1 fs1 t1 k1 s1 => ⟨R, ρ1, fs1, o, s1, e2, q.mono t1 k1 (fun ρ' σ' H' fs' eo t' k' s' => by subst eo; exact q σ' H' fs' t' k' s') rfl rfl rfl⟩
  | bk ρ1 => cases e2; exact q
  | ct ρ1 => cases e2; exact q
  | rt d ρ1 => cases e2; exact q
theorem dss_one {f : Sf} (h1 : DS X γ st τ f τ') : DSs X γ [st] τ f τ' := pss_imp (pss_one h1) fun D σ H q => q
theorem dss_kill {sts : List Stmt} {f : Sf} (ks : List Nat) (h : DSs X γ sts τ f τ1) (ht : killT ks τ1 = τ' := by rfl) : DSs X γ sts τ (sKl ks f) τ' := pss_imp h fun D σ H ⟨R, ρ, fs, o, s, e, q⟩ => by
  obtain ⟨o1, e1, e2⟩ := bindO e
  refine ⟨R, ρ, fs, o1, s, e1, ?_⟩
  cases o1 with
  | nx ρ1 =>
    cases e2
    intro σ1 H1 fs1 t1 k1 s1
    obtain ⟨fs2, s2, sub⟩ := s1.killS ks
    rw [ht] at s2
    exact q σ1 H1 fs2 (t1.less sub) k1 s2
  | bk ρ1 => cases e2; exact q
  | ct ρ1 => cases e2; exact q
  | rt d ρ1 => cases e2; exact q
/-- an owned slot given away ahead of a block -/
theorem dss_frz {sts : List Stmt} {f : Sf} (i : Nat) {t : Ty} (h : DSs X γ sts (τ.set i .sh) f τ') (ht : τ[i]? = some t := by rfl) (hn : t ≠ .no := by intro z; cases z) : DSs X γ sts τ f τ' := pss_imp h fun D σ H ⟨R, ρ, fs, o, s, e, q⟩ => by
  obtain ⟨fs1, s1, sub⟩ := s.frz ht hn
  exact ⟨R, ρ, fs1, o, s1, e, q.mono ((Step.refl H fs).less sub) (Kp.refl _ _) (fun ρ' σ' H' fs' eo t' k' s' => by subst eo; exact q σ' H' fs' t' k' s') rfl rfl rfl⟩
theorem ds_frz {f : Sf} (i : Nat) {t : Ty} (h : DS X γ st (τ.set i .sh) f τ') (ht : τ[i]? = some t := by rfl) (hn : t ≠ .no := by intro z; cases z) : DS X γ st τ f τ' := ps_imp h fun D σ H ⟨R, ρ, fs, o, s, e, q⟩ => by
  obtain ⟨fs1, s1, sub⟩ := s.frz ht hn
  exact ⟨R, ρ, fs1, o, s1, e, q.mono ((Step.refl H fs).less sub) (Kp.refl _ _) (fun ρ' σ' H' fs' eo t' k' s' => by subst eo; exact q σ' H' fs' t' k' s') rfl rfl rfl⟩

/-! ### small statements -/
def sPass : Sf := fun ρ => some (.nx ρ)
def sBrk : Sf := fun ρ => some (.bk ρ)
def sCont : Sf := fun ρ => some (.ct ρ)
theorem ds_pass : DS X γ (.Pass pos) τ sPass τ := ps_imp ps_pass fun D σ H ⟨R, ρ, fs, o, s, e, q⟩ => by
  cases e
  exact q σ H fs (Step.refl H fs) (Kp.refl _ _) s
theorem ds_brk (h : γ.bk = τ := by rfl) : DS X γ (.Break pos) τ sBrk τ' := ps_imp ps_break fun D σ H ⟨R, ρ, fs, o, s, e, q⟩ => by
  cases e
  exact q σ H fs (Step.refl H fs) (Kp.refl _ _) (by rw [h]; exact s)
theorem ds_cont (h : γ.ct = τ := by rfl) : DS X γ (.Continue pos) τ sCont τ' := ps_imp ps_continue fun D σ H ⟨R, ρ, fs, o, s, e, q⟩ => by
  cases e
  exact q σ H fs (Step.refl H fs) (Kp.refl _ _) (by rw [h]; exact s)
/-- what a return needs: the changed parameters are still owned -/
def LeT : List Ty → List Ty → Prop
  | [], [] => True
  | .no :: r, _ :: s => LeT r s
  | t :: r, u :: s => t = u ∧ LeT r s
  | _, _ => False
mutual
def tyEq : Ty → Ty → Bool
  | .no, .no => true
  | .sh, .sh => true
  | .oL a, .oL b => tyEq a b
  | .oK a, .oK b => tyEq a b
  | .oT a, .oT b => tyEq a b
  | .oO c l, .oO d m => c == d && tyEqs l m
  | _, _ => false
def tyEqs : List Ty → List Ty → Bool
  | [], [] => true
  | a :: l, b :: m => tyEq a b && tyEqs l m
  | _, _ => false
end
mutual
theorem tyEq_ok : ∀ {a b : Ty}, tyEq a b = true → a = b
  | .no, .no, _ => rfl
  | .sh, .sh, _ => rfl
  | .oL a, .oL b, h => by rw [tyEq_ok (a := a) (b := b) (by simpa [tyEq] using h)]
  | .oK a, .oK b, h => by rw [tyEq_ok (a := a) (b := b) (by simpa [tyEq] using h)]
  | .oT a, .oT b, h => by rw [tyEq_ok (a := a) (b := b) (by simpa [tyEq] using h)]
  | .oO c l, .oO d m, h => by
    have h' : (c == d) = true ∧ tyEqs l m = true := by simpa [tyEq] using h
    rw [tyEqs_ok h'.2, eq_of_beq h'.1]
  | .no, .sh, h | .no, .oL _, h | .no, .oK _, h | .no, .oT _, h | .no, .oO _ _, h => by simp [tyEq] at h
  | .sh, .no, h | .sh, .oL _, h | .sh, .oK _, h | .sh, .oT _, h | .sh, .oO _ _, h => by simp [tyEq] at h
  | .oL _, .no, h | .oL _, .sh, h | .oL _, .oK _, h | .oL _, .oT _, h | .oL _, .oO _ _, h => by simp [tyEq] at h
  | .oK _, .no, h | .oK _, .sh, h | .oK _, .oL _, h | .oK _, .oT _, h | .oK _, .oO _ _, h => by simp [tyEq] at h
  | .oT _, .no, h | .oT _, .sh, h | .oT _, .oL _, h | .oT _, .oK _, h | .oT _, .oO _ _, h => by simp [tyEq] at h
  | .oO _ _, .no, h | .oO _ _, .sh, h | .oO _ _, .oL _, h | .oO _ _, .oK _, h | .oO _ _, .oT _, h => by simp [tyEq] at h
theorem tyEqs_ok : ∀ {a b : List Ty}, tyEqs a b = true → a = b
  | [], [], _ => rfl
  | a :: l, b :: m, h => by
    have h' : tyEq a b = true ∧ tyEqs l m = true := by simpa [tyEqs] using h
    rw [tyEq_ok h'.1, tyEqs_ok h'.2]
  | [], _ :: _, h | _ :: _, [], h => by simp [tyEqs] at h
end
def leTb : List Ty → List Ty → Bool
  | [], [] => true
  | .no :: r, _ :: s => leTb r s
  | t :: r, u :: s => tyEq t u && leTb r s
  | _, _ => false
theorem leTb_ok : ∀ {a b : List Ty}, leTb a b = true → LeT a b
  | [], [], _ => trivial
  | [], _ :: _, h => by cases h
  | t :: r, [], h => by cases t <;> cases h
  | .no :: r, _ :: s, h => leTb_ok (a := r) (b := s) h
  | .sh :: r, u :: s, h => by
    have h' : tyEq .sh u = true ∧ leTb r s = true := by simpa [leTb] using h
    exact ⟨tyEq_ok h'.1, leTb_ok h'.2⟩
  | .oL t :: r, u :: s, h => by
    have h' : tyEq (.oL t) u = true ∧ leTb r s = true := by simpa [leTb] using h
    exact ⟨tyEq_ok h'.1, leTb_ok h'.2⟩
  | .oK t :: r, u :: s, h => by
    have h' : tyEq (.oK t) u = true ∧ leTb r s = true := by simpa [leTb] using h
    exact ⟨tyEq_ok h'.1, leTb_ok h'.2⟩
  | .oT t :: r, u :: s, h => by
    have h' : tyEq (.oT t) u = true ∧ leTb r s = true := by simpa [leTb] using h
    exact ⟨tyEq_ok h'.1, leTb_ok h'.2⟩
  | .oO c t :: r, u :: s, h => by
    have h' : tyEq (.oO c t) u = true ∧ leTb r s = true := by simpa [leTb] using h
    exact ⟨tyEq_ok h'.1, leTb_ok h'.2⟩
theorem SR.leT {K : PySem.W.Frag} {mg : Str → Option Value} {R : List Addr} : ∀ {τ τ' : List Ty} {ρ : Rho} {σ : L2.St} {H : Hp} {fs : List Addr}, SR K mg R τ ρ σ H fs → LeT τ' τ → ∃ fs', SR K mg R τ' ρ σ H fs' ∧ ∀ a ∈ fs', a ∈ fs := by
  intro τ τ' ρ σ H fs s l
  have main : ∀ {τ τ' : List Ty} {ρ : Rho} {σ : L2.St} {f : List Addr} {G : Hp}, Sl K mg H G τ ρ σ f → LeT τ' τ → ∃ f', f'.Sublist f ∧ ∀ {G' : Hp}, Le G G' → Sl K mg H G' τ' ρ σ f' := by
    intro τ τ' ρ σ f G s
    induction s generalizing τ' with
    | nil =>
      intro l
      cases τ' with
      | nil => exact ⟨[], .slnil, fun _ => .nil⟩
      | cons t r => cases t <;> exact l.elim
    | no _ ih =>
      intro l
      cases τ' with
      | nil => exact l.elim
      | cons t r =>
        cases t with
        | no =>
          obtain ⟨f', sb, k⟩ := ih l
          exact ⟨f', sb, fun le => .no (k le)⟩
        | _ => cases l.1
    | cons h _ ih =>
      intro l
      cases τ' with
      | nil => exact l.elim
      | cons t r =>
        cases t with
        | no =>
          obtain ⟨f', sb, k⟩ := ih l
          exact ⟨f', sb.trans (List.sublist_append_right _ _), fun le => .no (k le)⟩
        | _ =>
          obtain ⟨e, l⟩ := l
          subst e
          obtain ⟨f', sb, k⟩ := ih l
          exact ⟨_ ++ f', (List.Sublist.refl _).append sb, fun le => .cons (h.mono le fun _ _ => rfl) (k le)⟩
  obtain ⟨f', sb, k⟩ := main s.sl l
  refine ⟨f', ⟨k (hide_sub fun a ha => ?_), ((List.Sublist.refl R).append sb).nodup s.nd, s.al⟩, fun a ha => sb.subset ha⟩
  rcases List.mem_append.mp ha with z | z
  · exact List.mem_append_left _ z
  · exact List.mem_append_right _ (sb.subset z)
def sRet (f : Ef) : Sf := fun ρ => (f ρ).bind fun p => match p.1 with
  | .v d => some (.rt d p.2)
  | _ => none
def sRetO (f : Of) : Sf := fun ρ => (f ρ).bind fun p => some (.rt p.1 p.2)
theorem ds_ret {f : Ef} (h : DE X e τ f) (hr : γ.ret = .sh := by rfl) (hl : leTb γ.rty τ = true := by rfl) : DS X γ (.Return (some e) pos) τ (sRet f) τ' := ps_imp (ps_ret h) fun D σ H ⟨R, ρ, fs, o, s, e, q⟩ => by
  obtain ⟨p, e1, e2⟩ := bindO e
  obtain ⟨p1, p2⟩ := p
  cases p1 with
  | x i => cases e2
  | v d =>
    cases e2
    refine ⟨R, ρ, fs, _, _, s, e1, fun v H1 fs1 t1 s1 r => ?_⟩
    obtain ⟨fs2, s2, sub⟩ := s1.leT (leTb_ok hl)
    refine q v σ H1 fs2 [] (t1.less sub) (Kp.refl _ _) s2 ?_
    rw [hr]
    exact .sh (Rf.mono (hide_sub fun a ha => by
      simp only [List.nil_append, List.mem_append] at ha ⊢
      exact ha.imp id (sub a)) r)
theorem ds_retO {f : Of} {t : Ty} (h : DO X e τ f t) (hr : γ.ret = t := by rfl) (hl : leTb γ.rty τ = true := by rfl) : DS X γ (.Return (some e) pos) τ (sRetO f) τ' := ps_imp (ps_ret h) fun D σ H ⟨R, ρ, fs, o, s, e, q⟩ => by
  obtain ⟨p, e1, e2⟩ := bindO e
  cases e2
  refine ⟨R, ρ, fs, p.1, p.2, s, e1, fun v H1 fs1 fv t1 s1 r => ?_⟩
  obtain ⟨fs2, s2, sub⟩ := s1.leT (leTb_ok hl)
  refine q v σ H1 fs2 fv (t1.less fun a ha => (List.mem_append.mp ha).elim (fun z => by simp [z]) fun z => by simp [sub a z]) (Kp.refl _ _) s2 ?_
  rw [hr]
  exact r.mono (hide_sub fun a ha => by
    simp only [List.mem_append] at ha ⊢
    exact ha.imp id (sub a)) fun _ _ => rfl
/-- an owned slot is the result -/
def sRetX (i : Nat) : Sf := fun ρ => some (.rt (ρ.getD i .non) ρ)
theorem ds_retX (i : Nat) {t : Ty} (h : PE X e (tVar i)) (ht : τ[i]? = some t := by rfl) (hn : t ≠ .no := by intro z; cases z) (hr : γ.ret = t := by rfl) (hl : leTb γ.rty (τ.set i .no) = true := by rfl) : DS X γ (.Return (some e) pos) τ (sRetX i) τ' := ps_imp (ps_ret h) fun D σ H ⟨R, ρ, fs, o, s, e, q⟩ => by
  cases e
  obtain ⟨f1, fo, f2, ef, ho, hl2, h1, h2, h3⟩ := s.sl.split ht
  rcases ho with ⟨z, _⟩ | ⟨v, ev, r⟩
  · exact absurd z hn
  subst ef
  refine ⟨v, ev, ?_⟩
  have nd := s.nd
  have mem : ∀ a, a ∈ fo ++ R ++ (f1 ++ f2) → a ∈ R ++ (f1 ++ fo ++ f2) := fun a ha => by
    simp only [List.mem_append] at ha ⊢
    rcases ha with (h | h) | h | h <;> simp [h]
  have sK := h3 (H' := H) (G' := hide (fo ++ R ++ (f1 ++ f2)) H) (d' := ρ.getD i .non) (fun _ _ => rfl) (hide_sub mem)
  rw [set_getD] at sK
  have pm : (fo ++ R ++ (f1 ++ f2)).Perm (R ++ (f1 ++ fo ++ f2)) := by
    rw [List.append_assoc, List.append_assoc, ← List.append_assoc R f1, ← List.append_assoc R f1, ← List.append_assoc (R ++ f1) fo f2]
    refine (List.perm_append_comm (l₁ := fo) (l₂ := R ++ f1 ++ f2)).trans ?_
    rw [List.append_assoc (R ++ f1) f2 fo, List.append_assoc (R ++ f1) fo f2]
    exact List.Perm.append_left _ List.perm_append_comm
  have s' : SR X.K X.mg (fo ++ R) (τ.set i .no) ρ σ H (f1 ++ f2) := ⟨sK, pm.nodup_iff.mpr nd, fun a ha => s.own a (mem a (List.mem_append_left _ ha))⟩
  obtain ⟨fs2, s2, sub⟩ := s'.leT (leTb_ok hl)
  refine q v σ H fs2 fo ((Step.refl H _).less fun a ha => ?_) (Kp.refl _ _) s2 ?_
  · rcases List.mem_append.mp ha with z | z
    · simp [z]
    · have := sub a z
      simp only [List.mem_append] at this ⊢
      rcases this with h | h <;> simp [h]
  · rw [hr]
    exact r.mono (hide_sub fun a ha => mem a (by
      rcases List.mem_append.mp ha with z | z
      · exact List.mem_append_left _ z
      · exact List.mem_append_right _ (sub a z))) fun _ _ => rfl
def sRetN : Sf := fun ρ => some (.rt .non ρ)
theorem ds_retN (hr : γ.ret = .sh := by rfl) (hl : leTb γ.rty τ = true := by rfl) : DS X γ (.Return none pos) τ sRetN τ' := ps_imp ps_retN fun D σ H ⟨R, ρ, fs, o, s, e, q⟩ => by
  cases e
  obtain ⟨fs2, s2, sub⟩ := s.leT (leTb_ok hl)
  refine q .non σ H fs2 [] ((Step.refl H fs).less sub) (Kp.refl _ _) s2 ?_
  rw [hr]
  exact .sh .non
/-! an expression whose value is dropped -/
def sDrop (f : Ef) : Sf := fun ρ => (f ρ).bind fun p => some (.nx p.2)
theorem ds_drop {f : Ef} (h : DE X e τ f) (hs : swapsWith e none pos.line X.env = pure false := by rfl) : DS X γ (.Expr e pos) τ (sDrop f) τ := ps_imp (ps_expr h hs) fun D σ H ⟨R, ρ, fs, o, s, e, q⟩ => by
  obtain ⟨p, e1, e2⟩ := bindO e
  cases e2
  exact ⟨R, ρ, fs, p.1, p.2, s, e1, fun v H1 fs1 t1 s1 r => q σ H1 fs1 t1 (Kp.refl _ _) s1⟩
/-! if -/
def sIf (t : Tf) (f g : Sf) : Sf := fun ρ => (t ρ).bind fun p => if p.1 then f p.2 else g p.2
theorem ds_if {t : Tf} {f g : Sf} {sa sb : List Stmt} (hc : DT X c τ t) (ha : DSs X γ sa τ f τ') (hb : DSs X γ sb τ g τ') : DS X γ (.If c sa sb pos) τ (sIf t f g) τ' := ps_imp (ps_if hc ha hb) fun D σ H ⟨R, ρ, fs, o, s, e, q⟩ => by
  obtain ⟨p, e1, e2⟩ := bindO e
  refine ⟨R, ρ, fs, p.1, p.2, s, e1, fun H1 fs1 t1 s1 => ?_⟩
  have q1 : Post X γ D R σ H1 fs1 τ' o := q.mono t1 (Kp.refl _ _) (fun ρ' σ' H' fs' eo t' k' s' => by subst eo; exact q σ' H' fs' t' k' s') rfl rfl rfl
  cases hp : p.1 with
  | true => rw [hp] at e2; exact iteT ⟨R, p.2, fs1, o, s1, e2, q1⟩
  | false => rw [hp] at e2; exact iteF ⟨R, p.2, fs1, o, s1, e2, q1⟩

/-! ### targets -/
abbrev Gf := D → Rho → Option Rho
def tG (X : Cx) (io : List Nat) (τ : List Ty) (g : Gf) (τ' : List Ty) : TG := fun v σ H Q => ∃ R ρ fs d ρ', SR X.K X.mg R τ ρ σ H fs ∧ Rf X.K X.mg (hide (R ++ fs) H) d v ∧ g d ρ = some ρ' ∧
  ∀ σ' fs', (∀ a ∈ fs', a ∈ fs) → Kp io σ σ' → SR X.K X.mg R τ' ρ' σ' H fs' → Q σ' H
abbrev DG (X : Cx) (io : List Nat) (target : Expr) (τ : List Ty) (g : Gf) (τ' : List Ty) : Prop := PG X target (tG X io τ g τ')
theorem pg_imp {X : Cx} {e : Expr} {t t' : TG} (h : PG X e t) (k : ∀ v σ H Q, t' v σ H Q → t v σ H Q) : PG X e t' := ⟨fun pins s σ H v u Q I r q => h.run pins s σ H v u Q I r (k v σ H Q q)⟩
def gNm (i : Nat) : Gf := fun d ρ => some (ρ.set i d)
theorem dg_name {io : List Nat} (i : Nat) {x : Str} (hN : X.N.Nodup) (hi : X.N[i]? = some x) (hx : Loc X.env.scope x) (ht : i < τ.length := by decide) (hio : i ∉ io := by decide) (hf : X.fn x = true ∨ X.env.scope.names.lookup x = some .local := by first | exact .inl rfl | exact .inr rfl | assumption) : DG X io (.Name x pos) τ (gNm i) (τ.set i .sh) := pg_imp (pg_name hN hi hx hf) fun v σ H Q ⟨R, ρ, fs, d, ρ', s, r, e, q⟩ => by
  cases e
  obtain ⟨fs', s', sub⟩ := SR.put (fv := []) (t := .sh) (d := d) (v := v) (i := i) s ht (.sh r)
  refine q _ fs' (fun a ha => by simpa using sub a ha) (fun j hj => ?_) s'
  exact List.getElem?_set_ne (i := i) (j := j) (fun z => hio (by rw [z]; exact hj))
def tGs (X : Cx) (io : List Nat) (τ : List Ty) (g : List D → Rho → Option Rho) (τ' : List Ty) : TGs := fun vs σ H Q => ∃ R ρ fs ds ρ', SR X.K X.mg R τ ρ σ H fs ∧ Rfs X.K X.mg (hide (R ++ fs) H) ds vs ∧ g ds ρ = some ρ' ∧
  ∀ σ' fs', (∀ a ∈ fs', a ∈ fs) → Kp io σ σ' → SR X.K X.mg R τ' ρ' σ' H fs' → Q σ' H
abbrev DGs (X : Cx) (io : List Nat) (ts : List Expr) (τ : List Ty) (g : List D → Rho → Option Rho) (τ' : List Ty) : Prop := PGs X ts (tGs X io τ g τ')
theorem pgs_imp {X : Cx} {e : List Expr} {t t' : TGs} (h : PGs X e t) (k : ∀ v σ H Q, t' v σ H Q → t v σ H Q) : PGs X e t' := ⟨fun pins s σ H v u Q I r q => h.run pins s σ H v u Q I r (k v σ H Q q)⟩
def gsNil : List D → Rho → Option Rho := fun ds ρ => match ds with
  | [] => some ρ
  | _ => none
def gsCons (g : Gf) (h : List D → Rho → Option Rho) : List D → Rho → Option Rho := fun ds ρ => match ds with
  | d :: r => (g d ρ).bind fun ρ' => h r ρ'
  | [] => none
theorem dgs_nil {io : List Nat} : DGs X io [] τ gsNil τ := pgs_imp pgs_nil fun v σ H Q ⟨R, ρ, fs, ds, ρ', s, r, e, q⟩ => by
  cases r with
  | nil => cases e; exact ⟨rfl, q σ fs (fun _ h => h) (Kp.refl _ _) s⟩
  | cons _ _ => cases e
theorem dgs_cons {io : List Nat} {g : Gf} {h : List D → Rho → Option Rho} (h1 : DG X io e τ g τ1) (h2 : DGs X io es τ1 h τ') (hs : (assignEach (e :: es) X.env).map (·.2) = assign e X.env :: (assignEach es X.env).map (·.2) := by rfl) : DGs X io (e :: es) τ (gsCons g h) τ' := pgs_imp (pgs_cons h1 h2 hs) fun v σ H Q ⟨R, ρ, fs, ds, ρ', s, r, e, q⟩ => by
  cases r with
  | nil => cases e
  | cons r rs =>
    obtain ⟨ρ1, e1, e2⟩ := bindO e
    refine ⟨_, _, rfl, R, ρ, fs, _, ρ1, s, r, e1, fun σ1 fs1 sub1 k1 s1 => ⟨R, ρ1, fs1, _, ρ', s1, rs.mono (hide_sub fun a ha => ?_), e2, fun σ2 fs2 sub2 k2 s2 => q σ2 fs2 (fun a ha => sub1 a (sub2 a ha)) (k1.trans k2) s2⟩⟩
    rcases List.mem_append.mp ha with z | z
    · exact List.mem_append_left _ z
    · exact List.mem_append_right _ (sub1 a z)
def gTp (g : List D → Rho → Option Rho) : Gf := fun d ρ => match d with
  | .tup ds => g ds ρ
  | _ => none
theorem gs_len {n : Nat} {io : List Nat} {g : List D → Rho → Option Rho} (hn : ∀ ds ρ ρ', g ds ρ = some ρ' → ds.length = n) {ds : List D} {ρ ρ' : Rho} (e : g ds ρ = some ρ') : ds.length = n := hn ds ρ ρ' e
theorem gsNil_len : ∀ ds ρ ρ', gsNil ds ρ = some ρ' → ds.length = 0 := fun ds ρ ρ' e => by
  cases ds with
  | nil => rfl
  | cons _ _ => cases e
theorem gsCons_len {g : Gf} {h : List D → Rho → Option Rho} {n : Nat} (k : ∀ ds ρ ρ', h ds ρ = some ρ' → ds.length = n) : ∀ ds ρ ρ', gsCons g h ds ρ = some ρ' → ds.length = n + 1 := fun ds ρ ρ' e => by
  cases ds with
  | nil => cases e
  | cons d r =>
    obtain ⟨ρ1, _, e2⟩ := bindO e
    simp [k _ _ _ e2]
theorem dg_tup {io : List Nat} {g : List D → Rho → Option Rho} {kk : Nat} {n : Nat} (hc : X.calm = true) (h : DGs X io es τ g τ') (hl : ∀ ds ρ ρ', g ds ρ = some ρ' → ds.length = n)
    (hn : (assignEach es X.env).length = n := by rfl) (hst : (assignEach es X.env).findIdx? (·.1) = none := by rfl) : DG X io (.Tuple es kk pos) τ (gTp g) τ' := pg_imp (pg_tup hc h hn hst) fun v σ H Q ⟨R, ρ, fs, d, ρ', s, r, e, q⟩ => by
  cases d with
  | tup ds =>
    cases r with
    | tup hT r => exact ⟨_, _, rfl, (hide_le _ _).seqT hT, by rw [← r.length]; exact hl _ _ _ e, R, ρ, fs, ds, ρ', s, r, e, q⟩
  | _ => cases e
/-! ### assignments -/
def sAsg (f : Ef) (g : Gf) : Sf := fun ρ => (f ρ).bind fun p => match p.1 with
  | .v d => (g d p.2).bind fun ρ' => some (.nx ρ')
  | _ => none
theorem sAsg_inv {f : Ef} {g : Gf} {ρ : Rho} {o : Out} (e : sAsg f g ρ = some o) : ∃ d ρ1 ρ', f ρ = some (.v d, ρ1) ∧ g d ρ1 = some ρ' ∧ o = .nx ρ' := by
  obtain ⟨p, e1, e2⟩ := bindO e
  obtain ⟨p1, p2⟩ := p
  cases p1 with
  | x i => cases e2
  | v d =>
    obtain ⟨ρ', e3, e4⟩ := bindO e2
    cases e4
    exact ⟨d, p2, ρ', e1, e3, rfl⟩
theorem tAsg_of {f : Ef} {g : Gf} : ∀ D σ H, tS X γ τ (sAsg f g) τ' D σ H → tAsg (tD X τ f) (tG X γ.io τ g τ') D σ H := fun D σ H ⟨R, ρ, fs, o, s, e, q⟩ => by
  obtain ⟨d, ρ1, ρ', e1, e2, rfl⟩ := sAsg_inv e
  exact ⟨R, ρ, fs, _, _, s, e1, fun v H1 fs1 t1 s1 r => ⟨R, ρ1, fs1, d, ρ', s1, r, e2, fun σ' fs' sub k s' => q σ' H1 fs' (t1.less sub) k s'⟩⟩
theorem ds_asg {f : Ef} {g : Gf} {tg : Expr} (he : DE X e τ f) (hg : DG X γ.io tg τ g τ') (hs : swapsWithSole [tg] e pos.line X.env = pure false := by rfl) (hw : swappedStores [tg] e X.env = pure none := by rfl)
    (h1 : (assignEach [tg] X.env).map (·.2) = [assign tg X.env] := by rfl) : DS X γ (.Assign [tg] e pos) τ (sAsg f g) τ' := ps_imp (ps_asg he hg hs hw h1) tAsg_of
theorem ds_set {f : Ef} {x : Str} {pos' : Pos} (i : Nat) (hN : X.N.Nodup) (hi : X.N[i]? = some x) (hx : Loc X.env.scope x) (he : DE X e τ f) (hs : swapsWith e (some (.Name x pos')) pos.line X.env = pure false := by rfl) (ht : i < τ.length := by decide) (hio : i ∉ γ.io := by decide) (hf : X.fn x = true ∨ X.env.scope.names.lookup x = some .local := by first | exact .inl rfl | exact .inr rfl | assumption) :
    DS X γ (.Assign [.Name x pos'] e pos) τ (sAsg f (gNm i)) (τ.set i .sh) := ps_imp (ps_set hN hi hx he hs hf) fun D σ H ⟨R, ρ, fs, o, s, e, q⟩ => by
  obtain ⟨d, ρ1, ρ', e1, e2, rfl⟩ := sAsg_inv e
  cases e2
  refine ⟨R, ρ, fs, _, _, s, e1, fun v H1 fs1 t1 s1 r => ?_⟩
  obtain ⟨fs', s', sub⟩ := SR.put (fv := []) (t := .sh) (d := d) (v := v) (i := i) s1 ht (.sh r)
  exact q _ H1 fs' (t1.less fun a ha => by simpa using sub a ha) (fun j hj => List.getElem?_set_ne (i := i) (j := j) (fun z => hio (by rw [z]; exact hj))) s'
/-! an owned value into a slot -/
def sSetO (i : Nat) (f : Of) : Sf := fun ρ => (f ρ).bind fun p => some (.nx (p.2.set i p.1))
theorem setO_of {f : Of} {t : Ty} (i : Nat) (ht : i < τ.length) (hio : i ∉ γ.io) : ∀ D σ H, tS X γ τ (sSetO i f) (τ.set i t) D σ H → tAsg (tO X τ f t) (gName i) D σ H := fun D σ H ⟨R, ρ, fs, o, s, e, q⟩ => by
  obtain ⟨p, e1, e2⟩ := bindO e
  cases e2
  refine ⟨R, ρ, fs, p.1, p.2, s, e1, fun v H1 fs1 fv t1 s1 r => ?_⟩
  obtain ⟨fs', s', sub⟩ := SR.put s1 ht r
  exact q _ H1 fs' (t1.less sub) (fun j hj => List.getElem?_set_ne (i := i) (j := j) (fun z => hio (by rw [z]; exact hj))) s'
theorem ds_setO {f : Of} {t : Ty} {x : Str} {pos' : Pos} (i : Nat) (hN : X.N.Nodup) (hi : X.N[i]? = some x) (hx : Loc X.env.scope x) (he : DO X e τ f t) (hs : swapsWith e (some (.Name x pos')) pos.line X.env = pure false := by rfl) (ht : i < τ.length := by decide) (hio : i ∉ γ.io := by decide) (hf : X.fn x = true ∨ X.env.scope.names.lookup x = some .local := by first | exact .inl rfl | exact .inr rfl | assumption) :
    DS X γ (.Assign [.Name x pos'] e pos) τ (sSetO i f) (τ.set i t) := ps_imp (ps_set hN hi hx he hs hf) (setO_of i ht hio)
/-! ### a list grows, an item is stored -/
def sApp (i : Nat) (f : Ef) : Sf := fun ρ => (f ρ).bind fun p => match p.1, p.2.getD i .non with
  | .v d, .lst l => if okLen (l.length + 1) then some (.nx (p.2.set i (.lst (l ++ [d])))) else none
  | _, _ => none
theorem SR.write {K : PySem.W.Frag} {mg : Str → Option Value} {R : List Addr} {ρ : Rho} {σ : L2.St} {H : Hp} {fs : List Addr} {i : Nat} {v : V} (s : SR K mg R τ ρ σ H fs) {t : Ty} (ht : τ[i]? = some t) {a0 : Addr} {f : List Addr} (ev : σ[i]? = some (some v)) {d : D} {f1 fo f2 : List Addr} (ef : fs = f1 ++ (a0 :: fo) ++ f2)
    {o : HO} {d' : D} (w : Own o) (h2 : ∀ {H' G' : Hp} {t' : Ty} {d' : D} {v' : V} {f' : List Addr}, (∀ a ∈ f1 ++ f2, H' a = H a) → Le (hide (R ++ fs) H) G' → σ[i]? = some (some v') → Rp K mg H' G' t' d' v' f' → Sl K mg H' G' (τ.set i t') (ρ.set i d') σ (f1 ++ f' ++ f2))
    (rp : Rp K mg (upd H a0 o) (hide (R ++ fs) (upd H a0 o)) t d' v (a0 :: fo)) : SR K mg R τ (ρ.set i d') σ (upd H a0 o) fs ∧ Step H (upd H a0 o) fs fs := by
  have nd := s.nd
  have ia : a0 ∈ fs := by rw [ef]; simp
  have nf : ∀ a ∈ f1 ++ f2, a ≠ a0 := fun a ha z => by
    subst z
    rw [ef] at nd
    simp only [List.nodup_append, List.mem_append, List.mem_cons] at nd
    rcases List.mem_append.mp ha with h | h
    · exact nd.2.1.1.2.2 a h a (.inl rfl) rfl
    · exact nd.2.1.2.2 a (.inr (.inl rfl)) a h rfl
  have nR : ∀ a ∈ R, a ≠ a0 := fun a ha z => by
    subst z
    exact (List.nodup_append.mp nd).2.2 a ha a ia rfl
  have le : Le (hide (R ++ fs) H) (hide (R ++ fs) (upd H a0 o)) := hide_mono fun a u n e => ⟨n, by
    rw [upd_ne fun z => n (by rw [z]; exact List.mem_append_right _ ia)]; exact e⟩
  have q := h2 (fun a ha => upd_ne (nf a ha)) le ev rp
  rw [set_at ht, ← ef] at q
  refine ⟨⟨q, nd, fun a ha => ?_⟩, ⟨fun a u n e => ?_, fun a ha => .inl ha, fun a u e => ?_⟩⟩
  · obtain ⟨u, e, w⟩ := s.al a ha
    exact ⟨u, by rw [upd_ne (nR a ha)]; exact e, w⟩
  · rw [upd_ne fun z => n (by rw [z]; exact ia)]; exact e
  · by_cases z : a = a0
    · exact ⟨o, by rw [z, upd_same]⟩
    · exact ⟨u, by rw [upd_ne z]; exact e⟩
theorem ds_app {f : Ef} {o : Expr} {apos cpos : Pos} (i : Nat) (ho : PE X o (tVar i)) (he : DE X e τ f) (ht : τ[i]? = some (.oL .sh) := by rfl) (hbase : attributeBase o "append" X.env (eval o X.env) = eval o X.env := by rfl)
    (hfew : ((backTo cpos (starEach [e] X.env)).all (fun x => !x.1) && (backToKw cpos (keywordEach [] X.env)).all (fun x => x.1.isSome)
      && decide ([e].length + ([] : List Keyword).length + (if ([] : List Keyword).isEmpty then 0 else 1) < 30)) = true := by rfl)
    (hline : (apos.endLine == cpos.line) = true := by rfl) (hs : starEach [e] X.env = (false, eval e X.env) :: starEach [] X.env := by rfl) :
    DS X γ (.Expr (.Call (.Attribute o "append" apos) [e] [] cpos) pos) τ (sApp i f) τ :=
  ps_imp (ps_expr (pe_bm PySem.F.plainAttrs_list PySem.F.slot_list_append PySem.F.type_list_append mt_append ho (pa_cons he pa_nil hs) hbase hfew hline hs rfl) rfl) fun D σ H ⟨R, ρ, fs, out, s, e, q⟩ => by
    obtain ⟨p, e1, e2⟩ := bindO e
    obtain ⟨p1, p2⟩ := p
    cases p1 with
    | x i => cases e2
    | v d =>
      obtain ⟨v0, f0, ev0, r0, _⟩ := s.get ht (by intro z; cases z)
      refine ⟨v0, ev0, ?_, R, ρ, fs, _, _, s, e1, fun v H1 fs1 t1 s1 r => ?_⟩
      · generalize ρ.getD i .non = d0 at r0
        cases r0 with
        | oL h _ => exact .inl ⟨rfl, _, .of h⟩
      · obtain ⟨f1, fo, f2, ef, hos, hl, _, h2, _⟩ := s1.sl.split ht
        rcases hos with ⟨z, _⟩ | ⟨v1, ev1, r1⟩
        · cases z
        rw [ev0] at ev1; cases ev1
        have e3 : (match p2.getD i .non with | .lst l => if okLen (l.length + 1) then some (Out.nx (p2.set i (.lst (l ++ [d])))) else none | _ => none) = some out := by
          revert e2
          cases p2.getD i .non <;> exact id
        clear e2
        revert r1 e3
        generalize p2.getD i .non = d0
        intro r1 e3
        cases r1 with
        | @oL t a vs ds g h rs =>
          obtain ⟨e4, e5⟩ := ifSome' e3
          cases e5
          obtain ⟨rf, eg⟩ := rs.to_sh
          subst eg
          have hl : vs.length < sizeLine := by
            rw [← rf.length]
            have := okLen_le e4
            omega
          refine ⟨a, vs, v, rfl, rfl, h, hl, ?_⟩
          have le : Le (hide (R ++ fs1) H1) (hide (R ++ fs1) (upd H1 a (.lst (vs ++ [v])))) := hide_mono fun b u n e => ⟨n, by
            rw [upd_ne fun z => n (by rw [z, ef]; simp)]; exact e⟩
          obtain ⟨sn, tn⟩ := s1.write ht (f := []) ev0 (d := d) ef (o := .lst (vs ++ [v])) (d' := .lst (ds ++ [d])) trivial h2 (.oL upd_same (Rps.of_sh ((rf.append (.one r)).mono le)))
          exact q σ _ fs1 (t1.trans tn) (Kp.refl _ _) sn
end
end TL

namespace TL
open PySem PySem.Spec PyProof.Rows L2

/-! ### walks -/
abbrev Itf := Rho → Option (List D × Rho)
def Walks (K : PySem.W.Frag) (mg : Str → Option Value) (J : It) (ds : List D) (G : Hp) : Prop := ∀ (i : Nat) (S : List Addr) (H : Hp), (∀ a ∈ S, ∃ o, H a = some o ∧ Own o) → Le G (hide S H) →
  (∀ d, ds[i]? = some d → J.go i H ∧ ∀ x H', J.yld i H x H' → Grow H H' ∧ Rf K mg (hide S H') d x) ∧ (ds.length ≤ i → J.stop i H)
def tI (X : Cx) (τ : List Ty) (it : Itf) : TI := fun σ H Q => ∃ R ρ fs ds ρ', SR X.K X.mg R τ ρ σ H fs ∧ it ρ = some (ds, ρ') ∧
  ∀ J H' fs', Step H H' fs fs' → SR X.K X.mg R τ ρ' σ H' fs' → Walks X.K X.mg J ds (hide (R ++ fs') H') → Q J H'
abbrev DI (X : Cx) (tg iter : Expr) (τ : List Ty) (it : Itf) : Prop := PI X tg iter (tI X τ it)
theorem pi_imp {X : Cx} {tg e : Expr} {t t' : TI} (h : PI X tg e t) (k : ∀ σ H Q, t' σ H Q → t σ H Q) : PI X tg e t' := ⟨fun pins s σ H R I q => h.run pins s σ H R I (k σ H R q)⟩
theorem pi_or {X : Cx} {tg e : Expr} {t t' : TI} (h : PI X tg e t) (h' : PI X tg e t') : PI X tg e (fun σ H Q => t σ H Q ∨ t' σ H Q) := ⟨fun pins s σ H R I q => q.elim (h.run pins s σ H R I) (h'.run pins s σ H R I)⟩
theorem walks_list {K : PySem.W.Frag} {mg : Str → Option Value} {G : Hp} {a : Addr} {vs : List V} {ds : List D} (h : G a = some (.lst vs)) (r : Rfs K mg G ds vs) : Walks K mg (Itl K a) ds G := fun i S H al le => by
  have hH : H a = some (.lst vs) := hide_le _ _ _ _ (le _ _ h)
  refine ⟨fun d e => ?_, fun e => ⟨vs, .of hH, by rw [← r.length]; exact e⟩⟩
  obtain ⟨v, ev, rv⟩ := r.get e
  refine ⟨⟨vs, v, .of hH, ev⟩, fun x H' ⟨e1, e2⟩ => ?_⟩
  subst e1
  have := e2 vs (.of hH)
  rw [ev] at this; cases this
  exact ⟨Grow.refl _, rv.mono le⟩
theorem walks_tup {K : PySem.W.Frag} {mg : Str → Option Value} {G : Hp} {a : Addr} {vs : List V} {ds : List D} (h : SqT K G a vs) (r : Rfs K mg G ds vs) : Walks K mg (Itt K a) ds G := fun i S H al le => by
  have hH : SqT K H a vs := (hide_le S H).seqT (le.seqT h)
  refine ⟨fun d e => ?_, fun e => ⟨vs, hH, by rw [← r.length]; exact e⟩⟩
  obtain ⟨v, ev, rv⟩ := r.get e
  refine ⟨⟨vs, v, hH, ev⟩, fun x H' ⟨e1, e2⟩ => ?_⟩
  subst e1
  have := e2 vs hH
  rw [ev] at this; cases this
  exact ⟨Grow.refl _, rv.mono le⟩
def seqD : Hd → Option (List D)
  | .v (.lst l) => some l
  | .v (.tup l) => some l
  | _ => none
def iSeq (f : Ef) : Itf := fun ρ => (f ρ).bind fun p => (seqD p.1).bind fun l => some (l, p.2)
section
variable {X : Cx} {γ : Gm} {τ τ1 τ' : List Ty} {tg a b c e : Expr} {es : List Expr} {pos p : Pos}
theorem di_seq {f : Ef} (h : DE X e τ f) : DI X tg e τ (iSeq f) := pi_imp (pi_or (pi_list h) (pi_tup h)) fun σ H Q ⟨R, ρ, fs, ds, ρ', s, e, q⟩ => by
  obtain ⟨p, e1, e2⟩ := bindO e
  obtain ⟨l, e3, e4⟩ := bindO e2
  cases e4
  obtain ⟨p1, p2⟩ := p
  cases p1 with
  | x i => cases e3
  | v d =>
    cases d with
    | lst l =>
      cases e3
      refine .inl ⟨R, ρ, fs, _, _, s, e1, fun v H' fs' t s' r => ?_⟩
      cases r with
      | lst h r => exact ⟨_, rfl, ⟨_, .of (hide_le _ _ _ _ h)⟩, q _ H' fs' t s' (walks_list h r)⟩
    | tup l =>
      cases e3
      refine .inr ⟨R, ρ, fs, _, _, s, e1, fun v H' fs' t s' r => ?_⟩
      cases r with
      | tup h r => exact ⟨_, rfl, ⟨_, (hide_le _ _).seqT h⟩, q _ H' fs' t s' (walks_tup h r)⟩
    | _ => cases e3
def intsD (lo : Int) (n : Nat) : List D := (List.range n).map fun i => D.int (lo + (i : Nat))
def small62 (i : Int) : Bool := Nat.ble i.natAbs 4611686018427387903
theorem walks_range {K : PySem.W.Frag} {mg : Str → Option Value} {G : Hp} (lo : Int) (n : Nat) : Walks K mg (Itr lo n) (intsD lo n) G := fun i S H al le => by
  refine ⟨fun d e => ?_, fun e => show n ≤ i by simpa [intsD] using e⟩
  unfold intsD at e
  rw [List.getElem?_map] at e
  by_cases hi : i < n
  · rw [List.getElem?_range hi] at e
    cases e
    refine ⟨hi, fun x H' ⟨e1, e2⟩ => ?_⟩
    subst e1; subst e2
    exact ⟨Grow.refl _, .int _⟩
  · rw [List.getElem?_eq_none (by simpa using hi)] at e
    cases e
def iRng1 (f : Af) : Itf := fun ρ => (f ρ).bind fun p => match p.1 with
  | [.v (.int j)] => if small62 j then some (intsD 0 j.toNat, p.2) else none
  | _ => none
def iRng2 (f : Af) : Itf := fun ρ => (f ρ).bind fun p => match p.1 with
  | [.v (.int i), .v (.int j)] => if small62 i && small62 j then some (intsD i (j - i).toNat, p.2) else none
  | _ => none
theorem small62_of {i : Int} (h : small62 i = true) : -(2 ^ 62) ≤ i ∧ i < 2 ^ 62 := by
  have h1 : i.natAbs ≤ 4611686018427387903 := Nat.le_of_ble_eq_true h
  have e : (2 : Int) ^ 62 = 4611686018427387904 := by decide
  rw [e]
  omega
theorem di_range1 {f : Af} (hg : Gl X "range") (hm : X.mg "range" = none) (ha : DA X [a] τ f) (hs : starEach [a] X.env = [(false, eval a X.env)] := by rfl) : DI X tg (.Call (.Name "range" p) [a] [] pos) τ (TL.iRng1 f) := pi_imp (pi_range1 hg hm ha hs) fun σ H Q ⟨R, ρ, fs, ds, ρ', s, e, q⟩ => by
  obtain ⟨w, e1, e2⟩ := bindO e
  obtain ⟨w1, w2⟩ := w
  simp only at e2
  split at e2
  · obtain ⟨e3, e4⟩ := ifSome' e2
    cases e4
    refine ⟨R, ρ, fs, _, _, s, e1, fun vs H' fs' t s' r => ?_⟩
    cases r with
    | cons r rs =>
      cases r
      cases rs
      exact ⟨_, rfl, (small62_of e3).1, (small62_of e3).2, q _ H' fs' t s' (walks_range 0 _)⟩
  · cases e2
theorem di_range2 {f : Af} (hg : Gl X "range") (hm : X.mg "range" = none) (ha : DA X [a, b] τ f) (hs : starEach [a, b] X.env = [(false, eval a X.env), (false, eval b X.env)] := by rfl) (hs2 : starEach [b] X.env = [(false, eval b X.env)] := by rfl) : DI X tg (.Call (.Name "range" p) [a, b] [] pos) τ (TL.iRng2 f) := pi_imp (pi_range2 hg hm ha hs hs2) fun σ H Q ⟨R, ρ, fs, ds, ρ', s, e, q⟩ => by
  obtain ⟨w, e1, e2⟩ := bindO e
  obtain ⟨w1, w2⟩ := w
  simp only at e2
  split at e2
  · obtain ⟨e3, e4⟩ := ifSome' e2
    cases e4
    rw [Bool.and_eq_true] at e3
    refine ⟨R, ρ, fs, _, _, s, e1, fun vs H' fs' t s' r => ?_⟩
    cases r with
    | cons r rs =>
      cases r
      cases rs with
      | cons r rs =>
        cases r
        cases rs
        exact ⟨_, _, rfl, ⟨(small62_of e3.1).1, (small62_of e3.1).2, (small62_of e3.2).1, (small62_of e3.2).2⟩, q _ H' fs' t s' (walks_range _ _)⟩
  · cases e2

/-! ### for -/
def loopF (b : D → Rho → Option Out) (ks : List Nat) : List D → Rho → Option Out
  | [], ρ => some (.nx ρ)
  | d :: ds, ρ => (b d ρ).bind fun o => match o with
    | .nx ρ' => loopF b ks ds (kill ks ρ')
    | .ct ρ' => loopF b ks ds (kill ks ρ')
    | .bk ρ' => some (.nx (kill ks ρ'))
    | .rt d ρ' => some (.rt d ρ')
def sFor (ks : List Nat) (it : Itf) (g : Gf) (b : Sf) : Sf := fun ρ => (it ρ).bind fun p => loopF (fun d ρ => (g d ρ).bind b) ks p.1 (kill ks p.2)
theorem drop_get {α : Type} {l : List α} {i : Nat} {a : α} (h : l[i]? = some a) : l.drop i = a :: l.drop (i + 1) := by
  obtain ⟨hi, e⟩ := List.getElem?_eq_some_iff.mp h
  rw [List.drop_eq_getElem_cons hi, e]
theorem ds_for {it : Itf} {g : Gf} {bf : Sf} {iter : Expr} {body : List Stmt} {τg τb tbk tct : List Ty} (ks : List Nat) (hp : PassesOwn (model X.prog X.w) X.A X.env X.xe) (hc : X.calm = true) (hi : DI X tg iter τ it)
    (hg : DG X γ.io tg (killT ks τ) g τg) (hb : DSs X { γ with bk := tbk, ct := tct } body τg bf τb) (h1 : killT ks τb = killT ks τ := by rfl) (h2 : killT ks tbk = killT ks τ := by rfl) (h3 : killT ks tct = killT ks τ := by rfl)
    (hs : ∀ x, foldedSetIterable iter X.env x = pure x := by intro _; rfl) : DS X γ (.For tg iter body [] pos) τ (sFor ks it g bf) (killT ks τ) := ps_imp (ps_for hp hc hi hg hb hs) fun D σ0 H0 ⟨R, ρ0, fs0, out, s0, e, q⟩ => by
  obtain ⟨w, e1, e2⟩ := bindO e
  refine ⟨R, ρ0, fs0, w.1, w.2, s0, e1, fun J H1 fs1' t1' s1' wk => ?_⟩
  obtain ⟨fs1, s1, sub1⟩ := s1'.killS ks
  have t1 := t1'.less sub1
  have wk1 : Walks X.K X.mg J w.1 (hide (R ++ fs1') H1) := wk
  have q1 : Post X γ D R σ0 H1 fs1 (killT ks τ) out := q.mono t1 (Kp.refl _ _) (fun ρ' σ' H' fs' eo t' k' s' => by subst eo; exact q σ' H' fs' t' k' s') rfl rfl rfl
  refine ⟨fun i m σ H => ∃ ρ fs, Step H1 H fs1 fs ∧ Kp γ.io σ0 σ ∧ SR X.K X.mg R (killT ks τ) ρ σ H fs ∧ Le (hide (R ++ fs1') H1) (hide (R ++ fs) H) ∧ loopF (fun d ρ => (g d ρ).bind bf) ks (w.1.drop i) ρ = some out ∧ m + i = w.1.length,
    ⟨w.1.length, _, fs1, Step.refl _ _, Kp.refl _ _, s1, hide_sub (fun a ha => ?_), by simpa using e2, by omega⟩, fun i m σ H ⟨ρ, fs, t, k, s, le, el, em⟩ => ?_⟩
  · rcases List.mem_append.mp ha with z | z
    · exact List.mem_append_left _ z
    · exact List.mem_append_right _ (sub1 a z)
  · obtain ⟨wgo, wst⟩ := wk1 i (R ++ fs) H s.own le
    by_cases hi : i < w.1.length
    · have ed := List.getElem?_eq_getElem hi
      generalize w.1[i] = d at ed
      rw [drop_get ed] at el
      obtain ⟨o, eb, eo⟩ := bindO (show ((g d ρ).bind bf).bind _ = some out from el)
      obtain ⟨ρ1, eg, eb⟩ := bindO eb
      obtain ⟨go, yl⟩ := wgo d ed
      refine .inr ⟨go, fun σ' H' => ∃ ρ' fs', Step H1 H' fs1 fs' ∧ Kp γ.io σ0 σ' ∧ SR X.K X.mg R (killT ks τ) ρ' σ' H' fs' ∧ Le (hide (R ++ fs1') H1) (hide (R ++ fs') H') ∧ loopF (fun d ρ => (g d ρ).bind bf) ks (w.1.drop (i + 1)) ρ' = some out,
        fun σ' H' ⟨ρ', fs', a1, a2, a3, a4, a5⟩ => ⟨m - 1, by omega, ρ', fs', a1, a2, a3, a4, a5, by omega⟩, fun x H' hy => ?_⟩
      obtain ⟨gr, rf⟩ := yl x H' hy
      refine ⟨R, ρ, fs, d, ρ1, s.grow gr, rf, eg, fun σ2 fs2 sub2 k2 s2 => ?_⟩
      have t2 : Step H H' fs fs2 := (Step.grow gr fs).less sub2
      have le2 : Le (hide (R ++ fs1') H1) (hide (R ++ fs2) H') := le.trans (s.le t2)
      refine ⟨R, ρ1, fs2, o, s2, eb, ?_⟩
      have fin : ∀ {τx : List Ty} {ρ' : Rho} {σ' : L2.St} {H'' : Hp} {fs' : List Addr}, killT ks τx = killT ks τ → Step H' H'' fs2 fs' → Kp γ.io σ2 σ' → SR X.K X.mg R τx ρ' σ' H'' fs' →
          ∃ fs'', Step H1 H'' fs1 fs'' ∧ Kp γ.io σ0 σ' ∧ SR X.K X.mg R (killT ks τ) (kill ks ρ') σ' H'' fs'' ∧ Le (hide (R ++ fs1') H1) (hide (R ++ fs'') H'') := fun hx t3 k3 s3 => by
        obtain ⟨fs4, s4, sub4⟩ := s3.killS ks
        rw [hx] at s4
        exact ⟨fs4, (t.trans t2).trans (t3.less sub4), (k.trans k2).trans k3, s4, le2.trans (s2.le (t3.less sub4))⟩
      cases o with
      | nx ρ2 =>
        exact fun σ' H'' fs' t3 k3 s3 => by
          obtain ⟨fs4, a1, a2, a3, a4⟩ := fin h1 t3 k3 s3
          exact ⟨_, fs4, a1, a2, a3, a4, eo⟩
      | ct ρ2 =>
        exact fun σ' H'' fs' t3 k3 s3 => by
          obtain ⟨fs4, a1, a2, a3, a4⟩ := fin h3 t3 k3 s3
          exact ⟨_, fs4, a1, a2, a3, a4, eo⟩
      | bk ρ2 =>
        cases eo
        exact fun σ' H'' fs' t3 k3 s3 => by
          obtain ⟨fs4, a1, a2, a3, a4⟩ := fin h2 t3 k3 s3
          exact q1 σ' H'' fs4 a1 a2 a3
      | rt d ρ2 =>
        cases eo
        exact fun v σ' H'' fs' fv t3 k3 s3 r3 => q1 v σ' H'' fs' fv ((t.trans t2).trans t3) ((k.trans k2).trans k3) s3 r3
    · rw [List.drop_eq_nil_of_le (by omega)] at el
      cases el
      exact .inl ⟨wst (by omega), q1 σ H fs t k s⟩
/-! ### while -/
def loopW (t : Tf) (b : Sf) (ks : List Nat) : Nat → Rho → Option Out
  | 0, _ => none
  | n + 1, ρ => (t ρ).bind fun p => if p.1 then (b p.2).bind fun o => match o with
      | .nx ρ' => loopW t b ks n (kill ks ρ')
      | .ct ρ' => loopW t b ks n (kill ks ρ')
      | .bk ρ' => some (.nx (kill ks ρ'))
      | .rt d ρ' => some (.rt d ρ')
    else some (.nx p.2)
def sWhile (n : Nat) (ks : List Nat) (t : Tf) (b : Sf) : Sf := fun ρ => loopW t b ks n (kill ks ρ)
theorem ds_while {t : Tf} {bf : Sf} {body : List Stmt} {τb tbk tct : List Ty} (n : Nat) (ks : List Nat) (hp : PassesOwn (model X.prog X.w) X.A X.env X.xe) (hc : DT X c (killT ks τ) t)
    (hb : DSs X { γ with bk := tbk, ct := tct } body (killT ks τ) bf τb) (h1 : killT ks τb = killT ks τ := by rfl) (h2 : killT ks tbk = killT ks τ := by rfl) (h3 : killT ks tct = killT ks τ := by rfl) :
    DS X γ (.While c body [] pos) τ (sWhile n ks t bf) (killT ks τ) := ps_imp (ps_while hp hc hb) fun D σ0 H0 ⟨R, ρ0, fs0, out, s0, e, q⟩ => by
  obtain ⟨fs1, s1, sub1⟩ := s0.killS ks
  have q1 : Post X γ D R σ0 H0 fs1 (killT ks τ) out := q.mono ((Step.refl H0 fs0).less sub1) (Kp.refl _ _) (fun ρ' σ' H' fs' eo t' k' s' => by subst eo; exact q σ' H' fs' t' k' s') rfl rfl rfl
  refine ⟨fun m σ H => ∃ ρ fs, Step H0 H fs1 fs ∧ Kp γ.io σ0 σ ∧ SR X.K X.mg R (killT ks τ) ρ σ H fs ∧ loopW t bf ks m ρ = some out, ⟨n, _, fs1, Step.refl _ _, Kp.refl _ _, s1, e⟩, fun m σ H ⟨ρ, fs, st, k, s, el⟩ => ?_⟩
  cases m with
  | zero => cases el
  | succ m =>
    obtain ⟨p, e1, e2⟩ := bindO (show (t ρ).bind _ = some out from el)
    refine ⟨R, ρ, fs, p.1, p.2, s, e1, fun H1 fs2 t2 s2 => ?_⟩
    cases hp : p.1 with
    | false =>
      rw [hp] at e2
      cases e2
      exact iteF (q1 σ H1 fs2 (st.trans t2) k s2)
    | true =>
      rw [hp, if_pos rfl] at e2
      obtain ⟨o, eb, eo⟩ := bindO e2
      refine iteT ⟨fun σ' H' => ∃ ρ' fs', Step H0 H' fs1 fs' ∧ Kp γ.io σ0 σ' ∧ SR X.K X.mg R (killT ks τ) ρ' σ' H' fs' ∧ loopW t bf ks m ρ' = some out, fun σ' H' ⟨ρ', fs', a1, a2, a3, a4⟩ => ⟨m, by omega, ρ', fs', a1, a2, a3, a4⟩, R, p.2, fs2, o, s2, eb, ?_⟩
      have fin : ∀ {τx : List Ty} {ρ' : Rho} {σ' : L2.St} {H'' : Hp} {fs' : List Addr}, killT ks τx = killT ks τ → Step H1 H'' fs2 fs' → Kp γ.io σ σ' → SR X.K X.mg R τx ρ' σ' H'' fs' →
          ∃ fs'', Step H0 H'' fs1 fs'' ∧ Kp γ.io σ0 σ' ∧ SR X.K X.mg R (killT ks τ) (kill ks ρ') σ' H'' fs'' := fun hx t3 k3 s3 => by
        obtain ⟨fs4, s4, sub4⟩ := s3.killS ks
        rw [hx] at s4
        exact ⟨fs4, (st.trans t2).trans (t3.less sub4), k.trans k3, s4⟩
      cases o with
      | nx ρ2 =>
        exact fun σ' H'' fs' t3 k3 s3 => by
          obtain ⟨fs4, a1, a2, a3⟩ := fin h1 t3 k3 s3
          exact ⟨_, fs4, a1, a2, a3, eo⟩
      | ct ρ2 =>
        exact fun σ' H'' fs' t3 k3 s3 => by
          obtain ⟨fs4, a1, a2, a3⟩ := fin h3 t3 k3 s3
          exact ⟨_, fs4, a1, a2, a3, eo⟩
      | bk ρ2 =>
        cases eo
        exact fun σ' H'' fs' t3 k3 s3 => by
          obtain ⟨fs4, a1, a2, a3⟩ := fin h2 t3 k3 s3
          exact q1 σ' H'' fs4 a1 a2 a3
      | rt d ρ2 =>
        cases eo
        exact fun v σ' H'' fs' fv t3 k3 s3 r3 => q1 v σ' H'' fs' fv ((st.trans t2).trans t3) (k.trans k3) s3 r3
end

/-! ### slots that do not matter -/
section
variable {K : PySem.W.Frag} {mg : Str → Option Value} {H G : Hp}
theorem Sl.congr : ∀ {τ : List Ty} {ρ ρ' : Rho} {σ σ' : L2.St} {f : List Addr}, Sl K mg H G τ ρ σ f → ρ'.length = ρ.length → σ'.length = σ.length → (∀ (i : Nat) (t : Ty), τ[i]? = some t → t ≠ .no → ρ'[i]? = ρ[i]? ∧ σ'[i]? = σ[i]?) → Sl K mg H G τ ρ' σ' f
  | _, _, ρ', _, σ', _, .nil, h1, h2, _ => by
    have e1 : ρ' = [] := List.length_eq_zero_iff.mp h1
    have e2 : σ' = [] := List.length_eq_zero_iff.mp h2
    subst e1; subst e2; exact .nil
  | _, _, ρ', _, σ', _, .no r, h1, h2, k => by
    cases ρ' with
    | nil => simp at h1
    | cons d ρ' =>
      cases σ' with
      | nil => simp at h2
      | cons v σ' => exact .no (Sl.congr r (by simpa using h1) (by simpa using h2) fun i t e n => by simpa using k (i + 1) t (by simpa using e) n)
  | _, _, ρ', _, σ', _, .cons (t := t) h r, h1, h2, k => by
    cases ρ' with
    | nil => simp at h1
    | cons d ρ' =>
      cases σ' with
      | nil => simp at h2
      | cons v σ' =>
        have k0 := k 0 t rfl (by intro z; subst z; cases h)
        simp at k0
        obtain ⟨rfl, rfl⟩ := k0
        exact .cons h (Sl.congr r (by simpa using h1) (by simpa using h2) fun i t e n => by simpa using k (i + 1) t (by simpa using e) n)
end
theorem wipe_in {σ : L2.St} {i : Nat} : ∀ {vs : List Nat}, i ∈ vs → i < σ.length → (wipe σ vs)[i]? = some none
  | v :: vs, h, hl => by
    show ((wipe σ vs).set v none)[i]? = some none
    by_cases e : v = i
    · subst e
      rw [List.getElem?_set_self (by rw [wipe_length]; exact hl)]
    · rw [List.getElem?_set_ne e]
      exact wipe_in ((List.mem_cons.mp h).resolve_left (fun z => e z.symm)) hl
/-! ### list comprehensions -/
def oE (f : Ef) : Of := fun ρ => (f ρ).bind fun p => match p.1 with
  | .v d => some (d, p.2)
  | _ => none
theorem do_E {X : Cx} {τ : List Ty} {e : Expr} {f : Ef} (h : DE X e τ f) : DO X e τ (oE f) .sh := pe_imp h fun σ H Q ⟨R, ρ, fs, d, ρ', s, e, q⟩ => by
  obtain ⟨p, e1, e2⟩ := bindO e
  obtain ⟨p1, p2⟩ := p
  cases p1 with
  | x i => cases e2
  | v d => cases e2; exact ⟨R, ρ, fs, _, _, s, e1, fun v H' fs' t s' r => q v H' fs' [] t s' (.sh r)⟩
def stepLc (own : List Nat) (g : Gf) (tt : Tf) (el : Of) (d : D) (ρ : Rho) : Option (Option D × Rho) := (g d ρ).bind fun ρ1 => (tt ρ1).bind fun p => if p.1 then (el p.2).bind fun q => some (some q.1, kill own q.2) else some (none, kill own p.2)
def lcF (step : D → Rho → Option (Option D × Rho)) : List D → Rho → Option (List D × Rho)
  | [], ρ => some ([], ρ)
  | d :: r, ρ => (step d ρ).bind fun q => (lcF step r q.2).bind fun w => some (q.1.toList ++ w.1, w.2)
def oLc (own : List Nat) (it : Itf) (g : Gf) (tt : Tf) (el : Of) : Of := fun ρ => (it ρ).bind fun p => if okLen p.1.length then (lcF (stepLc own g tt el) p.1 p.2).bind fun r => some (.lst r.1, r.2) else none
def isNo : Option Ty → Bool
  | some .no => true
  | _ => false
def allNo (τ : List Ty) (own : List Nat) : Bool := own.all fun i => isNo τ[i]?
theorem allNo_ok {τ : List Ty} {own : List Nat} (h : allNo τ own = true) : ∀ i ∈ own, τ[i]? = some .no := fun i hi => by
  have := List.all_eq_true.mp h i hi
  revert this
  generalize τ[i]? = o
  intro q
  cases o with
  | none => cases q
  | some t => cases t <;> first | rfl | cases q
def others (n : Nat) (own : List Nat) : List Nat := (List.range n).filter fun i => !own.contains i
def tYesF : Tf := fun ρ => some (true, ρ)
abbrev DTs (X : Cx) (ifs : List Expr) (τ : List Ty) (f : Tf) : Prop := PTs X ifs (tT X τ f)
theorem pts_imp {X : Cx} {e : List Expr} {t t' : TT} (h : PTs X e t) (k : ∀ σ H Q, t' σ H Q → t σ H Q) : PTs X e t' := ⟨fun pins s σ H Q I q => h.run pins s σ H Q I (k σ H Q q)⟩
theorem dts_nil {X : Cx} {τ : List Ty} : DTs X [] τ tYesF := pts_imp pts_nil fun σ H Q ⟨R, ρ, fs, b, ρ', s, e, q⟩ => by
  cases e
  exact q H fs (Step.refl H fs) s
theorem dts_one {X : Cx} {τ : List Ty} {c : Expr} {f : Tf} (h : DT X c τ f) : DTs X [c] τ f := pts_one h
theorem SR.updR {K : PySem.W.Frag} {mg : Str → Option Value} {R : List Addr} {τ : List Ty} {ρ : Rho} {σ : L2.St} {H : Hp} {fs : List Addr} {a : Addr} {o : HO} (s : SR K mg R τ ρ σ H fs) (ha : a ∈ R) (w : Own o) : SR K mg R τ ρ σ (upd H a o) fs := by
  have nd := s.nd
  refine ⟨s.sl.mono (hide_mono fun b u n e => ⟨n, by rw [upd_ne fun z => n (by rw [z]; exact List.mem_append_left _ ha)]; exact e⟩) fun b hb => upd_ne fun z => (List.nodup_append.mp nd).2.2 a ha b hb z.symm, nd, fun b hb => ?_⟩
  by_cases z : b = a
  · exact ⟨o, by rw [z, upd_same], w⟩
  · obtain ⟨u, e, w'⟩ := s.al b hb
    exact ⟨u, by rw [upd_ne z]; exact e, w'⟩
theorem Rps.snoc {K : PySem.W.Frag} {mg : Str → Option Value} {H G : Hp} : ∀ {ts : List Ty} {ds : List D} {vs : List V} {f : List Addr} {t : Ty} {d : D} {v : V} {g : List Addr}, Rps K mg H G ts ds vs f → Rp K mg H G t d v g → Rps K mg H G (ts ++ [t]) (ds ++ [d]) (vs ++ [v]) (f ++ g)
  | _, _, _, _, _, _, _, g, .nil, h => by
    have := Rps.cons h .nil
    simpa using this
  | _, _, _, _, _, _, _, g, .cons (f := f0) (g := g0) q r, h => by
    have := Rps.cons q (Rps.snoc r h)
    simpa [List.append_assoc] using this
theorem Rps.len {K : PySem.W.Frag} {mg : Str → Option Value} {H G : Hp} : ∀ {ts : List Ty} {ds : List D} {vs : List V} {f : List Addr}, Rps K mg H G ts ds vs f → ds.length = vs.length
  | _, _, _, _, .nil => rfl
  | _, _, _, _, .cons _ r => by simp [Rps.len r]
section
variable {X : Cx} {γ : Gm} {τ τ1 τ' : List Ty} {tg a b c elt iter : Expr} {ifs : List Expr} {es : List Expr} {pos p : Pos}
/-- the reading of a comprehension -/
theorem tLc_of {it : Itf} {g : Gf} {tt : Tf} {el : Of} {t : Ty} {τg : List Ty} (own : List Nat) (hown : ∀ i ∈ own, τ[i]? = some .no) (hlen : τg.length = τ.length) (hkg : killT own τg = τ) : ∀ σ H Q, tO X τ (oLc own it g tt el) (.oL t) σ H Q →
    tLc (tI X τ it) (tG X (others τ.length own) τ g τg) (tT X τg tt) (tO X τg el t) own σ H Q := fun σ0 H0 Q ⟨R, ρ0, fs0, dd, ρe, s0, e, q⟩ => by
  obtain ⟨w, e1, e2⟩ := bindO e
  obtain ⟨e3, e4⟩ : okLen w.1.length = true ∧ ((lcF (stepLc own g tt el) w.1 w.2).bind fun r => some (D.lst r.1, r.2)) = some (dd, ρe) := by
    by_cases h : okLen w.1.length = true
    · rw [if_pos h] at e2; exact ⟨h, e2⟩
    · rw [if_neg h] at e2; cases e2
  obtain ⟨res, e5, e6⟩ := bindO e4
  cases e6
  refine ⟨R, ρ0, fs0, w.1, w.2, s0, e1, fun J H1 fs1 t1 s1 wk => fun Dd hD => ?_⟩
  obtain ⟨n1, n2, n3⟩ := s1.newL (p := Dd) (vs := []) (ds := []) hD .nil
  have hlσ : ∀ {R' : List Addr} {ρ' : Rho} {H' : Hp} {fs' : List Addr} {σ' : L2.St} {τx : List Ty}, SR X.K X.mg R' τx ρ' σ' H' fs' → σ'.length = τx.length := fun s => by
    have := s.sl.len
    omega
  refine ⟨fun i m H => ∃ ρ fs gs accd acc rest, Step H1 H fs1 ((Dd :: gs) ++ fs) ∧ SR X.K X.mg ((Dd :: gs) ++ R) τ ρ σ0 H fs ∧ Le (hide (R ++ fs1) H1) (hide ((Dd :: gs) ++ R ++ fs) H) ∧ H Dd = some (.lst acc) ∧
      Rps X.K X.mg H (hide ((Dd :: gs) ++ R ++ fs) H) (List.replicate accd.length t) accd acc gs ∧ lcF (stepLc own g tt el) (w.1.drop i) ρ = some rest ∧ accd ++ rest.1 = res.1 ∧ rest.2 = res.2 ∧ accd.length ≤ i ∧ m + i = w.1.length,
    ⟨w.1.length, w.2, fs1, [], [], [], res, n3, n1, ?_, upd_same, .nil, by simpa using e5, rfl, rfl, Nat.le_refl _, by omega⟩, fun i m H ⟨ρ, fs, gs, accd, acc, rest, tS, s, le, hDd, rps, el1, er1, er2, ei, em⟩ => ?_⟩
  · exact hide_upd' hD fun a z => by simpa using z
  · obtain ⟨wgo, wst⟩ := wk i ((Dd :: gs) ++ R ++ fs) H s.own le
    by_cases hi : i < w.1.length
    · have ed := List.getElem?_eq_getElem hi
      generalize w.1[i] = d at ed
      rw [drop_get ed] at el1
      obtain ⟨st, es1, es2⟩ := bindO (show (stepLc own g tt el d ρ).bind _ = some rest from el1)
      obtain ⟨rest', es3, es4⟩ := bindO es2
      obtain ⟨ρ1, eg, es5⟩ := bindO (show (g d ρ).bind _ = some st from es1)
      obtain ⟨pt, et, es6⟩ := bindO es5
      obtain ⟨go, yl⟩ := wgo d ed
      refine .inr ⟨go, fun H' => ∃ ρ fs gs accd acc rest, Step H1 H' fs1 ((Dd :: gs) ++ fs) ∧ SR X.K X.mg ((Dd :: gs) ++ R) τ ρ σ0 H' fs ∧ Le (hide (R ++ fs1) H1) (hide ((Dd :: gs) ++ R ++ fs) H') ∧ H' Dd = some (.lst acc) ∧
          Rps X.K X.mg H' (hide ((Dd :: gs) ++ R ++ fs) H') (List.replicate accd.length t) accd acc gs ∧ lcF (stepLc own g tt el) (w.1.drop (i + 1)) ρ = some rest ∧ accd ++ rest.1 = res.1 ∧ rest.2 = res.2 ∧ accd.length ≤ i + 1,
        fun H' ⟨a0, a1, a2, a3, a4, a5, a6, a7, a8, a9, a10, a11, a12, a13, a14⟩ => ⟨m - 1, by omega, a0, a1, a2, a3, a4, a5, a6, a7, a8, a9, a10, a11, a12, a13, a14, by omega⟩, fun x H' hy => ?_⟩
      obtain ⟨gr, rf⟩ := yl x H' hy
      have sw : SR X.K X.mg ((Dd :: gs) ++ R) τ ρ (wipe σ0 own) H' fs := by
        have s' := s.grow gr
        refine ⟨s'.sl.congr rfl (wipe_length _ _) fun j tj ej nj => ⟨rfl, ?_⟩, s'.nd, s'.al⟩
        exact wipe_out fun z => by rw [hown j z] at ej; exact nj (Option.some.inj ej).symm
      refine ⟨(Dd :: gs) ++ R, ρ, fs, d, ρ1, sw, rf, eg, fun σ2 fs2 sub2 k2 s2 => ⟨?_, ?_⟩⟩
      · apply List.ext_getElem?
        intro j
        have hl2 : σ2.length = σ0.length := by rw [hlσ s2, hlσ s, hlen]
        by_cases hj : j ∈ own
        · by_cases hjl : j < σ0.length
          · rw [wipe_in hj (by rw [hl2]; exact hjl), wipe_in hj hjl]
          · rw [List.getElem?_eq_none (by rw [wipe_length, hl2]; omega), List.getElem?_eq_none (by rw [wipe_length]; omega)]
        · rw [wipe_out hj, wipe_out hj]
          by_cases hjl : j < τ.length
          · rw [k2 j (by unfold others; simp [hjl, hj]), wipe_out hj]
          · rw [List.getElem?_eq_none (by rw [hlσ s2, hlen]; omega), List.getElem?_eq_none (by rw [hlσ s]; omega)]
      · have t2 : Step H H' fs fs2 := (Step.grow gr fs).less sub2
        refine ⟨(Dd :: gs) ++ R, ρ1, fs2, pt.1, pt.2, s2, et, fun H3 fs3 t3 s3 => ?_⟩
        have back : ∀ {R' : List Addr} {ρ' : Rho} {H' : Hp} {fs' : List Addr}, SR X.K X.mg R' τg ρ' σ2 H' fs' → ∃ fs'', SR X.K X.mg R' τ (kill own ρ') σ0 H' fs'' ∧ ∀ a ∈ fs'', a ∈ fs' := fun s' => by
          obtain ⟨fs'', sk, sb⟩ := s'.killS own
          rw [hkg] at sk
          refine ⟨fs'', ⟨sk.sl.congr rfl ?_ fun j tj ej nj => ⟨rfl, ?_⟩, sk.nd, sk.al⟩, sb⟩
          · rw [hlσ s, hlσ sk]
          · have hj : j ∉ own := fun z => by rw [hown j z] at ej; exact nj (Option.some.inj ej).symm
            have hjl : j < τ.length := (List.getElem?_eq_some_iff.mp ej).1
            rw [k2 j (by unfold others; simp [hjl, hj]), wipe_out hj]
        cases hp : pt.1 with
        | false =>
          rw [hp] at es6
          cases es6
          obtain ⟨fs4, s4, sub4⟩ := back s3
          have t4 : Step H H3 fs fs4 := (t2.trans t3).less sub4
          refine iteF ⟨_, fs4, gs, accd, acc, rest', ⟨fun a o n e => ?_, fun a ha => ?_, fun a o e => ?_⟩, s4, le.trans (s.le t4), ?_, ?_, es3, ?_, ?_, by omega⟩
          · by_cases z : a ∈ (Dd :: gs) ++ fs
            · rcases tS.sub a z with q | q
              · exact absurd q n
              · rw [q] at e; cases e
            · exact t4.ext a o (fun h => z (List.mem_append_right _ h)) (tS.ext a o n e)
          · rcases List.mem_append.mp ha with z | z
            · exact tS.sub a (List.mem_append_left _ z)
            · rcases t4.sub a z with q | q
              · exact tS.sub a (List.mem_append_right _ q)
              · refine .inr ?_
                cases e : H1 a with
                | none => rfl
                | some o =>
                  obtain ⟨o', e'⟩ := tS.ne a o e
                  rw [e'] at q; cases q
          · obtain ⟨o', e'⟩ := tS.ne a o e
            exact t4.ne a o' e'
          · refine t4.ext Dd _ (fun z => ?_) hDd
            exact (List.nodup_append.mp s.nd).2.2 Dd (by simp) Dd z rfl
          · refine rps.mono (s.le t4) fun a ha => ?_
            obtain ⟨o, eo, _⟩ := s.al a (by simp [ha])
            rw [eo]
            exact t4.ext a o (fun z => (List.nodup_append.mp s.nd).2.2 a (by simp [ha]) a z rfl) eo
          · rw [← er1, ← Option.some.inj es4]; rfl
          · rw [← er2, ← Option.some.inj es4]
        | true =>
          rw [hp, if_pos rfl] at es6
          obtain ⟨pe, ee, es7⟩ := bindO es6
          cases es7
          refine iteT ⟨(Dd :: gs) ++ R, pt.2, fs3, pe.1, pe.2, s3, ee, fun y H4 fs4 fv t4 s4 r4 => ?_⟩
          obtain ⟨fs5, s5, sub5⟩ := back s4
          have t35 : Step H H4 fs (fv ++ fs5) := (t2.trans t3).trans (t4.less fun a ha => (List.mem_append.mp ha).elim (fun z => by simp [z]) fun z => by simp [sub5 a z])
          have hD4 : H4 Dd = some (.lst acc) := t35.ext Dd _ (fun z => (List.nodup_append.mp s.nd).2.2 Dd (by simp) Dd z rfl) hDd
          have lacc : acc.length < sizeLine := by
            rw [← rps.len]
            have := okLen_le e3
            omega
          refine ⟨acc, hD4, lacc, ?_⟩
          have s6 := s5.updR (a := Dd) (o := .lst (acc ++ [y])) (by simp) trivial
          have mem : ∀ a, a ∈ (Dd :: (gs ++ fv)) ++ R ++ fs5 ↔ a ∈ fv ++ ((Dd :: gs) ++ R) ++ fs5 := fun a => by
            simp only [List.mem_append, List.mem_cons]
            constructor
            · rintro (((h | h | h) | h) | h) <;> simp [h]
            · rintro ((h | (h | h) | h) | h) <;> simp [h]
          have pm : ((Dd :: (gs ++ fv)) ++ R ++ fs5).Perm (fv ++ ((Dd :: gs) ++ R) ++ fs5) := by
            refine List.Perm.append_right _ ?_
            rw [← List.cons_append, List.append_assoc]
            refine (List.Perm.append_left (Dd :: gs) (List.perm_append_comm (l₁ := fv) (l₂ := R))).trans ?_
            rw [← List.append_assoc]
            exact List.perm_append_comm
          have s7 : SR X.K X.mg ((Dd :: (gs ++ fv)) ++ R) τ (kill own pe.2) σ0 (upd H4 Dd (.lst (acc ++ [y]))) fs5 := by
            refine ⟨s6.sl.mono (hide_sub fun a ha => (mem a).mp ha) fun _ _ => rfl, pm.nodup_iff.mpr s6.nd, fun a ha => ?_⟩
            refine s6.own a ((mem a).mp (List.mem_append_left _ ha))
          have ndS := s5.nd
          have neD : ∀ a, a ∈ gs ∨ a ∈ fv → a ≠ Dd := fun a ha z => by
            subst z
            simp only [List.append_assoc, List.nodup_append, List.mem_append, List.cons_append, List.nodup_cons] at ndS
            rcases ha with h | h
            · exact ndS.2.1.1 (.inl h)
            · exact ndS.2.2 a h a (by simp) rfl
          have leU : Le (hide ((Dd :: gs) ++ R ++ fs) H) (hide ((Dd :: (gs ++ fv)) ++ R ++ fs5) (upd H4 Dd (.lst (acc ++ [y])))) := hide_mono fun a o n e => by
            have n1 : a ≠ Dd := fun z => n (by simp [z])
            have nfs : a ∉ fs := fun z => n (by simp [z])
            refine ⟨fun z => ?_, by rw [upd_ne n1]; exact t35.ext a o nfs e⟩
            have z := (mem a).mp z
            simp only [List.mem_append, List.mem_cons] at z n
            rcases z with (z | (z | z) | z) | z
            · rcases t35.sub a (by simp [z]) with q | q
              · exact nfs q
              · rw [q] at e; cases e
            · exact n1 z
            · exact n (by simp [z])
            · exact n (by simp [z])
            · rcases t35.sub a (by simp [z]) with q | q
              · exact nfs q
              · rw [q] at e; cases e
          refine ⟨_, fs5, gs ++ fv, accd ++ [pe.1], acc ++ [y], rest', ⟨fun a o n e => ?_, fun a ha => ?_, fun a o e => ?_⟩, s7, le.trans leU, upd_same, ?_, es3, ?_, ?_, by simp; omega⟩
          · have z : a ∉ (Dd :: gs) ++ fs := fun z => by
              rcases tS.sub a z with q | q
              · exact n q
              · rw [q] at e; cases e
            rw [upd_ne fun h => z (by simp [h])]
            exact t35.ext a o (fun h => z (List.mem_append_right _ h)) (tS.ext a o n e)
          · have fr : ∀ a, H a = none → H1 a = none := fun a q => by
              cases e : H1 a with
              | none => rfl
              | some o =>
                obtain ⟨o', e'⟩ := tS.ne a o e
                rw [e'] at q; cases q
            simp only [List.mem_append, List.mem_cons] at ha
            rcases ha with (z | z | z) | z
            · exact tS.sub a (by simp [z])
            · exact tS.sub a (by simp [z])
            · rcases t35.sub a (by simp [z]) with q | q
              · exact tS.sub a (by simp [q])
              · exact .inr (fr a q)
            · rcases t35.sub a (by simp [z]) with q | q
              · exact tS.sub a (by simp [q])
              · exact .inr (fr a q)
          · obtain ⟨o', e'⟩ := tS.ne a o e
            obtain ⟨o2, e2⟩ := t35.ne a o' e'
            by_cases z : a = Dd
            · exact ⟨_, by rw [z, upd_same]⟩
            · exact ⟨o2, by rw [upd_ne z]; exact e2⟩
          · have r1 := rps.mono leU (H' := upd H4 Dd (.lst (acc ++ [y]))) fun a ha => by
              rw [upd_ne (neD a (.inl ha))]
              obtain ⟨o, eo, _⟩ := s.al a (by simp [ha])
              rw [eo]
              exact t35.ext a o (fun z => (List.nodup_append.mp s.nd).2.2 a (by simp [ha]) a z rfl) eo
            have leV : Le (hide (fv ++ ((Dd :: gs) ++ R) ++ fs4) H4) (hide ((Dd :: (gs ++ fv)) ++ R ++ fs5) (upd H4 Dd (.lst (acc ++ [y])))) := hide_mono fun a o n e => by
              have n1 : a ≠ Dd := fun z => n (by simp [z])
              refine ⟨fun z => n ?_, by rw [upd_ne n1]; exact e⟩
              have z := (mem a).mp z
              rcases List.mem_append.mp z with z | z
              · exact List.mem_append_left _ z
              · exact List.mem_append_right _ (sub5 a z)
            have r2 := r4.mono leV (H' := upd H4 Dd (.lst (acc ++ [y]))) fun a ha => upd_ne (neD a (.inr ha))
            have := r1.snoc r2
            rw [← List.replicate_succ', show accd.length + 1 = (accd ++ [pe.1]).length by simp] at this
            exact this
          · rw [← er1, ← Option.some.inj es4]; simp
          · rw [← er2, ← Option.some.inj es4]
    · rw [List.drop_eq_nil_of_le (by omega)] at el1
      cases el1
      refine .inl ⟨wst (by omega), ?_⟩
      simp at er1 er2
      subst er1
      subst er2
      exact q (.ref Dd) H fs (Dd :: gs) (t1.trans tS) s (.oL hDd rps)
theorem do_lc {it : Itf} {g : Gf} {tt : Tf} {el : Of} {t : Ty} {τg : List Ty} {scope : Scope} {own : List (Str × Nat)} (hc : X.calm = true) (hN : X.N.Nodup) (hi : DI X tg iter τ it) (ok : BlkOk X.N X.env.scope scope own)
    (hg : ∀ (s : Shared) (H : Hp) (C : Addr) (cl : List (Str × Addr)) (fp : List Addr), DG (X.blk s H scope (compEnvC scope cl C X.env) fp) (others τ.length (own.map (·.2))) tg τ g τg)
    (ht : ∀ (s : Shared) (H : Hp) (C : Addr) (cl : List (Str × Addr)) (fp : List Addr), DTs (X.blk s H scope (compEnvC scope cl C X.env) fp) ifs τg tt)
    (he : ∀ (s : Shared) (H : Hp) (C : Addr) (cl : List (Str × Addr)) (fp : List Addr), DO (X.blk s H scope (compEnvC scope cl C X.env) fp) elt τg el t)
    (hown : allNo τ (own.map (·.2)) = true := by rfl) (hlen : τg.length = τ.length := by rfl) (hkg : killT (own.map (·.2)) τg = τ := by rfl)
    (hs : ∀ x, foldedSetIterable iter X.env x = pure x := by intro _; rfl) :
    DO X (.ListComp elt [⟨tg, iter, ifs, 0⟩] scope pos) τ (oLc (own.map (·.2)) it g tt el) (.oL t) := pe_imp (pe_lc hc hN hi ok hg ht he hs) (tLc_of (own.map (·.2)) (allNo_ok hown) hlen hkg)
end
end TL

namespace TL
open PySem PySem.Spec PyProof.Rows L2

section
variable {X : Cx} {γ : Gm} {τ τ1 τ' : List Ty} {tg a b c e elt iter o : Expr} {ifs : List Expr} {es : List Expr} {pos p : Pos}
/-- name = [..], the name local: the stores are exchanged -/
theorem ds_setLc {it : Itf} {g : Gf} {tt : Tf} {el : Of} {t : Ty} {τg : List Ty} {scope : Scope} {own : List (Str × Nat)} {y : Str} {py spos : Pos} (i : Nat) (hc : X.calm = true) (hN : X.N.Nodup) (hy : X.N[i]? = some y) (hyl : X.env.scope.names.lookup y = some .local)
    (hsw : swapsWith (.ListComp elt [⟨tg, iter, ifs, 0⟩] scope pos) (some (.Name y py)) spos.line X.env = pure true) (hi : DI X tg iter τ it) (ok : BlkOk X.N X.env.scope scope own)
    (hg : ∀ (s : Shared) (H : Hp) (C : Addr) (cl : List (Str × Addr)) (fp : List Addr), DG (X.blk s H scope (compEnvC scope cl C X.env) fp) (others τ.length (own.map (·.2))) tg τ g τg)
    (ht : ∀ (s : Shared) (H : Hp) (C : Addr) (cl : List (Str × Addr)) (fp : List Addr), DTs (X.blk s H scope (compEnvC scope cl C X.env) fp) ifs τg tt)
    (he : ∀ (s : Shared) (H : Hp) (C : Addr) (cl : List (Str × Addr)) (fp : List Addr), DO (X.blk s H scope (compEnvC scope cl C X.env) fp) elt τg el t)
    (hown : allNo τ (own.map (·.2)) = true := by rfl) (hlen : τg.length = τ.length := by rfl) (hkg : killT (own.map (·.2)) τg = τ := by rfl)
    (hs : ∀ x, foldedSetIterable iter X.env x = pure x := by intro _; rfl) (hti : i < τ.length := by decide) (hio : i ∉ γ.io := by decide) :
    DS X γ (.Assign [.Name y py] (.ListComp elt [⟨tg, iter, ifs, 0⟩] scope pos) spos) τ (sSetO i (oLc (own.map (·.2)) it g tt el)) (τ.set i (.oL t)) :=
  ps_imp (ps_setLc (i := i) hc hN hy hyl hsw hi ok hg ht he hs) fun D σ H q => by
    have := setO_of i hti hio D σ H q
    obtain ⟨R, ρ, fs, d, ρ', s, e, k⟩ := this
    exact tLc_of (own.map (·.2)) (allNo_ok hown) hlen hkg σ H _ ⟨R, ρ, fs, d, ρ', s, e, k⟩
/-- an owned value, then its slot is frozen -/
theorem ds_frzA {st : Stmt} {f : Sf} (i : Nat) {t : Ty} (h : DS X γ st τ f τ1) (ht : τ1[i]? = some t := by rfl) (hn : t ≠ .no := by intro z; cases z) : DS X γ st τ f (τ1.set i .sh) := ps_imp h fun D σ H ⟨R, ρ, fs, o, s, e, q⟩ => by
  refine ⟨R, ρ, fs, o, s, e, ?_⟩
  cases o with
  | nx ρ' =>
    exact fun σ' H' fs' t' k' s' => by
      obtain ⟨fs2, s2, sub⟩ := s'.frz ht hn
      exact q σ' H' fs2 (t'.less sub) k' s2
  | bk ρ' => exact q
  | ct ρ' => exact q
  | rt d ρ' => exact q

/-! ### o[i] = e -/
def setL (l : List D) (k : Int) (d : D) : Option (List D) := (ixN l.length k).bind fun j => some (l.set j d)
def sSetIx (i : Nat) (f fk : Ef) : Sf := fun ρ => (f ρ).bind fun p => (fk p.2).bind fun q => match p.1, q.1, q.2.getD i .non with
  | .v d, .v (.int k), .lst l => (setL l k d).bind fun l' => some (.nx (q.2.set i (.lst l')))
  | _, _, _ => none
theorem SR.gSub_aux {K : PySem.W.Frag} {mg : Str → Option Value} {R : List Addr} {ρ : Rho} {σ : L2.St} {H : Hp} {fs : List Addr} {i : Nat} {v0 : V} (s : SR K mg R τ ρ σ H fs) (ht : τ[i]? = some (.oL .sh)) (ev : σ[i]? = some (some v0)) {l : List D} (el : ρ.getD i .non = .lst l) :
    ∃ a vs, v0 = .ref a ∧ H a = some (.lst vs) ∧ Rfs K mg (hide (R ++ fs) H) l vs ∧ ∀ (vs' : List V) (l' : List D), Rfs K mg (hide (R ++ fs) H) l' vs' → SR K mg R τ (ρ.set i (.lst l')) σ (upd H a (.lst vs')) fs ∧ Step H (upd H a (.lst vs')) fs fs := by
  obtain ⟨f1, fo, f2, ef, hos, hl, _, h2, _⟩ := s.sl.split ht
  rcases hos with ⟨z, _⟩ | ⟨v1, ev1, r1⟩
  · cases z
  rw [ev] at ev1; cases ev1
  rw [el] at r1
  cases r1 with
  | @oL t a vs ds g h rs =>
    obtain ⟨rf, eg⟩ := rs.to_sh
    subst eg
    refine ⟨a, vs, rfl, h, rf, fun vs' l' rf' => ?_⟩
    have le : Le (hide (R ++ fs) H) (hide (R ++ fs) (upd H a (.lst vs'))) := hide_mono fun b u n e => ⟨n, by
      rw [upd_ne fun z => n (by rw [z, ef]; simp)]; exact e⟩
    exact s.write ht (f := []) ev (d := .lst l) ef (o := .lst vs') (d' := .lst l') trivial h2 (.oL upd_same (Rps.of_sh (rf'.mono le)))
theorem ds_setix {f fk : Ef} {ok ek : Expr} (i : Nat) (he : DE X e τ f) (ho : PE X ok (tVar i)) (hk : DE X ek τ fk) (ht : τ[i]? = some (.oL .sh) := by rfl)
    (ha : ∀ v, assign (.Subscript ok ek p) X.env v = (do
      let ov ← holding [v] (eval ok X.env)
      let iv ← holding [v, ov] (eval ek X.env)
      standAt p
      holding [v, ov, iv] (setItem ov iv v)
      release [v, ov, iv] []) := by intro _; rfl)
    (hs : swapsWithSole [.Subscript ok ek p] e pos.line X.env = pure false := by rfl) (hw : swappedStores [.Subscript ok ek p] e X.env = pure none := by rfl)
    (h1 : (assignEach [.Subscript ok ek p] X.env).map (·.2) = [assign (.Subscript ok ek p) X.env] := by rfl) :
    DS X γ (.Assign [.Subscript ok ek p] e pos) τ (sSetIx i f fk) τ := ps_imp (ps_asg he (pg_sub ho hk set_list ha) hs hw h1) fun D σ H ⟨R, ρ, fs, out, s, e, q⟩ => by
  obtain ⟨w, e1, e2⟩ := bindO e
  obtain ⟨z, e3, e4⟩ := bindO e2
  obtain ⟨w1, w2⟩ := w
  obtain ⟨z1, z2⟩ := z
  cases w1 with
  | x i => cases e4
  | v d =>
    cases z1 with
    | x i => cases e4
    | v dk =>
      cases dk with
      | int k =>
        have e5 : (match z2.getD i .non with | .lst l => (setL l k d).bind fun l' => some (Out.nx (z2.set i (.lst l'))) | _ => none) = some out := by
          revert e4
          simp only
          cases z2.getD i .non <;> exact id
        obtain ⟨l, el, e6⟩ : ∃ l, z2.getD i .non = .lst l ∧ ((setL l k d).bind fun l' => some (Out.nx (z2.set i (.lst l')))) = some out := by
          revert e5
          cases hz : z2.getD i .non with
          | lst l => exact fun e5 => ⟨l, rfl, e5⟩
          | _ => exact fun e5 => by cases e5
        obtain ⟨l', e7, e8⟩ := bindO e6
        cases e8
        obtain ⟨j, e9, e10⟩ := bindO e7
        cases e10
        obtain ⟨v0, f0, ev0, r0, _⟩ := s.get ht (by intro z; cases z)
        refine ⟨R, ρ, fs, _, _, s, e1, fun v H1 fs1 t1 s1 r => ⟨v0, ev0, R, w2, fs1, _, _, s1, e3, fun vk H2 fs2 t2 s2 rk => ?_⟩⟩
        cases rk
        obtain ⟨a, vs, rfl, hH, rf, mk⟩ := s2.gSub_aux ht ev0 el
        have rv : Rf X.K X.mg (hide (R ++ fs2) H2) d v := Rf.mono (s1.le t2) r
        obtain ⟨sn, tn⟩ := mk (vs.set j v) (l.set j d) (rf.set j rv)
        exact ⟨a, vs, k, j, rfl, rfl, hH, by rw [← rf.length]; exact e9, q σ _ fs2 ((t1.trans t2).trans tn) (Kp.refl _ _) sn⟩
      | _ => cases e4

/-! ### a, b = e1, e2 (both local): stored from the right -/
abbrev Lf := Rho → Option (List D × Rho)
/-- values, some of them owned -/
def tL (X : Cx) (τ : List Ty) (f : Lf) (ts : List Ty) : TA := fun σ H Q => ∃ R ρ fs ds ρ', SR X.K X.mg R τ ρ σ H fs ∧ f ρ = some (ds, ρ') ∧
  ∀ vs H' fs' fv, Step H H' fs (fv ++ fs') → SR X.K X.mg (fv ++ R) τ ρ' σ H' fs' → Rps X.K X.mg H' (hide (fv ++ R ++ fs') H') ts ds vs fv → Q vs H'
abbrev DL (X : Cx) (es : List Expr) (τ : List Ty) (f : Lf) (ts : List Ty) : Prop := PA X es (tL X τ f ts)
def lNil : Lf := fun ρ => some ([], ρ)
def lCons (f : Of) (g : Lf) : Lf := fun ρ => (f ρ).bind fun p => (g p.2).bind fun q => some (p.1 :: q.1, q.2)
theorem dl_nil : DL X [] τ lNil [] := pa_imp pa_nil fun σ H Q ⟨R, ρ, fs, h, ρ', s, e, q⟩ => by
  cases e
  exact q [] H fs [] (Step.refl H fs) s .nil
theorem dl_cons {f : Of} {g : Lf} {t : Ty} {ts : List Ty} (ha : DO X e τ f t) (hr : DL X es τ g ts) (hs : starEach (e :: es) X.env = (false, eval e X.env) :: starEach es X.env := by rfl) : DL X (e :: es) τ (lCons f g) (t :: ts) := pa_imp (pa_cons ha hr hs) fun σ H Q ⟨R, ρ, fs, h, ρ', s, e, q⟩ => by
  obtain ⟨p, e1, e2⟩ := bindO e
  obtain ⟨w, e3, e4⟩ := bindO e2
  cases e4
  refine ⟨R, ρ, fs, p.1, p.2, s, e1, fun v H1 fs1 f1 t1 s1 r1 => ⟨f1 ++ R, p.2, fs1, w.1, w.2, s1, e3, fun vs H2 fs2 f2 t2 s2 r2 => ?_⟩⟩
  have mem : ∀ a, a ∈ (f1 ++ f2) ++ R ++ fs2 ↔ a ∈ f2 ++ (f1 ++ R) ++ fs2 := fun a => by
    simp only [List.mem_append]
    constructor
    · rintro (((h | h) | h) | h) <;> simp [h]
    · rintro ((h | (h | h)) | h) <;> simp [h]
  have pm : ((f1 ++ f2) ++ R ++ fs2).Perm (f2 ++ (f1 ++ R) ++ fs2) := by
    refine List.Perm.append_right _ ?_
    rw [← List.append_assoc]
    exact List.Perm.append_right _ List.perm_append_comm
  refine q (v :: vs) H2 fs2 (f1 ++ f2) ⟨fun a o n e => ?_, fun a ha => ?_, fun a o e => ?_⟩ ⟨s2.sl.mono (hide_sub fun a ha => (mem a).mp ha) fun _ _ => rfl, pm.nodup_iff.mpr s2.nd, fun a ha => s2.own a ((mem a).mp (List.mem_append_left _ ha))⟩ (.cons (r1.mono ?_ ?_) (r2.mono (hide_sub fun a ha => (mem a).mp ha) fun _ _ => rfl))
  · refine t2.ext a o (fun z => ?_) (t1.ext a o n e)
    rcases t1.sub a (List.mem_append_right _ z) with q | q
    · exact n q
    · rw [q] at e; cases e
  · have fr : ∀ a, H1 a = none → H a = none := fun a q => by
      cases e : H a with
      | none => rfl
      | some o =>
        obtain ⟨o', e'⟩ := t1.ne a o e
        rw [e'] at q; cases q
    simp only [List.mem_append] at ha
    rcases ha with (z | z) | z
    · exact t1.sub a (by simp [z])
    · rcases t2.sub a (by simp [z]) with q | q
      · exact t1.sub a (by simp [q])
      · exact .inr (fr a q)
    · rcases t2.sub a (by simp [z]) with q | q
      · exact t1.sub a (by simp [q])
      · exact .inr (fr a q)
  · obtain ⟨o', e'⟩ := t1.ne a o e
    exact t2.ne a o' e'
  · refine hide_mono fun a o n e => ?_
    have nfs : a ∉ fs1 := fun z => n (List.mem_append_right _ z)
    refine ⟨fun z => ?_, t2.ext a o nfs e⟩
    have z := (mem a).mp z
    rcases List.mem_append.mp z with z | z
    · rcases List.mem_append.mp z with z | z
      · rcases t2.sub a (List.mem_append_left _ z) with q | q
        · exact nfs q
        · rw [q] at e; cases e
      · exact n (List.mem_append_left _ z)
    · rcases t2.sub a (List.mem_append_right _ z) with q | q
      · exact nfs q
      · rw [q] at e; cases e
  · intro a ha
    obtain ⟨o, e, _⟩ := s1.own a (List.mem_append_left _ (List.mem_append_left _ ha))
    rw [e]
    exact t2.ext a o (fun z => (List.nodup_append.mp s1.nd).2.2 a (List.mem_append_left _ ha) a z rfl) e
def sPar (i j : Nat) (f : Lf) : Sf := fun ρ => (f ρ).bind fun p => match p.1 with
  | [a, b] => some (.nx ((p.2.set i a).set j b))
  | _ => none
theorem SR.put2 {K : PySem.W.Frag} {mg : Str → Option Value} {R : List Addr} {ρ : Rho} {σ : L2.St} {H : Hp} {fs fv : List Addr} {i : Nat} {t : Ty} {ts : List Ty} {d : D} {ds : List D} {v : V} {vs : List V} (s : SR K mg (fv ++ R) τ ρ σ H fs) (hi : i < τ.length) (r : Rps K mg H (hide (fv ++ R ++ fs) H) (t :: ts) (d :: ds) (v :: vs) fv) :
    ∃ fs' fw, SR K mg (fw ++ R) (τ.set i t) (ρ.set i d) (σ.set i (some v)) H fs' ∧ Rps K mg H (hide (fw ++ R ++ fs') H) ts ds vs fw ∧ ∀ a ∈ fw ++ fs', a ∈ fv ++ fs := by
  cases r with
  | @cons _ _ _ f g _ _ _ h r =>
    have s' : SR K mg (f ++ (g ++ R)) τ ρ σ H fs := by rw [← List.append_assoc]; exact s
    have h' : Rp K mg H (hide (f ++ (g ++ R) ++ fs) H) t d v f := by rw [← List.append_assoc]; exact h
    obtain ⟨fs', s2, sub⟩ := s'.put hi h'
    refine ⟨fs', g, s2, r.mono (hide_sub fun a ha => ?_) fun _ _ => rfl, fun a ha => ?_⟩
    · simp only [List.mem_append] at ha ⊢
      rcases ha with (z | z) | z
      · simp [z]
      · simp [z]
      · have := sub a z
        simp only [List.mem_append] at this
        rcases this with h | h <;> simp [h]
    · simp only [List.mem_append] at ha ⊢
      rcases ha with z | z
      · simp [z]
      · have := sub a z
        simp only [List.mem_append] at this
        rcases this with h | h <;> simp [h]
theorem ds_par {f : Lf} {x y : Str} {px py pt : Pos} {kt k2 pt2} {t1 t2 : Ty} (i j : Nat) (hc : X.calm = true) (hN : X.N.Nodup) (hi : X.N[i]? = some x) (hj : X.N[j]? = some y) (hx : X.env.scope.names.lookup x = some .local) (hy : X.env.scope.names.lookup y = some .local) (ha : DL X [a, b] τ f [t1, t2])
    (hw : swappedStores [.Tuple [.Name x px, .Name y py] kt pt] (.Tuple [a, b] k2 pt2) X.env = pure (some [x, y])) (hij : i ≠ j := by decide) (hit : i < τ.length := by decide) (hjt : j < τ.length := by decide) (hio : i ∉ γ.io := by decide) (hjo : j ∉ γ.io := by decide)
    (hs : swapsWithSole [.Tuple [.Name x px, .Name y py] kt pt] (.Tuple [a, b] k2 pt2) pos.line X.env = pure false := by rfl) :
    DS X γ (.Assign [.Tuple [.Name x px, .Name y py] kt pt] (.Tuple [a, b] k2 pt2) pos) τ (sPar i j f) ((τ.set i t1).set j t2) := ps_imp (ps_par hc hN hi hj hij hx hy ha hw hs) fun D σ H ⟨R, ρ, fs, o, s, e, q⟩ => by
  obtain ⟨w, e1, e2⟩ := bindO e
  obtain ⟨w1, w2⟩ := w
  match w1, e2 with
  | [d1, d2], e2 =>
    cases e2
    refine ⟨R, ρ, fs, _, _, s, e1, fun vs H1 fs1 fv tt s1 r => ?_⟩
    match vs, r with
    | [v1, v2], r =>
      refine ⟨v1, v2, rfl, ?_⟩
      obtain ⟨fs2, fw, s2, r2, sub2⟩ := s1.put2 hit r
      obtain ⟨fs3, fz, s3, r3, sub3⟩ := s2.put2 (by simpa using hjt) r2
      have ez : fz = [] := by cases r3; rfl
      subst ez
      refine q _ H1 fs3 (tt.less fun a ha => sub2 a (sub3 a ha)) (fun k hk => ?_) s3
      rw [List.getElem?_set_ne (by intro z; subst z; exact hjo hk), List.getElem?_set_ne (by intro z; subst z; exact hio hk)]
    | [], r => cases r
    | [_], r => cases r with | cons _ r => cases r
    | _ :: _ :: _ :: _, r => cases r with | cons _ r => cases r with | cons _ r => cases r
  | [], e2 => cases e2
  | [_], e2 => cases e2
  | _ :: _ :: _ :: _, e2 => cases e2
def sPar3 (i j l : Nat) (f : Lf) : Sf := fun ρ => (f ρ).bind fun p => match p.1 with
  | [a, b, c] => some (.nx (((p.2.set i a).set j b).set l c))
  | _ => none
theorem ds_par3 {f : Lf} {x y z : Str} {px py pz pt : Pos} {kt k2 pt2} {t1 t2 t3 : Ty} (i j l : Nat) (hc : X.calm = true) (hN : X.N.Nodup) (hi : X.N[i]? = some x) (hj : X.N[j]? = some y) (hl : X.N[l]? = some z) (hx : X.env.scope.names.lookup x = some .local) (hy : X.env.scope.names.lookup y = some .local) (hz : X.env.scope.names.lookup z = some .local) (ha : DL X [a, b, c] τ f [t1, t2, t3])
    (hw : swappedStores [.Tuple [.Name x px, .Name y py, .Name z pz] kt pt] (.Tuple [a, b, c] k2 pt2) X.env = pure (some [x, y, z])) (hij : i ≠ j := by decide) (hil : i ≠ l := by decide) (hjl : j ≠ l := by decide) (hit : i < τ.length := by decide) (hjt : j < τ.length := by decide) (hlt : l < τ.length := by decide) (hio : i ∉ γ.io := by decide) (hjo : j ∉ γ.io := by decide) (hlo : l ∉ γ.io := by decide)
    (hs : swapsWithSole [.Tuple [.Name x px, .Name y py, .Name z pz] kt pt] (.Tuple [a, b, c] k2 pt2) pos.line X.env = pure false := by rfl) :
    DS X γ (.Assign [.Tuple [.Name x px, .Name y py, .Name z pz] kt pt] (.Tuple [a, b, c] k2 pt2) pos) τ (sPar3 i j l f) (((τ.set i t1).set j t2).set l t3) := ps_imp (ps_par3 hc hN hi hj hl hij hil hjl hx hy hz ha hw hs) fun D σ H ⟨R, ρ, fs, o, s, e, q⟩ => by
  obtain ⟨w, e1, e2⟩ := bindO e
  obtain ⟨w1, w2⟩ := w
  match w1, e2 with
  | [d1, d2, d3], e2 =>
    cases e2
    refine ⟨R, ρ, fs, _, _, s, e1, fun vs H1 fs1 fv tt s1 r => ?_⟩
    have el := r.len
    match vs, r, el with
    | [v1, v2, v3], r, _ =>
      refine ⟨v1, v2, v3, rfl, ?_⟩
      obtain ⟨fs2, fw, s2, r2, sub2⟩ := s1.put2 hit r
      obtain ⟨fs3, fz, s3, r3, sub3⟩ := s2.put2 (by simpa using hjt) r2
      obtain ⟨fs4, fy, s4, r4, sub4⟩ := s3.put2 (by simpa using hlt) r3
      have ez : fy = [] := by cases r4; rfl
      subst ez
      refine q _ H1 fs4 (tt.less fun a ha => sub2 a (sub3 a (sub4 a ha))) (fun k hk => ?_) s4
      rw [List.getElem?_set_ne (by intro z; subst z; exact hlo hk), List.getElem?_set_ne (by intro z; subst z; exact hjo hk), List.getElem?_set_ne (by intro z; subst z; exact hio hk)]
    | [], _, el => simp at el
    | [_], _, el => simp at el
    | [_, _], _, el => simp at el
    | _ :: _ :: _ :: _ :: _, _, el => simp at el
  | [], e2 => cases e2
  | [_], e2 => cases e2
  | [_, _], e2 => cases e2
  | _ :: _ :: _ :: _ :: _, e2 => cases e2
end

/-! ### a def by its body -/
def runF (b : Sf) (n m : Nat) : Fm := fun ds => if ds.length = n then (b (ds ++ List.replicate m .non)).bind fun o => match o with
    | .rt d ρ' => some (d, ρ'.take n)
    | .nx ρ' => some (.non, ρ'.take n)
    | _ => none
  else none
theorem Sl.cut {K : PySem.W.Frag} {mg : Str → Option Value} {H G : Hp} : ∀ {τ1 : List Ty} {m : Nat} {ρ : Rho} {σ : L2.St} {f : List Addr}, Sl K mg H G (τ1 ++ List.replicate m .no) ρ σ f → Sl K mg H G τ1 (ρ.take τ1.length) (σ.take τ1.length) f
  | [], 0, _, _, _, s => by cases s; exact .nil
  | [], m + 1, _, _, _, s => by
    rw [List.nil_append, List.replicate_succ] at s
    cases s with
    | no s =>
      have := Sl.cut (τ1 := []) (m := m) s
      simpa using this
    | cons h s => cases h
  | t :: τ1, m, _, _, _, s => by
    cases s with
    | no s => exact .no (Sl.cut s)
    | cons h s => exact .cons h (Sl.cut s)
theorem Sl.pad {K : PySem.W.Frag} {mg : Str → Option Value} {H G : Hp} : ∀ {τ1 : List Ty} {m : Nat} {ρ : Rho} {σ : L2.St} {f : List Addr}, Sl K mg H G τ1 ρ σ f → Sl K mg H G (τ1 ++ List.replicate m .no) (ρ ++ List.replicate m .non) (σ ++ List.replicate m none) f
  | _, 0, _, _, _, s => by simpa using s
  | _, m + 1, _, _, _, .nil => by
    have := Sl.pad (m := m) (.nil (K := K) (mg := mg) (H := H) (G := G))
    simp only [List.nil_append, List.replicate_succ] at this ⊢
    exact .no this
  | _, m + 1, _, _, _, .no s => .no (Sl.pad s)
  | _, m + 1, _, _, _, .cons h s => .cons h (Sl.pad s)
section
variable {P : Program} {w : World} {K : PySem.W.Frag} {mg : Str → Option Value} {base : Heap} {x qual : Str} {st : Stmt} {f : Addr} {fd : FuncData} {N ps : List Str} {k : Nat}
theorem Kp.tk {io : List Nat} {σ σ' : L2.St} (h : Kp io σ σ') {i : Nat} (hi : i ∈ io) : σ'[i]? = σ[i]? := h i hi
/-- the slots of a def's changed parameters -/
def ioOf (l : List Ty) : List Nat := (List.range l.length).filter fun i => match l[i]? with
  | some .sh => false
  | some .no => false
  | _ => true
theorem fn_ok {b : Sf} {τ' : List Ty} (Fu : Fun K x qual st f fd) (S : FnScope N ps (defScope st)) (sg : Sg) (γ : Gm) (m : Nat) (hn : sg.ps.length = ps.length := by rfl) (hm : sg.ps.length + m = N.length := by rfl)
    (hio : γ.io = ioOf (sg.ps.map Ty.io) := by rfl) (hret : γ.ret = sg.ret := by rfl) (hrty : γ.rty = sg.ps.map Ty.io ++ List.replicate m .no := by rfl) (hnx : leTb γ.rty τ' = true := by rfl) (hfall : sg.ret = .sh ∨ ∀ ρ ρ', b ρ ≠ some (.nx ρ'))
    (hbody : ∀ (cdv : Value) (A : Around) (outer : List PySem.Env) (s : Shared) (H : Hp) (E : XK), Room k (A.deeper (envOfC qual (defScope st) s.heap.objs.size f cdv)) →
      DSs (cxOf CX0 P w K mg base N qual (defScope st) f cdv A outer s H E).nox γ (defBody st) (sg.ps ++ List.replicate m .no) b τ') :
    FnD P w K mg base (k + 1) f fd ps sg (runF b sg.ps.length m) := by
  refine Fu.ok S (fun vs H Q E ⟨R, ds, fs, d, ds', s, _⟩ => ?_) (fun cdv A outer s H vs Q E hr ⟨R, ds, fs, d, ds', sr, eF, q⟩ => ?_)
  · have := s.sl.len
    simp at this
    omega
  · unfold runF at eF
    have hvl : vs.length = sg.ps.length := by
      have := sr.sl.len
      simp at this
      omega
    by_cases hl : ds.length = sg.ps.length
    · rw [if_pos hl] at eF
      obtain ⟨out, e1, e2⟩ := bindO eF
      refine ⟨_, hbody cdv A outer s H E hr, R, ds ++ List.replicate m .non, fs, out, ⟨?_, sr.nd, sr.al⟩, e1, ?_⟩
      · have := sr.sl.pad (m := m)
        unfold L2.start
        rw [show N.length - vs.length = m by omega]
        exact this
      · have st0 : L2.start N vs = vs.map some ++ List.replicate m none := by
          unfold L2.start
          rw [show N.length - vs.length = m by omega]
        have fin : ∀ {v : V} {σ' : L2.St} {H' : Hp} {fs' fv : List Addr} {ρ' : Rho} {dd : D}, Step H H' fs (fv ++ fs') → Kp γ.io (L2.start N vs) σ' → SR K mg (fv ++ R) γ.rty ρ' σ' H' fs' → Rp K mg H' (hide (fv ++ R ++ fs') H') sg.ret dd v fv → dd = d → ρ'.take sg.ps.length = ds' → Q v H' := fun {v σ' H' fs' fv ρ' dd} t kp s' r e3 e4 => by
          subst e3
          refine q v H' fs' fv t ⟨?_, s'.nd, s'.al⟩ r
          have sl := s'.sl
          rw [hrty] at sl
          have sc := Sl.cut sl
          rw [List.length_map, e4] at sc
          have hl' := s'.sl.len
          rw [hrty] at hl'
          simp at hl'
          refine sc.congr rfl (by simp; omega) fun i t et nt => ⟨rfl, ?_⟩
          have hi : i < sg.ps.length := by
            have := (List.getElem?_eq_some_iff.mp et).1
            simpa using this
          have hmem : i ∈ γ.io := by
            rw [hio]
            unfold ioOf
            refine List.mem_filter.mpr ⟨by simpa using hi, ?_⟩
            rw [et]
            have : t ≠ .sh := by
              rw [List.getElem?_map] at et
              cases h : sg.ps[i]? with
              | none => rw [h] at et; cases et
              | some u =>
                rw [h] at et
                simp at et
                subst et
                cases u <;> simp [Ty.io]
            cases t <;> simp_all
          rw [List.getElem?_take_of_lt hi, kp i hmem, st0, List.getElem?_append_left (by simpa [hvl] using hi)]
        cases out with
        | rt dd ρ' =>
          have e2' := Option.some.inj e2
          exact fun v σ' H' fs' fv t kp s' r => fin t kp s' (by rw [hret] at r; exact r) (congrArg Prod.fst e2') (congrArg Prod.snd e2')
        | nx ρ' =>
          have e2' := Option.some.inj e2
          rcases hfall with hf | hf
          · exact fun σ' H' fs' t kp s' => by
              obtain ⟨fs2, s2, sub⟩ := s'.leT (leTb_ok hnx)
              exact fin (fv := []) (t.less sub) kp s2 (by rw [hf]; exact .sh .non) (congrArg Prod.fst e2') (congrArg Prod.snd e2')
          · exact absurd e1 (hf _ _)
        | bk ρ' => cases e2
        | ct ρ' => cases e2
    · rw [if_neg hl] at eF; cases eF
/-- a mirror in the place of the run -/
theorem FnD.of {sg : Sg} {F G : Fm} (h : FnD P w K mg base k f fd ps sg F) (le : ∀ ds r, G ds = some r → F ds = some r) : FnD P w K mg base k f fd ps sg G := h.imp fun vs H Q E ⟨R, ds, fs, d, ds', s, e, q⟩ => ⟨R, ds, fs, d, ds', s, le _ _ e, q⟩
theorem FnD.ofN {sg : Sg} {F : Nat → Fm} {G : Fm} (h : ∀ n, FnD P w K mg base k f fd ps sg (F n)) (le : ∀ ds r, G ds = some r → ∃ n, F n ds = some r) : FnD P w K mg base k f fd ps sg G where
  len := fun vs H Q E ⟨R, ds, fs, d, ds', s, e, q⟩ => by
    obtain ⟨n, e⟩ := le _ _ e
    exact (h n).len vs H Q E ⟨R, ds, fs, d, ds', s, e, q⟩
  run := fun A outer s H args us vs Q E hr e0 hb r ⟨R, ds, fs, d, ds', sr, e, q⟩ => by
    obtain ⟨n, e⟩ := le _ _ e
    exact (h n).run A outer s H args us vs Q E hr e0 hb r ⟨R, ds, fs, d, ds', sr, e, q⟩
end
end TL

namespace TL
open PySem PySem.Spec PyProof.Rows L2

/-! ### == on trees -/
mutual
def py : D → PyData
  | .non => .none
  | .bl b => .bool b
  | .int i => .int i
  | .str s => .str s
  | .tup l => .tuple (pys l)
  | .lst l => .list (pys l)
  | _ => .none
def pys : List D → List PyData
  | [] => []
  | d :: r => py d :: pys r
end
mutual
/-- Python's == -/
def dq : D → D → Bool
  | .non, .non => true
  | .bl a, .bl b => a == b
  | .bl a, .int j => (if a then 1 else 0) == j
  | .int i, .bl b => i == (if b then 1 else 0)
  | .int i, .int j => i == j
  | .str x, .str y => x == y
  | .lst xs, .lst ys => dqs xs ys
  | .tup xs, .tup ys => dqs xs ys
  | _, _ => false
def dqs : List D → List D → Bool
  | [], [] => true
  | x :: xs, y :: ys => dq x y && dqs xs ys
  | _, _ => false
end
def sOk (s : Str) : Bool := PyData.strOk s
def pyOk : Nat → D → Bool
  | _, .non => true
  | _, .bl _ => true
  | _, .int _ => true
  | _, .str s => sOk s
  | n + 1, .tup l => l.all (pyOk n)
  | n + 1, .lst l => l.all (pyOk n)
  | _, _ => false
theorem pyOk_ok : ∀ (n : Nat) (d : D), pyOk n d = true → (py d).canLay0 = true ∧ (py d).depth ≤ n
  | n, .non, _ => by simp [py, PyData.canLay0, PyData.depth]
  | n, .bl b, _ => by simp [py, PyData.canLay0, PyData.depth]
  | n, .int i, _ => by simp [py, PyData.canLay0, PyData.depth]
  | n, .str s, h => by
    refine ⟨?_, by simp [py, PyData.depth]⟩
    have : sOk s = true := by cases n <;> simpa [pyOk] using h
    simpa [py, PyData.canLay0, sOk] using this
  | n + 1, .tup l, h => by
    have hs : ∀ (l : List D), l.all (pyOk n) = true → PyData.canLayAll0 (pys l) = true ∧ PyData.depthAll (pys l) ≤ n := by
      intro l
      induction l with
      | nil => intro _; simp [pys, PyData.canLayAll0, PyData.depthAll]
      | cons d r ih =>
        intro h
        simp only [List.all_cons, Bool.and_eq_true] at h
        have h1 := pyOk_ok n d h.1
        have h2 := ih h.2
        simp only [pys, PyData.canLayAll0, PyData.depthAll, h1.1, h2.1, Bool.and_self, true_and]
        omega
    have := hs l (by simpa [pyOk] using h)
    simp only [py, PyData.canLay0, PyData.depth, this.1, true_and]
    omega
  | n + 1, .lst l, h => by
    have hs : ∀ (l : List D), l.all (pyOk n) = true → PyData.canLayAll0 (pys l) = true ∧ PyData.depthAll (pys l) ≤ n := by
      intro l
      induction l with
      | nil => intro _; simp [pys, PyData.canLayAll0, PyData.depthAll]
      | cons d r ih =>
        intro h
        simp only [List.all_cons, Bool.and_eq_true] at h
        have h1 := pyOk_ok n d h.1
        have h2 := ih h.2
        simp only [pys, PyData.canLayAll0, PyData.depthAll, h1.1, h2.1, Bool.and_self, true_and]
        omega
    have := hs l (by simpa [pyOk] using h)
    simp only [py, PyData.canLay0, PyData.depth, this.1, true_and]
    omega
  | 0, .tup l, h => by simp [pyOk] at h
  | 0, .lst l, h => by simp [pyOk] at h
  | 0, .dct l, h => by simp [pyOk] at h
  | n + 1, .dct l, h => by simp [pyOk] at h
  | 0, .set l, h => by simp [pyOk] at h
  | n + 1, .set l, h => by simp [pyOk] at h
  | 0, .obj c l, h => by simp [pyOk] at h
  | n + 1, .obj c l, h => by simp [pyOk] at h
  | 0, .scr l, h => by simp [pyOk] at h
  | n + 1, .scr l, h => by simp [pyOk] at h
/-- no dicts, sets, objects within -/
def plainD : Nat → D → Bool := pyOk
theorem eqv_dq : ∀ (n : Nat) (a b : D), pyOk n a = true → pyOk n b = true → PyData.eqv (py a) (py b) = dq a b := by
  have hl : ∀ (n : Nat), (∀ a b : D, pyOk n a = true → pyOk n b = true → PyData.eqv (py a) (py b) = dq a b) → ∀ l m : List D, l.all (pyOk n) = true → m.all (pyOk n) = true → PyData.eqvAll (pys l) (pys m) = dqs l m := by
    intro n ih l
    induction l with
    | nil => intro m _ _; cases m <;> simp [pys, PyData.eqvAll, dqs]
    | cons a l ihl =>
      intro m h1 h2
      cases m with
      | nil => simp [pys, PyData.eqvAll, dqs]
      | cons b m =>
        simp only [List.all_cons, Bool.and_eq_true] at h1 h2
        simp only [pys, PyData.eqvAll, dqs, ih a b h1.1 h2.1, ihl m h1.2 h2.2]
  intro n
  induction n with
  | zero =>
    intro a b ha hb
    cases a <;> cases b <;> first | (simp [pyOk] at ha; done) | (simp [pyOk] at hb; done) | simp [py, PyData.eqv, dq]
  | succ n ih =>
    intro a b ha hb
    cases a <;> cases b <;> first | (simp [pyOk] at ha; done) | (simp [pyOk] at hb; done) | (simp only [py, PyData.eqv, dq]; try rfl) | skip
    all_goals first | rfl | (exact hl n ih _ _ (by simpa [pyOk] using ha) (by simpa [pyOk] using hb)) | skip
def dEq (a b : D) : Option D := if pyOk 40 a && pyOk 40 b then some (.bl (dq a b)) else none
def dNe (a b : D) : Option D := if pyOk 40 a && pyOk 40 b then some (.bl (!dq a b)) else none
section
variable {K : PySem.W.Frag} {mg : Str → Option Value} {S : List Addr} {H G : Hp}
theorem dp_of (le : Le G H) : ∀ (n : Nat) {d : D} {v : V}, pyOk n d = true → Rf K mg G d v → Dp K H v (py d) := by
  have hl : ∀ n, (∀ {d : D} {v : V}, pyOk n d = true → Rf K mg G d v → Dp K H v (py d)) → ∀ {l : List D} {vs : List V}, l.all (pyOk n) = true → Rfs K mg G l vs → DpAll K H vs (pys l) := by
    intro n ih l
    induction l with
    | nil => intro vs _ r; cases r; exact .nil
    | cons a l ihl =>
      intro vs h r
      simp only [List.all_cons, Bool.and_eq_true] at h
      cases r with
      | cons r rs => exact .cons (ih h.1 r) (ihl h.2 rs)
  intro n
  induction n with
  | zero =>
    intro d v h r
    cases r with
    | non => exact .non
    | bl b => exact .bl b
    | int i => exact .int i
    | str s => exact .str s
    | _ => simp [pyOk] at h
  | succ n ih =>
    intro d v h r
    cases r with
    | non => exact .non
    | bl b => exact .bl b
    | int i => exact .int i
    | str s => exact .str s
    | tup hT r => exact .tup (le.seqT hT) (hl n ih (by simpa [pyOk] using h) r)
    | lst hL r => exact .lst (.of (le _ _ hL)) (hl n ih (by simpa [pyOk] using h) r)
    | _ => simp [pyOk] at h
theorem Rv.dp {n : Nat} {d : D} {v : V} (r : Rv K mg S H d v) (h : pyOk n d = true) : Dp K H v (py d) := by
  have w := r.whole
  have eq : hide [] H = H := by funext a; simp [hide]
  rw [eq] at w
  exact dp_of (Le.refl H) n h w
theorem shaped_of {d : D} (h : pyOk 40 d = true) : SeqAt.shaped (py d) = true := by
  have := pyOk_ok 40 d h
  unfold SeqAt.shaped
  rw [this.1, Bool.true_and]
  exact decide_eq_true (by omega)
end
theorem Room.u64 {k : Nat} {A : Around} (r : Room k A) : A.units + 65 < cLine := by
  have := r.un
  omega
section
variable {X : Cx}
theorem od_eq : OpD X (rEqD X.K) dEq := fun S H d1 d2 d v1 v2 Q al r1 r2 e q => by
  obtain ⟨h, e⟩ := ifSome' e
  subst e
  rw [Bool.and_eq_true] at h
  exact ⟨_, _, r1.dp h.1, r2.dp h.2, shaped_of h.1, shaped_of h.2, by rw [eqv_dq 40 _ _ h.1 h.2]; exact q _ H (Grow.refl H) (.bl _)⟩
theorem od_ne : OpD X (rNeD X.K) dNe := fun S H d1 d2 d v1 v2 Q al r1 r2 e q => by
  obtain ⟨h, e⟩ := ifSome' e
  subst e
  rw [Bool.and_eq_true] at h
  exact ⟨_, _, r1.dp h.1, r2.dp h.2, shaped_of h.1, shaped_of h.2, by rw [eqv_dq 40 _ _ h.1 h.2]; exact q _ H (Grow.refl H) (.bl _)⟩

/-! ### arithmetic -/
def ii (C : Int → Int → Bool) (g : Int → Int → D) : D → D → Option D
  | .int i, .int j => if C i j then some (g i j) else none
  | _, _ => none
theorem od_ii {C : Int → Int → Bool} {P : Int → Int → Prop} {g : Int → Int → D} {gv : Int → Int → V} (hC : ∀ i j, C i j = true → P i j) (hg : ∀ i j K mg G, Rf K mg G (g i j) (gv i j)) : OpD X (rI P gv) (ii C g) := fun S H d1 d2 d v1 v2 Q al r1 r2 e q => by
  cases d1 <;> cases d2 <;> first | (cases e; done) | skip
  obtain ⟨h, e⟩ := ifSome' e
  subst e
  exact ⟨_, _, r1.int_inv, r2.int_inv, hC _ _ h, q _ H (Grow.refl H) (hg _ _ _ _ _)⟩
def ii0 (g : Int → Int → D) : D → D → Option D
  | .int i, .int j => some (g i j)
  | _, _ => none
theorem od_ii0 {g : Int → Int → D} {gv : Int → Int → V} (hg : ∀ i j K mg G, Rf K mg G (g i j) (gv i j)) : OpD X (rI0 gv) (ii0 g) := fun S H d1 d2 d v1 v2 Q al r1 r2 e q => by
  cases d1 <;> cases d2 <;> first | (cases e; done) | skip
  cases e
  exact ⟨_, _, r1.int_inv, r2.int_inv, q _ H (Grow.refl H) (hg _ _ _ _ _)⟩
def sm (i : Int) : Bool := Nat.ble i.natAbs 999999999999999999999999999999
theorem sm_lt {i : Int} (h : sm i = true) : i.natAbs < 2 ^ 100 := by
  have h1 : i.natAbs ≤ 999999999999999999999999999999 := Nat.le_of_ble_eq_true h
  have : (2 : Nat) ^ 100 = 1267650600228229401496703205376 := by decide
  rw [this]
  omega
def dSub := ii0 fun i j => .int (i - j)
def dMulI := ii (fun i j => sm i && sm j) fun i j => .int (i * j)
def dDiv := ii (fun _ j => decide (0 < j) && sm j) fun i j => .int (i / j)
def dMod := ii (fun _ j => decide (0 < j)) fun i j => .int (i % j)
def dPow := ii (fun i j => sm i && decide (0 ≤ j) && decide (j ≤ 1000) && decide (i.natAbs < 18446744073709551616)) fun i j => .int (i ^ j.toNat)
def dLt := ii0 fun i j => .bl (decide (i < j))
def dLe := ii0 fun i j => .bl (decide (i ≤ j))
def dGt := ii0 fun i j => .bl (decide (j < i))
def dGe := ii0 fun i j => .bl (decide (j ≤ i))
theorem od_sub : OpD X (rI0 fun i j => .int (i - j)) dSub := od_ii0 fun i j _ _ _ => .int _
theorem od_lt : OpD X (rI0 fun i j => .bl (decide (i < j))) dLt := od_ii0 fun i j _ _ _ => .bl _
theorem od_le : OpD X (rI0 fun i j => .bl (decide (i ≤ j))) dLe := od_ii0 fun i j _ _ _ => .bl _
theorem od_gt : OpD X (rI0 fun i j => .bl (decide (j < i))) dGt := od_ii0 fun i j _ _ _ => .bl _
theorem od_ge : OpD X (rI0 fun i j => .bl (decide (j ≤ i))) dGe := od_ii0 fun i j _ _ _ => .bl _
theorem od_mulI : OpD X (rI CMulW fun i j => .int (i * j)) dMulI := od_ii (fun i j h => by
  rw [Bool.and_eq_true] at h
  exact wide_mul (sm_lt h.1) (sm_lt h.2) (by decide) (by decide) (by decide)) fun i j _ _ _ => .int _
theorem od_div : OpD X (rI CDivW fun i j => .int (i / j)) dDiv := od_ii (fun i j h => by
  rw [Bool.and_eq_true] at h
  exact wide_div (of_decide_eq_true h.1) (sm_lt h.2) (by decide) (by decide)) fun i j _ _ _ => .int _
theorem od_mod : OpD X (rI (fun _ j => 0 < j) fun i j => .int (i % j)) dMod := od_ii (fun i j h => of_decide_eq_true h) fun i j _ _ _ => .int _
theorem od_pow : OpD X (rI CPow fun i j => .int (i ^ j.toNat)) dPow := od_ii (fun i j h => by
  simp only [Bool.and_eq_true, decide_eq_true_eq] at h
  exact ⟨h.1.1.2, by omega, h.2⟩) fun i j _ _ _ => .int _
/-! + -/
def dAdd : D → D → Option D
  | .int i, .int j => some (.int (i + j))
  | .str s, .str t => if okLen (s.length + t.length) then some (.str (s ++ t)) else none
  | .tup l, .tup m => if okLen (l.length + m.length) then some (.tup (l ++ m)) else none
  | .lst l, .lst m => if okLen (l.length + m.length) then some (.lst (l ++ m)) else none
  | _, _ => none
theorem al_not {S : List Addr} {H : Hp} {p : Addr} (al : ∀ a ∈ S, ∃ o, H a = some o ∧ Own o) (hp : H p = none) : p ∉ S := fun z => by
  obtain ⟨o, e, _⟩ := al p z
  rw [hp] at e; cases e
theorem new_tup {K : PySem.W.Frag} {mg : Str → Option Value} {S : List Addr} {H : Hp} {p : Addr} {vs : List V} {ds : List D} (al : ∀ a ∈ S, ∃ o, H a = some o ∧ Own o) (hp : H p = none) (r : Rfs K mg (hide S H) ds vs) : Rf K mg (hide S (upd H p (.tup vs))) (.tup ds) (.ref p) :=
  .tup (.of (hide_some.mpr ⟨al_not al hp, upd_same⟩)) (r.mono (hide_grow _ (Grow.upd hp)))
theorem new_lst {K : PySem.W.Frag} {mg : Str → Option Value} {S : List Addr} {H : Hp} {p : Addr} {vs : List V} {ds : List D} (al : ∀ a ∈ S, ∃ o, H a = some o ∧ Own o) (hp : H p = none) (r : Rfs K mg (hide S H) ds vs) : Rf K mg (hide S (upd H p (.lst vs))) (.lst ds) (.ref p) :=
  .lst (hide_some.mpr ⟨al_not al hp, upd_same⟩) (r.mono (hide_grow _ (Grow.upd hp)))
abbrev rAddD (K : PySem.W.Frag) : R2 := fun x y H Q => (∃ i j, x = .int i ∧ y = .int j ∧ Q (.int (i + j)) H) ∨ (∃ i j, x = .str i ∧ y = .str j ∧ i.length + j.length ≤ sizeLine ∧ Q (.str (i ++ j)) H) ∨ rCatA K x y H Q ∨ rCat x y H Q
theorem op_addD : OpR X (binaryOp .Add) (rAddD X.K) := OpR.or op_add (OpR.or op_add_str (OpR.or op_catA op_cat))
theorem od_add : OpD X (rAddD X.K) dAdd := fun S H d1 d2 d v1 v2 Q al r1 r2 e q => by
  cases d1 <;> cases d2 <;> first | (cases e; done) | skip
  · cases e
    exact .inl ⟨_, _, r1.int_inv, r2.int_inv, q _ H (Grow.refl H) (.int _)⟩
  · obtain ⟨h, e⟩ := ifSome' e
    subst e
    exact .inr (.inl ⟨_, _, r1.str_inv, r2.str_inv, okLen_le h, q _ H (Grow.refl H) (.str _)⟩)
  · obtain ⟨h, e⟩ := ifSome' e
    subst e
    obtain ⟨a, vs, rfl, h1, h1', q1⟩ := r1.tup_inv
    obtain ⟨b, ws, rfl, h2, h2', q2⟩ := r2.tup_inv
    refine .inr (.inr (.inl ⟨a, b, vs, ws, rfl, rfl, h1, h2, by rw [← q1.length, ← q2.length]; exact okLen_le h, fun z => ?_, fun z1 z2 => ?_, fun z1 z2 p hp => ?_⟩))
    · subst z
      cases q1
      exact q _ H (Grow.refl H) (.tup h2' q2)
    · subst z2
      cases q2
      rw [List.append_nil] at q
      exact q _ H (Grow.refl H) (.tup h1' q1)
    · exact q _ _ (Grow.upd hp) (new_tup al hp (q1.append q2))
  · obtain ⟨h, e⟩ := ifSome' e
    subst e
    obtain ⟨a, vs, rfl, h1, q1⟩ := r1.lst_inv
    obtain ⟨b, ws, rfl, h2, q2⟩ := r2.lst_inv
    exact .inr (.inr (.inr ⟨a, b, vs, ws, rfl, rfl, h1, h2, by rw [← q1.length, ← q2.length]; exact okLen_le h, fun p hp => q _ _ (Grow.upd hp) (new_lst al hp (q1.append q2))⟩))
def dAddL : D → D → Option (List D)
  | .lst l, .lst m => if okLen (l.length + m.length) then some (l ++ m) else none
  | _, _ => none
theorem oo_add : OpO X rCat dAddL := fun S H d1 d2 d v1 v2 Q al r1 r2 e q => by
  cases d1 <;> cases d2 <;> first | (cases e; done) | skip
  obtain ⟨h, e⟩ := ifSome' e
  subst e
  obtain ⟨a, vs, rfl, h1, q1⟩ := r1.lst_inv
  obtain ⟨b, ws, rfl, h2, q2⟩ := r2.lst_inv
  exact ⟨a, b, vs, ws, rfl, rfl, h1, h2, by rw [← q1.length, ← q2.length]; exact okLen_le h, fun p hp => q p _ hp (q1.append q2)⟩
/-! * -/
def repL (l : List D) (k : Nat) : List D := (List.replicate k l).flatten
def dMul : D → D → Option D
  | .int i, .int j => if sm i && sm j then some (.int (i * j)) else none
  | .lst l, .int k => if small62 k && okLen (l.length * k.toNat) then some (.lst (repL l k.toNat)) else none
  | .tup l, .int k => if !l.isEmpty && decide (2 ≤ k) && decide (k ≤ 1000) && decide (l.length ≤ 1000) then some (.tup (repL l k.toNat)) else none
  | _, _ => none
abbrev rMulD (K : PySem.W.Frag) : R2 := fun x y H Q => (rI CMulW fun i j => .int (i * j)) x y H Q ∨ rRep x y H Q ∨ rRepT K x y H Q
theorem op_mulD : OpR X (binaryOp .Mult) (rMulD X.K) := OpR.or op_mulW (OpR.or op_rep op_repT)
theorem od_mul : OpD X (rMulD X.K) dMul := fun S H d1 d2 d v1 v2 Q al r1 r2 e q => by
  cases d1 <;> cases d2 <;> first | (cases e; done) | skip
  · exact .inl (od_mulI S H _ _ _ _ _ Q al r1 r2 e q)
  · obtain ⟨h, e⟩ := ifSome' e
    subst e
    simp only [Bool.and_eq_true, decide_eq_true_eq, Bool.not_eq_true'] at h
    obtain ⟨a, vs, rfl, h1, h1', q1⟩ := r1.tup_inv
    refine .inr (.inr ⟨a, _, vs, rfl, r2.int_inv, h1, fun z => ?_, h.1.1.2, h.1.2, by rw [← q1.length]; exact h.2, fun p hp => q _ _ (Grow.upd hp) (new_tup al hp (q1.rep _))⟩)
    subst z
    cases q1
    simp at h
  · obtain ⟨h, e⟩ := ifSome' e
    subst e
    rw [Bool.and_eq_true] at h
    obtain ⟨a, vs, rfl, h1, q1⟩ := r1.lst_inv
    have h3 := small62_of h.1
    exact .inr (.inl ⟨a, _, vs, rfl, r2.int_inv, h1, by omega, by omega, by rw [← q1.length]; exact okLen_le h.2, fun p hp => q _ _ (Grow.upd hp) (new_lst al hp (q1.rep _))⟩)
def dMulL : D → D → Option (List D)
  | .lst l, .int k => if small62 k && okLen (l.length * k.toNat) then some (repL l k.toNat) else none
  | _, _ => none
theorem oo_mul : OpO X rRep dMulL := fun S H d1 d2 d v1 v2 Q al r1 r2 e q => by
  cases d1 <;> cases d2 <;> first | (cases e; done) | skip
  obtain ⟨h, e⟩ := ifSome' e
  subst e
  rw [Bool.and_eq_true] at h
  obtain ⟨a, vs, rfl, h1, q1⟩ := r1.lst_inv
  have h3 := small62_of h.1
  exact ⟨a, _, vs, rfl, r2.int_inv, h1, by omega, by omega, by rw [← q1.length]; exact okLen_le h.2, fun p hp => q p _ hp (q1.rep _)⟩
/-! unary minus -/
def dNeg : D → Option D
  | .int i => some (.int (-i))
  | _ => none
theorem ud_neg : UnD X (rU fun i => .int (-i)) dNeg := fun S H d1 d v1 Q al r1 e q => by
  cases d1 <;> first | (cases e; done) | skip
  cases e
  exact ⟨_, r1.int_inv, q _ H (Grow.refl H) (.int _)⟩
/-! is None, is True -/
def isNonD : D → Bool
  | .non => true
  | _ => false
def dIs : D → D → Option D
  | a, .non => some (.bl (isNonD a))
  | .bl a, .bl b => some (.bl (decide (a = b)))
  | _, _ => none
def dIsNot : D → D → Option D
  | a, .non => some (.bl (!isNonD a))
  | .bl a, .bl b => some (.bl (!decide (a = b)))
  | _, _ => none
abbrev rIsD : R2 := fun x y H Q => (y = .non ∧ Q (.bl (decide (x = .non))) H) ∨ rIsB x y H Q
abbrev rIsNotD : R2 := fun x y H Q => (y = .non ∧ Q (.bl (!decide (x = .non))) H) ∨ rNotB x y H Q
theorem op_isD : OpR X (compareOp .Is) rIsD := OpR.or op_isN op_isBl
theorem op_isNotD : OpR X (compareOp .IsNot) rIsNotD := OpR.or op_notN op_notBl
theorem Rv.isNon {K : PySem.W.Frag} {mg : Str → Option Value} {S : List Addr} {H : Hp} {d : D} {v : V} (r : Rv K mg S H d v) : decide (v = .non) = isNonD d := by
  cases r with
  | rf r => cases r <;> rfl
  | lst _ _ => rfl
  | dK _ _ _ => rfl
  | dT _ _ _ => rfl
theorem od_is : OpD X rIsD dIs := fun S H d1 d2 d v1 v2 Q al r1 r2 e q => by
  cases d2 with
  | non => 
    have e' : some (D.bl (isNonD d1)) = some d := by
      cases d1 <;> exact e
    cases e'
    exact .inl ⟨r2.non_inv, by rw [r1.isNon]; exact q _ H (Grow.refl H) (.bl _)⟩
  | bl b =>
    cases d1 <;> first | (cases e; done) | skip
    cases e
    exact .inr ⟨_, _, r1.bl_inv, r2.bl_inv, q _ H (Grow.refl H) (.bl _)⟩
  | _ => cases d1 <;> cases e
theorem od_isNot : OpD X rIsNotD dIsNot := fun S H d1 d2 d v1 v2 Q al r1 r2 e q => by
  cases d2 with
  | non => 
    have e' : some (D.bl (!isNonD d1)) = some d := by
      cases d1 <;> exact e
    cases e'
    exact .inl ⟨r2.non_inv, by rw [r1.isNon]; exact q _ H (Grow.refl H) (.bl _)⟩
  | bl b =>
    cases d1 <;> first | (cases e; done) | skip
    cases e
    exact .inr ⟨_, _, r1.bl_inv, r2.bl_inv, q _ H (Grow.refl H) (.bl _)⟩
  | _ => cases d1 <;> cases e
/-! subscripts -/
theorem ifSomeO {α : Type} {c : Bool} {x : Option α} {r : α} (e : (if c then x else none) = some r) : c = true ∧ x = some r := by
  cases c with
  | true => exact ⟨rfl, by simpa using e⟩
  | false => cases e
def atD (l : List D) (i : Int) : Option D := atI l i
theorem Rfs.atI {K : PySem.W.Frag} {mg : Str → Option Value} {G : Hp} {ds : List D} {vs : List V} {i : Int} {d : D} (r : Rfs K mg G ds vs) (e : L2.atI ds i = some d) : ∃ v, L2.atI vs i = some v ∧ Rf K mg G d v := by
  unfold L2.atI at e ⊢
  rw [← r.length]
  obtain ⟨j, e1, e2⟩ := bindO e
  rw [e1]
  exact r.get e2
def dIx : D → D → Option D
  | .lst l, .int i => atI l i
  | .tup l, .int i => atI l i
  | .str z, .int i => if okLen z.length then (atI z.cps.toList i).map fun c => .str ⟨#[c]⟩ else none
  | _, _ => none
theorem od_ix : OpD X (rIx X.K) dIx := fun S H d1 d2 d v1 v2 Q al r1 r2 e q => by
  cases d1 <;> cases d2 <;> first | (cases e; done) | skip
  · rename_i z i
    obtain ⟨h, e⟩ := ifSomeO (show (if okLen z.length then (atI z.cps.toList i).map fun c => D.str ⟨#[c]⟩ else none) = some d from e)
    cases hc : atI z.cps.toList i with
    | none => rw [hc] at e; cases e
    | some c =>
      rw [hc] at e
      cases e
      exact .inr (.inr ⟨z, i, c, r1.str_inv, r2.int_inv, okLen_le h, hc, q _ H (Grow.refl H) (.str _)⟩)
  · obtain ⟨a, vs, rfl, h1, h1', q1⟩ := r1.tup_inv
    obtain ⟨v, ev, rv⟩ := q1.atI (show L2.atI _ _ = some d from e)
    exact .inr (.inl ⟨a, vs, _, v, rfl, r2.int_inv, h1, ev, q v H (Grow.refl H) rv⟩)
  · obtain ⟨a, vs, rfl, h1, q1⟩ := r1.lst_inv
    obtain ⟨v, ev, rv⟩ := q1.atI (show L2.atI _ _ = some d from e)
    exact .inl ⟨a, vs, _, v, rfl, r2.int_inv, .of h1, ev, q v H (Grow.refl H) rv⟩
/-! slices -/
def cutD (l : List D) (lo hi : Option Int) : List D := (l.drop (HT.sIx l.length 0 lo)).take (HT.sIx l.length l.length hi - HT.sIx l.length 0 lo)
theorem Rfs.cut {K : PySem.W.Frag} {mg : Str → Option Value} {G : Hp} {ds : List D} {vs : List V} (r : Rfs K mg G ds vs) (lo hi : Option Int) : Rfs K mg G (cutD ds lo hi) (cutV vs lo hi) := by
  unfold cutD cutV
  rw [← r.length]
  exact (r.drop _).take _
def dSl : D → Option Int → Option Int → Option D
  | .tup l, lo, hi => some (.tup (cutD l lo hi))
  | .lst l, lo, hi => some (.lst (cutD l lo hi))
  | _, _, _ => none
abbrev rSlD (K : PySem.W.Frag) : V → Option Int → Option Int → Hp → VK → Prop := fun x lo hi H Q => rSlA K x lo hi H Q ∨ rSlL K x lo hi H Q
theorem sl_D : SlR X (rSlD X.K) := SlR.or sl_tupA sl_list
theorem sd_sl : SlD X (rSlD X.K) dSl := fun S H d1 d lo hi v1 Q al r1 e q => by
  cases d1 <;> first | (cases e; done) | skip
  · cases e
    obtain ⟨a, vs, rfl, h1, h1', q1⟩ := r1.tup_inv
    refine .inl ⟨a, vs, rfl, h1, fun z => ?_, fun z p hp => q _ _ (Grow.upd hp) (new_tup al hp (q1.cut lo hi))⟩
    have ec : ∀ {ds : List D}, ds.length = vs.length → cutD ds lo hi = ds := fun {ds} hl => by
      unfold cutD
      rw [hl, z.1, z.2]
      simp [← hl]
    rw [ec q1.length] at q
    exact q _ H (Grow.refl H) (.tup h1' q1)
  · cases e
    obtain ⟨a, vs, rfl, h1, q1⟩ := r1.lst_inv
    exact .inr ⟨a, vs, rfl, .of h1, fun p hp => q _ _ (Grow.upd hp) (new_lst al hp (q1.cut lo hi))⟩
def dSlL : D → Option Int → Option Int → Option (List D)
  | .lst l, lo, hi => some (cutD l lo hi)
  | _, _, _ => none
theorem so_sl : SlO X (rSlL X.K) dSlL := fun S H d1 d lo hi v1 Q al r1 e q => by
  cases d1 <;> first | (cases e; done) | skip
  cases e
  obtain ⟨a, vs, rfl, h1, q1⟩ := r1.lst_inv
  exact ⟨a, vs, rfl, .of h1, fun p hp => q p _ hp (q1.cut lo hi)⟩
/-! ### built-ins -/
theorem Rvs.one {K : PySem.W.Frag} {mg : Str → Option Value} {S : List Addr} {H : Hp} {d : D} {vs : List V} (r : Rvs K mg S H [d] vs) : ∃ v, vs = [v] ∧ Rv K mg S H d v := by
  cases r with
  | cons r rs => cases rs; exact ⟨_, rfl, r⟩
theorem Rvs.two {K : PySem.W.Frag} {mg : Str → Option Value} {S : List Addr} {H : Hp} {d e : D} {vs : List V} (r : Rvs K mg S H [d, e] vs) : ∃ v w, vs = [v, w] ∧ Rv K mg S H d v ∧ Rv K mg S H e w := by
  cases r with
  | cons r rs =>
    cases rs with
    | cons r2 rs => cases rs; exact ⟨_, _, rfl, r, r2⟩
/-- a function of one argument, on argument lists -/
def f1 (g : D → Option D) : List D → Option D
  | [d] => g d
  | _ => none
def f1L (g : D → Option (List D)) : List D → Option (List D)
  | [d] => g d
  | _ => none
theorem ca1 {r : List V → Hp → VK → Prop} {g : D → Option D} (h : ∀ (S : List Addr) (H : Hp) (d1 d : D) (v1 : V) (Q : VK), (∀ a ∈ S, ∃ o, H a = some o ∧ Own o) → Rv X.K X.mg S H d1 v1 → g d1 = some d → (∀ v H', Grow H H' → Rf X.K X.mg (hide S H') d v → Q v H') → r [v1] H Q) : CaD X r (f1 g) := fun S H ds d vs Q al r1 e q => by
  match ds, r1, e with
  | [d1], r1, e =>
    obtain ⟨v, rfl, r2⟩ := r1.one
    exact h S H d1 d v Q al r2 e q
  | [], _, e => cases e
  | _ :: _ :: _, _, e => cases e
theorem co1 {r : List V → Hp → VK → Prop} {g : D → Option (List D)} (h : ∀ (S : List Addr) (H : Hp) (d1 : D) (d : List D) (v1 : V) (Q : VK), (∀ a ∈ S, ∃ o, H a = some o ∧ Own o) → Rv X.K X.mg S H d1 v1 → g d1 = some d → (∀ p H1 vs, Grow H H1 → H1 p = none → Rfs X.K X.mg (hide S H1) d vs → Q (.ref p) (upd H1 p (.lst vs))) → r [v1] H Q) : CaO X r (f1L g) := fun S H ds d vs Q al r1 e q => by
  match ds, r1, e with
  | [d1], r1, e =>
    obtain ⟨v, rfl, r2⟩ := r1.one
    exact h S H d1 d v Q al r2 e q
  | [], _, e => cases e
  | _ :: _ :: _, _, e => cases e
def lenD : D → Option D
  | .str s => if okLen s.length then some (.int s.length) else none
  | .tup l => some (.int l.length)
  | .lst l => some (.int l.length)
  | _ => none
abbrev rLen (K : PySem.W.Frag) : List V → Hp → VK → Prop := fun xs H Q => ∃ x n, xs = [x] ∧ LenV K x H n ∧ Q (.int n) H
theorem ca_len : CaD X (rLen X.K) (f1 lenD) := ca1 fun S H d1 d v1 Q al r1 e q => by
  cases d1 <;> first | (cases e; done) | skip
  · obtain ⟨h, e⟩ := ifSome' e
    subst e
    rw [r1.str_inv]
    exact ⟨_, _, rfl, ⟨okLen_le h, rfl⟩, q _ H (Grow.refl H) (.int _)⟩
  · cases e
    obtain ⟨a, vs, rfl, h1, h1', q1⟩ := r1.tup_inv
    refine ⟨_, _, rfl, .inr ⟨vs, h1, rfl⟩, ?_⟩
    rw [← q1.length]
    exact q _ H (Grow.refl H) (.int _)
  · cases e
    obtain ⟨a, vs, rfl, h1, q1⟩ := r1.lst_inv
    refine ⟨_, _, rfl, .inl ⟨vs, .of h1, rfl⟩, ?_⟩
    rw [← q1.length]
    exact q _ H (Grow.refl H) (.int _)
def absD : D → Option D
  | .int i => some (.int (if i < 0 then -i else i))
  | _ => none
theorem ca_abs : CaD X (fun xs H Q => ∃ i, xs = [.int i] ∧ Q (.int (if i < 0 then -i else i)) H) (f1 absD) := ca1 fun S H d1 d v1 Q al r1 e q => by
  cases d1 <;> first | (cases e; done) | skip
  cases e
  exact ⟨_, by rw [r1.int_inv], q _ H (Grow.refl H) (.int _)⟩
def intD : D → Option D
  | .int i => some (.int i)
  | .bl k => some (.int (if k then 1 else 0))
  | _ => none
theorem ca_int : CaD X (fun xs H Q => (∃ i, xs = [.int i] ∧ Q (.int i) H) ∨ ∃ k, xs = [.bl k] ∧ Q (.int (if k then 1 else 0)) H) (f1 intD) := ca1 fun S H d1 d v1 Q al r1 e q => by
  cases d1 <;> first | (cases e; done) | skip
  · cases e
    exact .inr ⟨_, by rw [r1.bl_inv], q _ H (Grow.refl H) (.int _)⟩
  · cases e
    exact .inl ⟨_, by rw [r1.int_inv], q _ H (Grow.refl H) (.int _)⟩
def f2 (g : D → D → Option D) : List D → Option D
  | [a, b] => g a b
  | _ => none
def max2D : D → D → Option D
  | .int i, .int j => some (.int (if j > i then j else i))
  | _, _ => none
def min2D : D → D → Option D
  | .int i, .int j => some (.int (if j < i then j else i))
  | _, _ => none
theorem ca2 {r : List V → Hp → VK → Prop} {g : D → D → Option D} (h : ∀ (S : List Addr) (H : Hp) (d1 d2 d : D) (v1 v2 : V) (Q : VK), (∀ a ∈ S, ∃ o, H a = some o ∧ Own o) → Rv X.K X.mg S H d1 v1 → Rv X.K X.mg S H d2 v2 → g d1 d2 = some d → (∀ v H', Grow H H' → Rf X.K X.mg (hide S H') d v → Q v H') → r [v1, v2] H Q) : CaD X r (f2 g) := fun S H ds d vs Q al r1 e q => by
  match ds, r1, e with
  | [d1, d2], r1, e =>
    obtain ⟨v, w, rfl, r2, r3⟩ := r1.two
    exact h S H d1 d2 d v w Q al r2 r3 e q
  | [], _, e => cases e
  | [_], _, e => cases e
  | _ :: _ :: _ :: _, _, e => cases e
theorem ca_max2 : CaD X (fun xs H Q => ∃ i j, xs = [.int i, .int j] ∧ Q (.int (if j > i then j else i)) H) (f2 max2D) := ca2 fun S H d1 d2 d v1 v2 Q al r1 r2 e q => by
  cases d1 <;> cases d2 <;> first | (cases e; done) | skip
  cases e
  rw [r1.int_inv, r2.int_inv]
  exact ⟨_, _, rfl, q _ H (Grow.refl H) (.int _)⟩
theorem ca_min2 : CaD X (fun xs H Q => ∃ i j, xs = [.int i, .int j] ∧ Q (.int (if j < i then j else i)) H) (f2 min2D) := ca2 fun S H d1 d2 d v1 v2 Q al r1 r2 e q => by
  cases d1 <;> cases d2 <;> first | (cases e; done) | skip
  cases e
  rw [r1.int_inv, r2.int_inv]
  exact ⟨_, _, rfl, q _ H (Grow.refl H) (.int _)⟩
/-- a list of ints, of bools -/
def getInts : List D → Option (List Int)
  | [] => some []
  | .int i :: r => (getInts r).map (i :: ·)
  | _ :: _ => none
theorem getInts_map : ∀ {l : List D} {ns : List Int}, getInts l = some ns → l = ns.map D.int
  | [], _, e => by cases e; rfl
  | .int i :: r, _, e => by
    unfold getInts at e
    cases h : getInts r with
    | none => rw [h] at e; cases e
    | some ns => rw [h] at e; cases e; rw [getInts_map h]; rfl
  | .non :: _, _, e => by cases e
  | .bl _ :: _, _, e => by cases e
  | .str _ :: _, _, e => by cases e
  | .tup _ :: _, _, e => by cases e
  | .lst _ :: _, _, e => by cases e
  | .dct _ :: _, _, e => by cases e
  | .set _ :: _, _, e => by cases e
  | .obj _ _ :: _, _, e => by cases e
  | .scr _ :: _, _, e => by cases e
@[simp] theorem getInts_of (ns : List Int) : getInts (ns.map D.int) = some ns := by
  induction ns with
  | nil => rfl
  | cons n r ih => simp [getInts, ih]
def getBls : List D → Option (List Bool)
  | [] => some []
  | .bl i :: r => (getBls r).map (i :: ·)
  | _ :: _ => none
theorem getBls_map : ∀ {l : List D} {ns : List Bool}, getBls l = some ns → l = ns.map D.bl
  | [], _, e => by cases e; rfl
  | .bl i :: r, _, e => by
    unfold getBls at e
    cases h : getBls r with
    | none => rw [h] at e; cases e
    | some ns => rw [h] at e; cases e; rw [getBls_map h]; rfl
  | .non :: _, _, e => by cases e
  | .int _ :: _, _, e => by cases e
  | .str _ :: _, _, e => by cases e
  | .tup _ :: _, _, e => by cases e
  | .lst _ :: _, _, e => by cases e
  | .dct _ :: _, _, e => by cases e
  | .set _ :: _, _, e => by cases e
  | .obj _ _ :: _, _, e => by cases e
  | .scr _ :: _, _, e => by cases e
@[simp] theorem getBls_of (ns : List Bool) : getBls (ns.map D.bl) = some ns := by
  induction ns with
  | nil => rfl
  | cons n r ih => simp [getBls, ih]
def sumD : D → Option D
  | .lst l => (getInts l).map fun ns => .int ns.sum
  | _ => none
theorem mapO {α β : Type} {x : Option α} {f : α → β} {r : β} (e : x.map f = some r) : ∃ a, x = some a ∧ f a = r := by
  cases x with
  | none => cases e
  | some a => exact ⟨a, rfl, Option.some.inj e⟩
theorem ca_sum : CaD X (rSum X.K) (f1 sumD) := ca1 fun S H d1 d v1 Q al r1 e q => by
  cases d1 <;> first | (cases e; done) | skip
  obtain ⟨ns, e1, rfl⟩ := mapO (show (getInts _).map _ = some d from e)
  have := getInts_map e1
  subst this
  obtain ⟨a, vs, rfl, h1, q1⟩ := r1.lst_inv
  have := q1.ints
  subst this
  exact ⟨a, ns, rfl, .of h1, q _ H (Grow.refl H) (.int _)⟩
def lmax : List Int → Option Int
  | [] => none
  | a :: r => some (r.foldl (fun m x => if x > m then x else m) a)
def lmin : List Int → Option Int
  | [] => none
  | a :: r => some (r.foldl (fun m x => if x < m then x else m) a)
theorem lmax_spec : ∀ (r : List Int) (a : Int), r.foldl (fun m x => if x > m then x else m) a ∈ a :: r ∧ ∀ y ∈ a :: r, y ≤ r.foldl (fun m x => if x > m then x else m) a
  | [], a => ⟨by simp, by simp⟩
  | b :: r, a => by
    have := lmax_spec r (if b > a then b else a)
    simp only [List.foldl_cons]
    refine ⟨?_, fun y hy => ?_⟩
    · have h := this.1
      simp only [List.mem_cons] at h ⊢
      by_cases c : b > a
      · simp only [c, if_true] at h ⊢
        rcases h with h | h <;> simp [h]
      · simp only [c, if_false] at h ⊢
        rcases h with h | h <;> simp [h]
    · have h := this.2
      have h0 := h (if b > a then b else a) (by simp)
      simp only [List.mem_cons] at hy
      rcases hy with rfl | rfl | hy
      · refine Int.le_trans ?_ h0
        split <;> omega
      · refine Int.le_trans ?_ h0
        split <;> omega
      · exact h y (by simp [hy])
theorem lmin_spec : ∀ (r : List Int) (a : Int), r.foldl (fun m x => if x < m then x else m) a ∈ a :: r ∧ ∀ y ∈ a :: r, r.foldl (fun m x => if x < m then x else m) a ≤ y
  | [], a => ⟨by simp, by simp⟩
  | b :: r, a => by
    have := lmin_spec r (if b < a then b else a)
    simp only [List.foldl_cons]
    refine ⟨?_, fun y hy => ?_⟩
    · have h := this.1
      simp only [List.mem_cons] at h ⊢
      by_cases c : b < a
      · simp only [c, if_true] at h ⊢
        rcases h with h | h <;> simp [h]
      · simp only [c, if_false] at h ⊢
        rcases h with h | h <;> simp [h]
    · have h := this.2
      have h0 := h (if b < a then b else a) (by simp)
      simp only [List.mem_cons] at hy
      rcases hy with rfl | rfl | hy
      · refine Int.le_trans h0 ?_
        split <;> omega
      · refine Int.le_trans h0 ?_
        split <;> omega
      · exact h y (by simp [hy])
def maxD : D → Option D
  | .lst l => (getInts l).bind fun ns => (lmax ns).map D.int
  | _ => none
def minD : D → Option D
  | .lst l => (getInts l).bind fun ns => (lmin ns).map D.int
  | _ => none
theorem ca_max : CaD X (rMax X.K) (f1 maxD) := ca1 fun S H d1 d v1 Q al r1 e q => by
  cases d1 <;> first | (cases e; done) | skip
  obtain ⟨ns, e1, e2⟩ := bindO (show (getInts _).bind _ = some d from e)
  obtain ⟨m, e3, rfl⟩ := mapO e2
  have := getInts_map e1
  subst this
  obtain ⟨a, vs, rfl, h1, q1⟩ := r1.lst_inv
  have := q1.ints
  subst this
  cases ns with
  | nil => cases e3
  | cons x r =>
    cases e3
    have sp := lmax_spec r x
    refine ⟨a, x :: r, rfl, .of h1, by simp, fun m hm hy => ?_⟩
    have : m = r.foldl (fun m x => if x > m then x else m) x := Int.le_antisymm (sp.2 m hm) (hy _ sp.1)
    subst this
    exact q _ H (Grow.refl H) (.int _)
theorem ca_min : CaD X (rMin X.K) (f1 minD) := ca1 fun S H d1 d v1 Q al r1 e q => by
  cases d1 <;> first | (cases e; done) | skip
  obtain ⟨ns, e1, e2⟩ := bindO (show (getInts _).bind _ = some d from e)
  obtain ⟨m, e3, rfl⟩ := mapO e2
  have := getInts_map e1
  subst this
  obtain ⟨a, vs, rfl, h1, q1⟩ := r1.lst_inv
  have := q1.ints
  subst this
  cases ns with
  | nil => cases e3
  | cons x r =>
    cases e3
    have sp := lmin_spec r x
    refine ⟨a, x :: r, rfl, .of h1, by simp, fun m hm hy => ?_⟩
    have : m = r.foldl (fun m x => if x < m then x else m) x := Int.le_antisymm (hy _ sp.1) (sp.2 m hm)
    subst this
    exact q _ H (Grow.refl H) (.int _)
def anyD : D → Option D
  | .lst l => (getBls l).map fun ns => .bl (ns.any id)
  | _ => none
def allD : D → Option D
  | .lst l => (getBls l).map fun ns => .bl (ns.all id)
  | _ => none
theorem ca_any : CaD X (rAny X.K) (f1 anyD) := ca1 fun S H d1 d v1 Q al r1 e q => by
  cases d1 <;> first | (cases e; done) | skip
  obtain ⟨ns, e1, rfl⟩ := mapO (show (getBls _).map _ = some d from e)
  have := getBls_map e1
  subst this
  obtain ⟨a, vs, rfl, h1, q1⟩ := r1.lst_inv
  have := q1.bls
  subst this
  exact ⟨a, ns, rfl, .of h1, q _ H (Grow.refl H) (.bl _)⟩
theorem ca_all : CaD X (rAll X.K) (f1 allD) := ca1 fun S H d1 d v1 Q al r1 e q => by
  cases d1 <;> first | (cases e; done) | skip
  obtain ⟨ns, e1, rfl⟩ := mapO (show (getBls _).map _ = some d from e)
  have := getBls_map e1
  subst this
  obtain ⟨a, vs, rfl, h1, q1⟩ := r1.lst_inv
  have := q1.bls
  subst this
  exact ⟨a, ns, rfl, .of h1, q _ H (Grow.refl H) (.bl _)⟩
def tupleD : D → Option D
  | .lst l => some (.tup l)
  | .tup l => some (.tup l)
  | _ => none
abbrev rTupleD (K : PySem.W.Frag) : List V → Hp → VK → Prop := fun xs H Q => ∃ p ys, xs = [.ref p] ∧ ((SqL K H p ys ∧ ∀ l, H l = none → Q (.ref l) (upd H l (.tup ys))) ∨ (SqT K H p ys ∧ Q (.ref p) H))
theorem ca_tuple : CaD X (rTupleD X.K) (f1 tupleD) := ca1 fun S H d1 d v1 Q al r1 e q => by
  cases d1 <;> first | (cases e; done) | skip
  · cases e
    obtain ⟨a, vs, rfl, h1, h1', q1⟩ := r1.tup_inv
    exact ⟨a, vs, rfl, .inr ⟨h1, q _ H (Grow.refl H) (.tup h1' q1)⟩⟩
  · cases e
    obtain ⟨a, vs, rfl, h1, q1⟩ := r1.lst_inv
    exact ⟨a, vs, rfl, .inl ⟨.of h1, fun p hp => q _ _ (Grow.upd hp) (new_tup al hp q1)⟩⟩
def listD : D → Option (List D)
  | .lst l => some l
  | .tup l => some l
  | .scr ns => some (ns.map D.int)
  | _ => none
abbrev rListD (K : PySem.W.Frag) : List V → Hp → VK → Prop := fun xs H Q => ∃ p ys, xs = [.ref p] ∧ (SqL K H p ys ∨ SqT K H p ys) ∧ ∀ l, H l = none → Q (.ref l) (upd H l (.lst ys))
theorem co_list : CaO X (rListD X.K) (f1L listD) := co1 fun S H d1 d v1 Q al r1 e q => by
  cases d1 <;> first | (cases e; done) | skip
  · cases e
    obtain ⟨a, vs, rfl, h1, h1', q1⟩ := r1.tup_inv
    exact ⟨a, vs, rfl, .inr h1, fun p hp => q p H vs (Grow.refl H) hp q1⟩
  · cases e
    obtain ⟨a, vs, rfl, h1, q1⟩ := r1.lst_inv
    exact ⟨a, vs, rfl, .inl (.of h1), fun p hp => q p H vs (Grow.refl H) hp q1⟩
  · cases e
    cases r1 with
    | rf r1 =>
      cases r1 with
      | scr h => exact ⟨_, _, rfl, .inl ((hide_le _ _).seqL h), fun p hp => q p H _ (Grow.refl H) hp (Rfs.of_ints _)⟩
/-! ### in -/
def dIn : D → D → Option D
  | d, .lst l => if pyOk 39 d && l.all (pyOk 39) then some (.bl (l.any fun z => dq z d)) else none
  | _, _ => none
def dNotIn : D → D → Option D
  | d, .lst l => if pyOk 39 d && l.all (pyOk 39) then some (.bl (!l.any fun z => dq z d)) else none
  | _, _ => none
theorem any_pys {d : D} (hd : pyOk 39 d = true) : ∀ (l : List D), l.all (pyOk 39) = true → (pys l).any (fun z => PyData.eqv z (py d)) = l.any fun z => dq z d
  | [], _ => rfl
  | a :: r, h => by
    simp only [List.all_cons, Bool.and_eq_true] at h
    simp only [pys, List.any_cons, eqv_dq 39 a d h.1 hd, any_pys hd r h.2]
theorem shaped_of39 {d : D} (h : pyOk 39 d = true) : SeqAt.shaped (py d) = true := by
  have := pyOk_ok 39 d h
  unfold SeqAt.shaped
  rw [this.1, Bool.true_and]
  exact decide_eq_true (by omega)
theorem Rv.dpL {K : PySem.W.Frag} {mg : Str → Option Value} {S : List Addr} {H : Hp} {l : List D} {v : V} (r : Rv K mg S H (.lst l) v) (h : l.all (pyOk 39) = true) : Dp K H v (.list (pys l)) := r.dp (n := 40) h
theorem od_in : OpD X (rInD X.K) dIn := fun S H d1 d2 d v1 v2 Q al r1 r2 e q => by
  cases d2 <;> first | (cases e; done) | (cases d1 <;> cases e; done) | skip
  rename_i l
  obtain ⟨h, e⟩ := ifSome' (show (if pyOk 39 d1 && l.all (pyOk 39) then some (D.bl (l.any fun z => dq z d1)) else none) = some d by cases d1 <;> exact e)
  subst e
  rw [Bool.and_eq_true] at h
  exact ⟨_, _, r1.dp h.1, r2.dpL h.2, shaped_of39 h.1, shaped_of (d := .lst l) h.2, by rw [any_pys h.1 l h.2]; exact q _ H (Grow.refl H) (.bl _)⟩
theorem od_notIn : OpD X (rNotInD X.K) dNotIn := fun S H d1 d2 d v1 v2 Q al r1 r2 e q => by
  cases d2 <;> first | (cases e; done) | (cases d1 <;> cases e; done) | skip
  rename_i l
  obtain ⟨h, e⟩ := ifSome' (show (if pyOk 39 d1 && l.all (pyOk 39) then some (D.bl (!l.any fun z => dq z d1)) else none) = some d by cases d1 <;> exact e)
  subst e
  rw [Bool.and_eq_true] at h
  exact ⟨_, _, r1.dp h.1, r2.dpL h.2, shaped_of39 h.1, shaped_of (d := .lst l) h.2, by rw [any_pys h.1 l h.2]; exact q _ H (Grow.refl H) (.bl _)⟩
/-! ### isinstance -/
inductive Bt where
  | int | bool | str | list | tuple
  deriving DecidableEq
def Bt.nm : Bt → String
  | .int => "int"
  | .bool => "bool"
  | .str => "str"
  | .list => "list"
  | .tuple => "tuple"
def isB : Bt → D → Option Bool
  | b, .non => some false
  | b, .bl _ => some (decide (b = .bool) || decide (b = .int))
  | b, .int _ => some (decide (b = .int))
  | b, .str _ => some (decide (b = .str))
  | b, .tup _ => some (decide (b = .tuple))
  | b, .lst _ => some (decide (b = .list))
  | _, _ => none
def tyNm : D → String
  | .non => "NoneType"
  | .bl _ => "bool"
  | .int _ => "int"
  | .str _ => "str"
  | .tup _ => "tuple"
  | _ => "list"
theorem kit_isB {K : PySem.W.Frag} {b : Bt} {d : D} {r : Bool} (e : isB b d = some r) : PySem.W.kitOne K (.type (tyNm d)) (.type b.nm) = some r := by
  cases d <;> first | (cases e; done) | skip
  all_goals (cases b <;> cases e <;> refine kit_ty ?_ <;> simp only [tyNm, Bt.nm] <;> decide +kernel)
theorem Rv.tyx {K : PySem.W.Frag} {mg : Str → Option Value} {S : List Addr} {H : Hp} {d : D} {v : V} {b : Bt} {r : Bool} (h : Rv K mg S H d v) (e : isB b d = some r) : TyX K H v (.type (tyNm d)) := by
  cases d with
  | non => rw [h.non_inv]; exact .base .non
  | bl b => rw [h.bl_inv]; exact .base (.bl b)
  | int i => rw [h.int_inv]; exact .base (.int i)
  | str s => rw [h.str_inv]; exact .base (.str s)
  | tup l =>
    obtain ⟨a, vs, rfl, h1, _, _⟩ := h.tup_inv
    rcases h1 with (h1 | ⟨o, h1⟩) | ⟨o, its, n, h1, h2, _⟩
    · exact .base (.tup h1)
    · exact .fTuple h1
    · exact .kTuple h1 h2
  | lst l =>
    obtain ⟨a, vs, rfl, h1, _⟩ := h.lst_inv
    exact .base (.lst h1)
  | dct l => cases e
  | set l => cases e
  | obj c l => cases e
  | scr l => cases e
/-- isinstance(e, T): the class is written -/
def eIsI (b : Bt) (f : Ef) : Ef := fun ρ => (f ρ).bind fun p => (isB b (p.1.res p.2)).bind fun k => some (.v (.bl k), p.2)
theorem de_isI {τ : List Ty} {e : Expr} {f : Ef} {p pos pos2 : Pos} {x T : Str} (b : Bt) (hg : Gl X x) (hm : X.mg x = none) (hv : bootBuiltins x = some (.builtin "isinstance")) (hg2 : Gl X T) (hm2 : X.mg T = none) (hv2 : bootBuiltins T = some (.type b.nm)) (he : DE X e τ f) (hn : x ≠ "__name__" := by decide) (hdb : (x == ("__debug__" : Str)) = false := by decide) (hn2 : T ≠ "__name__" := by decide) (hdb2 : (T == ("__debug__" : Str)) = false := by decide)
    (hs : starEach [e, .Name T pos2] X.env = (false, eval e X.env) :: starEach [.Name T pos2] X.env := by rfl) (hs2 : starEach [Expr.Name T pos2] X.env = (false, eval (.Name T pos2) X.env) :: starEach [] X.env := by rfl) (hpl : (backTo pos (starEach [Expr.Name T pos2] X.env)).any (·.1) = false := by rfl) :
    DE X (.Call (.Name x p) [e, .Name T pos2] [] pos) τ (eIsI b f) := pe_imp (pe_callB call_isi hg hm hv (pa_cons he (pa_cons (pe_bltn (v := .ty b.nm) (u := .type b.nm) hg2 hm2 hv2 rfl hn2 hdb2) pa_nil hs2) hs) hn hdb hs hpl) fun σ H Q ⟨R, ρ, fs, h, ρ', s, e, q⟩ => by
  obtain ⟨w, e1, e2⟩ := bindO e
  obtain ⟨k, e3, e4⟩ := bindO e2
  cases e4
  refine ⟨R, ρ, fs, w.1, w.2, s, e1, fun v H1 fs1 t1 s1 r => ?_⟩
  exact ⟨v, .ty b.nm, _, _, k, rfl, .ty _, (s1.res r).tyx e3, kit_isB e3, q _ H1 fs1 t1 s1 (.bl _)⟩
end
end TL

namespace TL
open PySem PySem.Spec PyProof.Rows L2

/-- a def of the text as it stands behind the top -/
structure Dfn (K : PySem.W.Frag) (mg : Str → Option Value) (x : Str) (st : Stmt) (ps : List Str) (f : Addr) (fd : FuncData) : Prop where
  fn : Fun K x x st f fd
  mg : mg x = some (.ref f)
  bd : Binds K fd ps []
/-- a def that may be called -/
structure Cal (P : Program) (w : World) (K : PySem.W.Frag) (mg : Str → Option Value) (base : Heap) (f : Addr) (fd : FuncData) (x : Str) (k : Nat) (ps : List Str) (sg : Sg) (G : Fm) : Prop where
  ok : FnD P w K mg base k f fd ps sg G
  mg : mg x = some (.ref f)
  kp : PySem.W.keepIn K (.ref f) = true
  bd : Binds K fd ps []
  len : ∀ ds r, G ds = some r → ds.length = sg.ps.length
section
variable {P : Program} {w : World} {K : PySem.W.Frag} {mg : Str → Option Value} {base : Heap} {f : Addr} {fd : FuncData} {x : Str} {k j : Nat} {ps : List Str} {sg : Sg} {G G' : Fm}
theorem Cal.mono (c : Cal P w K mg base f fd x j ps sg G) (h : j ≤ k) : Cal P w K mg base f fd x k ps sg G := ⟨FnOk.mono c.ok h, c.mg, c.kp, c.bd, c.len⟩
theorem Cal.of (c : Cal P w K mg base f fd x k ps sg G) (le : ∀ ds r, G' ds = some r → G ds = some r) : Cal P w K mg base f fd x k ps sg G' := ⟨c.ok.of le, c.mg, c.kp, c.bd, fun ds r h => c.len ds r (le ds r h)⟩
theorem runF_len {b : Sf} {n m : Nat} : ∀ ds r, runF b n m ds = some r → ds.length = n := fun ds r e => by
  unfold runF at e
  by_cases h : ds.length = n
  · exact h
  · rw [if_neg h] at e; cases e
/-- the rule for a def -/
theorem cal_ok {b : Sf} {τ' : List Ty} {st : Stmt} {N : List Str} (D : Dfn K mg x st ps f fd) (S : FnScope N ps (defScope st)) (γ : Gm) (m : Nat) (hn : sg.ps.length = ps.length := by rfl) (hm : sg.ps.length + m = N.length := by rfl)
    (hio : γ.io = ioOf (sg.ps.map Ty.io) := by rfl) (hret : γ.ret = sg.ret := by rfl) (hrty : γ.rty = sg.ps.map Ty.io ++ List.replicate m .no := by rfl) (hnx : leTb γ.rty τ' = true := by rfl) (hfall : sg.ret = .sh ∨ ∀ ρ ρ', b ρ ≠ some (.nx ρ'))
    (hbody : ∀ (cdv : Value) (A : Around) (outer : List PySem.Env) (s : Shared) (H : Hp) (E : XK), Room k (A.deeper (envOfC x (defScope st) s.heap.objs.size f cdv)) →
      DSs (cxOf CX0 P w K mg base N x (defScope st) f cdv A outer s H E).nox γ (defBody st) (sg.ps ++ List.replicate m .no) b τ') :
    Cal P w K mg base f fd x (k + 1) ps sg (runF b sg.ps.length m) :=
  ⟨fn_ok D.fn S sg γ m hn hm hio hret hrty hnx hfall hbody, D.mg, D.fn.kp, D.bd, runF_len⟩
/-- .. with a number of turns for its whiles -/
theorem Cal.ofN {F : Nat → Fm} (h : ∀ n, Cal P w K mg base f fd x k ps sg (F n)) (le : ∀ ds r, G ds = some r → ∃ n, F n ds = some r) : Cal P w K mg base f fd x k ps sg G :=
  ⟨FnD.ofN (fun n => (h n).ok) le, (h 0).mg, (h 0).kp, (h 0).bd, fun ds r h1 => by
    obtain ⟨n, h2⟩ := le ds r h1
    exact (h n).len ds r h2⟩
end
section
variable {X : Cx} {τ : List Ty} {e : Expr} {es : List Expr} {pos p : Pos} {f : Addr} {fd : FuncData} {x : Str} {k : Nat} {ps : List Str} {sg : Sg} {F : Fm}
theorem do_fn {g : Af} (c : Cal X.prog X.w X.K X.mg X.base f fd x k ps sg F) (hr : Room k X.A) (n : Nat) (hg : Gl X x) (ha : DA X (e :: es) τ g) (hps : sg.ps = List.replicate n .sh := by rfl) (hdb : (x == ("__debug__" : Str)) = false := by decide) (he : starEach (e :: es) X.env = (false, eval e X.env) :: starEach es X.env := by rfl) (hpl : (backTo pos (starEach es X.env)).any (·.1) = false := by rfl) :
    DO X (.Call (.Name x p) (e :: es) [] pos) τ (oCall F g) sg.ret := do_call c.ok hr hg c.mg c.kp c.bd ha n hps (fun ds r h => by rw [c.len ds r h, hps]; simp) hdb he hpl
theorem do_fnB {g : Af} (c : Cal X.prog X.w X.K X.mg X.base f fd x k ps sg F) (hr : Room k X.A) (n : Nat) (hg : Gl X x) (ha : DA X (e :: es) τ g) (hps : sg.ps = List.replicate n .sh := by rfl) (hdb : (x == ("__debug__" : Str)) = false := by decide) (he : starEach (e :: es) X.env = (false, eval e X.env) :: starEach es X.env := by rfl) (hpl : (backTo pos (starEach es X.env)).any (·.1) = false := by rfl) :
    DO X (.Call (.Name x p) (e :: es) [] pos) τ (oCallB sg.ret F g) sg.ret := do_callB' c.ok hr hg c.mg c.kp c.bd ha n hps (fun ds r h => by rw [c.len ds r h, hps]; simp) hdb he hpl
theorem do_fnI {g : Af} {t : Ty} (c : Cal X.prog X.w X.K X.mg X.base f fd x k ps sg F) (hr : Room k X.A) (i j n : Nat) (hg : Gl X x) (ha : DAi X (e :: es) τ g) (hps : sg.ps = ioPs n j t := by rfl) (ht : τ[i]? = some t := by rfl) (hno : t ≠ .no := by intro z; cases z) (hsh : t.io = t := by rfl) (hdb : (x == ("__debug__" : Str)) = false := by decide) (he : starEach (e :: es) X.env = (false, eval e X.env) :: starEach es X.env := by rfl) (hpl : (backTo pos (starEach es X.env)).any (·.1) = false := by rfl) :
    DO X (.Call (.Name x p) (e :: es) [] pos) τ (oCallI F i j g) sg.ret := do_callI i j n c.ok hr hg c.mg c.kp c.bd ha hps (fun ds r h => by rw [c.len ds r h, hps]; simp [ioPs]) ht hno hsh hdb he hpl
end
/-! ### names of built-ins -/
theorem bt_len : bootBuiltins "len" = some (.builtin "len") := by decide +kernel
theorem bt_abs : bootBuiltins "abs" = some (.builtin "abs") := by decide +kernel
theorem bt_sum : bootBuiltins "sum" = some (.builtin "sum") := by decide +kernel
theorem bt_max : bootBuiltins "max" = some (.builtin "max") := by decide +kernel
theorem bt_min : bootBuiltins "min" = some (.builtin "min") := by decide +kernel
theorem bt_any : bootBuiltins "any" = some (.builtin "any") := by decide +kernel
theorem bt_all : bootBuiltins "all" = some (.builtin "all") := by decide +kernel
theorem bt_sorted : bootBuiltins "sorted" = some (.builtin "sorted") := by decide +kernel
theorem bt_isinstance : bootBuiltins "isinstance" = some (.builtin "isinstance") := by decide +kernel
theorem bt_int : bootBuiltins "int" = some (.type "int") := by decide +kernel
theorem bt_bool : bootBuiltins "bool" = some (.type "bool") := by decide +kernel
theorem bt_str : bootBuiltins "str" = some (.type "str") := by decide +kernel
theorem bt_tuple : bootBuiltins "tuple" = some (.type "tuple") := by decide +kernel
theorem bt_list : bootBuiltins "list" = some (.type "list") := by decide +kernel
theorem bt_dict : bootBuiltins "dict" = some (.type "dict") := by decide +kernel
theorem bt_set : bootBuiltins "set" = some (.type "set") := by decide +kernel
theorem hu64 {k : Nat} {A : Around} (r : Room k A) : A.units + 64 < cLine := r.units
theorem hu65 {k : Nat} {A : Around} (r : Room k A) : A.units + 65 < cLine := by
  have := r.un
  omega
/-! ### blocks that do not fall through -/
def NN (f : Sf) : Prop := ∀ ρ ρ', f ρ ≠ some (.nx ρ')
theorem nn_ret {f : Ef} : NN (sRet f) := fun ρ ρ' e => by
  obtain ⟨p, _, e2⟩ := bindO e
  obtain ⟨p1, p2⟩ := p
  cases p1 <;> cases e2
theorem nn_retO {f : Of} : NN (sRetO f) := fun ρ ρ' e => by
  obtain ⟨p, _, e2⟩ := bindO e
  cases e2
theorem nn_retX {i : Nat} : NN (sRetX i) := fun ρ ρ' e => by cases e
theorem nn_retN : NN sRetN := fun ρ ρ' e => by cases e
theorem nn_seq {f g : Sf} (h : NN g) : NN (sSeq f g) := fun ρ ρ' e => by
  obtain ⟨o, _, e2⟩ := bindO e
  cases o with
  | nx r => exact h _ _ e2
  | _ => cases e2
theorem nn_if {t : Tf} {f g : Sf} (h : NN f) (k : NN g) : NN (sIf t f g) := fun ρ ρ' e => by
  obtain ⟨p, _, e2⟩ := bindO e
  cases hp : p.1 with
  | true => rw [hp] at e2; exact h _ _ e2
  | false => rw [hp] at e2; exact k _ _ e2
/-! ### slots forgotten ahead of a block -/
def sKb (ks : List Nat) (f : Sf) : Sf := fun ρ => f (kill ks ρ)
theorem dss_killB {X : Cx} {γ : Gm} {τ τ' : List Ty} {sts : List Stmt} {f : Sf} (ks : List Nat) (h : DSs X γ sts (killT ks τ) f τ') : DSs X γ sts τ (sKb ks f) τ' := pss_imp h fun D σ H ⟨R, ρ, fs, o, s, e, q⟩ => by
  obtain ⟨fs1, s1, sub⟩ := s.killS ks
  exact ⟨R, kill ks ρ, fs1, o, s1, e, q.mono ((Step.refl H fs).less sub) (Kp.refl _ _) (fun ρ' σ' H' fs' eo t' k' s' => by subst eo; exact q σ' H' fs' t' k' s') rfl rfl rfl⟩
/-! ### the law -/
/-- the law's promise: True at every script -/
def sgL : Sg := ⟨[.sh], .sh⟩
def lawF (F : Fm) : Prop := ∀ ns : List Int, ns.length ≤ 63 → ∃ r, F [.scr ns] = some (.bl true, r)
theorem law_sp {K : PySem.W.Frag} {mg : Str → Option Value} {F : Fm} (h : lawF F) {H : Hp} {a : Addr} {ns : List Int} (hl : ns.length ≤ 63) (hS : SqL K H a (ns.map V.int)) {E : XK} : spD K mg sgL F [.ref a] H (fun v _ => v = .bl true) E := by
  obtain ⟨r, e⟩ := h ns hl
  refine ⟨[], [.scr ns], [], .bl true, r, ⟨.cons (f := []) (g := []) (.sh (.scr ?_)) .nil, List.nodup_nil, fun a ha => nomatch ha⟩, e, fun v H' fs' fv _ _ rp => ?_⟩
  · have eq : hide [] H = H := by funext a; simp [hide]
    rw [show ([] : List Addr) ++ [] = [] from rfl, eq]
    exact hS
  · cases rp with
    | sh rf => cases rf; rfl
end TL

/-! ### sorted of tuples of ints -/
namespace TL
open PySem PySem.Spec PyProof.Rows L2
theorem lexLt_asym : ∀ (x y : List Int), HT.lexLt x y = true → HT.lexLt y x = false
  | [], [], h => by simp [HT.lexLt] at h
  | [], _ :: _, _ => rfl
  | _ :: _, [], h => by simp [HT.lexLt] at h
  | a :: x, b :: y, h => by
    rw [HT.lexLt_cons] at h ⊢
    by_cases e : a = b
    · subst e
      simp only [if_true] at h ⊢
      exact lexLt_asym x y h
    · rw [if_neg e] at h
      rw [if_neg (fun z => e z.symm)]
      have := of_decide_eq_true h
      exact decide_eq_false (by omega)
theorem lexLt_tr : ∀ (x y z : List Int), HT.lexLt y x = false → HT.lexLt z y = false → HT.lexLt z x = false
  | [], y, z, h1, h2 => by
    cases y with
    | nil => exact h2
    | cons b y =>
      cases z with
      | nil => rfl
      | cons c z => rfl
  | a :: x, [], z, h1, h2 => by simp [HT.lexLt] at h1
  | a :: x, b :: y, [], h1, h2 => by simp [HT.lexLt] at h2
  | a :: x, b :: y, c :: z, h1, h2 => by
    rw [HT.lexLt_cons] at h1 h2 ⊢
    by_cases e1 : b = a
    · subst e1
      by_cases e2 : c = b
      · subst e2
        simp only [if_true] at h1 h2 ⊢
        exact lexLt_tr x y z h1 h2
      · rw [if_neg e2] at h2 ⊢
        exact h2
    · rw [if_neg e1] at h1
      by_cases e2 : c = b
      · subst e2
        rw [if_neg e1]
        exact h1
      · rw [if_neg e2] at h2
        have a1 := of_decide_eq_false h1
        have a2 := of_decide_eq_false h2
        rw [if_neg (by omega)]
        exact decide_eq_false (by omega)
theorem lexLt_eq : ∀ (x y : List Int), HT.lexLt x y = false → HT.lexLt y x = false → x = y
  | [], [], _, _ => rfl
  | [], _ :: _, h, _ => by simp [HT.lexLt] at h
  | _ :: _, [], _, h => by simp [HT.lexLt] at h
  | a :: x, b :: y, h1, h2 => by
    rw [HT.lexLt_cons] at h1 h2
    by_cases e : a = b
    · subst e
      simp only [if_true] at h1 h2
      rw [lexLt_eq x y h1 h2]
    · rw [if_neg e] at h1
      rw [if_neg (fun z => e z.symm)] at h2
      have a1 := of_decide_eq_false h1
      have a2 := of_decide_eq_false h2
      omega
/-- sorted, as a function -/
def sortRows (l : List (List Int)) : List (List Int) := l.mergeSort fun a b => !HT.lexLt b a
theorem sortRows_perm (l : List (List Int)) : (sortRows l).Perm l := List.mergeSort_perm _ _
theorem sortRows_srt (l : List (List Int)) : (sortRows l).Pairwise fun a b => HT.lexLt b a = false := by
  have := List.pairwise_mergeSort (le := fun a b => !HT.lexLt b a) (fun a b c h1 h2 => by
    simp only [Bool.not_eq_true'] at h1 h2 ⊢
    exact lexLt_tr a b c h1 h2) (fun a b => by
    cases h : HT.lexLt b a with
    | false => simp
    | true => simp [lexLt_asym b a h]) l
  exact this.imp fun h => by simpa using h
theorem srt_uniq {α : Type} {lt : α → α → Bool} (ae : ∀ x y, lt x y = false → lt y x = false → x = y) : ∀ {l m : List α}, l.Perm m → (l.Pairwise fun a b => lt b a = false) → (m.Pairwise fun a b => lt b a = false) → l = m
  | [], m, p, _, _ => by simpa using p.symm.eq_nil
  | x :: l, [], p, _, _ => by simpa using p.eq_nil
  | x :: l, y :: m, p, h1, h2 => by
    have hxy : x = y := by
      have hx : x ∈ y :: m := p.mem_iff.mp (by simp)
      have hy : y ∈ x :: l := p.mem_iff.mpr (by simp)
      rcases List.mem_cons.mp hx with e | hx
      · exact e
      rcases List.mem_cons.mp hy with e | hy
      · exact e.symm
      exact ae x y ((List.pairwise_cons.mp h2).1 x hx) ((List.pairwise_cons.mp h1).1 y hy)
    subst hxy
    rw [srt_uniq ae p.cons_inv (List.pairwise_cons.mp h1).2 (List.pairwise_cons.mp h2).2]
end TL
namespace SrtO
open PySem PySem.Calls PyProof.Rows
/-- a tuple of ints -/
def IsRow (h : Heap) (v : Value) (ns : List Int) : Prop := ∃ (a : Addr) (us : List Value), v = .ref a ∧ IsTup h a us.toArray ∧ IntsAre us ns
theorem ints_inj : ∀ {us : List Value} {ns ms : List Int}, IntsAre us ns → IntsAre us ms → ns = ms := fun {us ns ms} h k => by
  have h1 := L2.vals_of_ints h
  have h2 := L2.vals_of_ints k
  have := L2.Vals.inj h1 h2
  exact (List.map_inj_right (fun a b e => by injection e)).mp this
theorem IsRow.inj {h : Heap} {v : Value} {ns ms : List Int} (x : IsRow h v ns) (y : IsRow h v ms) : ns = ms := by
  obtain ⟨a, us, rfl, ⟨o, e, _, n, d⟩, i⟩ := x
  obtain ⟨b, ws, e2, ⟨o', e', _, n', d'⟩, j⟩ := y
  cases e2
  rw [e] at e'; cases e'
  rw [d] at d'
  injection d' with d1 _
  have : us = ws := by simpa using congrArg Array.toList d1
  subst this
  exact ints_inj i j
open Classical in
noncomputable def rowOf (h : Heap) (v : Value) : List Int := if x : ∃ ns, IsRow h v ns then x.choose else []
theorem rowOf_eq {h : Heap} {v : Value} {ns : List Int} (x : IsRow h v ns) : rowOf h v = ns := by
  unfold rowOf
  have e : ∃ ns, IsRow h v ns := ⟨ns, x⟩
  rw [dif_pos e]
  exact e.choose_spec.inj x
theorem swo_row (k : Value → List Int) : Swo fun v u => HT.lexLt (k v) (k u) := ⟨fun x y h => TL.lexLt_asym _ _ h, fun x y z h1 h2 => TL.lexLt_tr _ _ _ h1 h2⟩
section
variable {prog : Program} {w : World} {A : Around} {E : Value → Shared → Prop} {s : Shared}
theorem kat_ints {b fin : Bool} {Q : Bool → Shared → Prop} : ∀ {xs ys : List Value} {ns ms : List Int} (i : Nat), IntsAre xs ns → IntsAre ys ms → fin = decide (ns.length < ms.length) → Q (HT.lexLt ns ms) s → PySem.W.KatLex prog w A b fin Q (xs.zip ys) i s
  | [], ys, ns, ms, i, hx, hy, hf, q => by
    have := L2.vals_of_ints hx
    cases ns with
    | nil =>
      refine PySem.W.kat_nil ?_
      rw [hf]
      cases ms <;> exact q
    | cons _ _ => cases this
  | x :: xs, [], ns, ms, i, hx, hy, hf, q => by
    have h1 := L2.vals_of_ints hx
    have h2 := L2.vals_of_ints hy
    cases ns with
    | nil => cases h1
    | cons n ns =>
      cases ms with
      | cons _ _ => cases h2
      | nil =>
        refine PySem.W.kat_nil ?_
        rw [hf]
        exact q
  | x :: xs, y :: ys, ns, ms, i, hx, hy, hf, q => by
    have h1 := L2.vals_of_ints hx
    have h2 := L2.vals_of_ints hy
    cases ns with
    | nil => cases h1
    | cons n ns =>
      cases ms with
      | nil => cases h2
      | cons m ms =>
        cases h1 with
        | cons r1 t1 =>
          cases h2 with
          | cons r2 t2 =>
            obtain ⟨t, rfl⟩ := r1
            obtain ⟨u, rfl⟩ := r2
            refine PySem.W.kat_cons (SeqAt.EqAt.int_int n t m u prog w _ _ ?_)
            refine PySem.W.kat_go (fun e1 => ?_) (fun e1 => ?_)
            · have ex : n = m := by simpa using e1
              subst ex
              refine PySem.W.kat_yes (kat_ints (i + 1) (L2.Vals.ints t1) (L2.Vals.ints t2) (by rw [hf]; simp) ?_)
              rw [HT.lexLt_cons, if_pos rfl] at q
              exact q
            · have ex : ¬ n = m := by simpa using e1
              rw [HT.lexLt_cons, if_neg ex] at q
              exact PySem.W.kat_no (TS.oneLt_ints _ q)
theorem row_cmp {vs : List Value} {k : Value → List Int} (hp : ∀ v ∈ vs, IsRow s.heap v (k v)) : Cmp prog w A s (tuples' true) (fun p => p.1 ∈ vs) (lt2 fun v u => HT.lexLt (k v) (k u)) := by
  intro p q hm hm'
  have h1 := hp _ hm
  have h2 := hp _ hm'
  show wpAny (model prog w) A (keyLt' (tuples' true) p.1 q.1) (fun r s' => s' = s ∧ r = HT.lexLt (k p.1) (k q.1)) (fun _ _ => False) s
  generalize k p.1 = x at h1 ⊢
  generalize k q.1 = y at h2 ⊢
  obtain ⟨a, us, e, ⟨o, ho, hc, n, hd⟩, hi⟩ := h1
  obtain ⟨a', us', e', ⟨o', ho', hc', n', hd'⟩, hi'⟩ := h2
  rw [e, e']
  refine PySem.W.kat_lt ho hd ho' hd' ?_
  refine kat_ints 0 hi hi' ?_ ⟨rfl, rfl⟩
  have l1 := hi.length
  have l2 := hi'.length
  simp [l1, l2]
theorem row_firsts {h : Heap} : ∀ {vs : List Value}, (∀ v ∈ vs, ∃ n ns, IsRow h v (n :: ns)) → ∃ fs : List Value, PySem.W.KatTups h vs fs ∧ fs.length = vs.length ∧ ∀ f ∈ fs, ∃ x t, f = Value.int x t
  | [], _ => ⟨[], PySem.W.KatTups.nil, rfl, fun _ hm => by simp at hm⟩
  | v :: vs, hp => by
    obtain ⟨fs, h1, h2, h3⟩ := row_firsts (vs := vs) fun v' hm => hp v' (List.mem_cons_of_mem _ hm)
    obtain ⟨x, ns, a, us, e, ⟨o, ho, hc, n, hd⟩, hi⟩ := hp v (List.mem_cons_self ..)
    subst e
    have hv := L2.vals_of_ints hi
    cases us with
    | nil => cases hv
    | cons u us =>
      cases hv with
      | cons r _ =>
        obtain ⟨t, rfl⟩ := r
        refine ⟨.int x t :: fs, PySem.W.KatTups.cons ho hc hd rfl h1, by rw [List.length_cons, List.length_cons, h2], fun f hm => ?_⟩
        rcases List.mem_cons.mp hm with z | z
        · exact ⟨x, t, z⟩
        · exact h3 f z
theorem rows_sortableO {a : Addr} {vs : List Value} {k : Value → List Int} (h0 : 0 < vs.length) (hp : ∀ v ∈ vs, IsRow s.heap v (k v)) (hne : ∀ v ∈ vs, k v ≠ []) (ha : ∀ o, s.heap.get? a = some o → o.cls ≠ .type "tuple") : SortableO prog w A s a vs fun v u => HT.lexLt (k v) (k u) := by
  intro h' keep
  have hp' : ∀ v ∈ vs, IsRow h' v (k v) := fun v hm => by
    obtain ⟨b, us, e, ⟨o, ho, hc, n, hd⟩, hi⟩ := hp v hm
    exact ⟨b, us, e, ⟨o, keep b o (fun z => by subst z; exact ha o ho hc) ho, hc, n, hd⟩, hi⟩
  obtain ⟨fs, h1, h2, h3⟩ := row_firsts (h := h') (vs := vs) fun v hm => by
    have := hp' v hm
    have hn := hne v hm
    generalize k v = x at this hn
    cases x with
    | nil => exact absurd rfl hn
    | cons n ns => exact ⟨n, ns, this⟩
  refine ⟨tuples' true, fun Q E hq => ?_, row_cmp hp'⟩
  refine PySem.W.kat_kind (T := .type "int") h1 (by omega) (fun f hm => ?_) (by rfl) ?_
  · obtain ⟨x, t, rfl⟩ := h3 f hm
    exact PySem.W.Looks.now
  · have e : (Value.type "int" != Value.type "tuple") = true := by first | decide +kernel | rfl | decide
    rw [e]
    exact hq
end
end SrtO
namespace TL
open PySem PySem.Spec PyProof.Rows L2
def RowsAt (K : PySem.W.Frag) (H : Hp) (rows : List (List Int)) (xs : List V) : Prop := Paired (fun ns x => ∃ t, x = V.ref t ∧ SqT K H t (ns.map V.int)) rows xs
def rSortedR (K : PySem.W.Frag) : List V → Hp → VK → Prop := fun vs H Q => ∃ (a : Addr) (xs : List V) (rows : List (List Int)), vs = [V.ref a] ∧ SqL K H a xs ∧ RowsAt K H rows xs ∧ (∀ r ∈ rows, r ≠ []) ∧
  ∀ ys p, RowsAt K H (sortRows rows) ys → H p = none → Q (.ref p) (upd H p (.lst ys))
theorem paired_mem {α β : Type} {F : α → β → Prop} : ∀ {l : List α} {m : List β}, Paired F l m → ∀ b ∈ m, ∃ a ∈ l, F a b
  | _, _, .nil, b, h => by simp at h
  | _, _, .cons r t, b, h => by
    rcases List.mem_cons.mp h with e | h
    · subst e; exact ⟨_, by simp, r⟩
    · obtain ⟨a, ha, f⟩ := paired_mem t b h
      exact ⟨a, by simp [ha], f⟩
theorem paired_map {α β γ : Type} {F : α → β → Prop} (g : γ → α) (k : γ → β) : ∀ {l : List γ}, (∀ c ∈ l, F (g c) (k c)) → Paired F (l.map g) (l.map k)
  | [], _ => .nil
  | c :: r, h => .cons (h c (by simp)) (paired_map g k fun d hd => h d (by simp [hd]))
section
variable {X : Cx}
theorem cr_sortedR : CallR X (.builtin "sorted") (rSortedR X.K) := by
  intro pins s σ H vs us Q I r h
  obtain ⟨a, xs, rows, rfl, hs, hr, hne, q⟩ := h
  obtain ⟨its, rv, hl, hz⟩ := I.list hs
  obtain ⟨u, rfl, ru⟩ := vals1 r
  obtain rfl : u = Value.ref a := ru
  obtain ⟨e1, e2⟩ := refs_back rv fun x m => by
    obtain ⟨ns, _, t, e, _⟩ := paired_mem hr x m
    exact ⟨t, e⟩
  have hrow : ∀ x ∈ xs, ∀ ns, (∃ t, x = V.ref t ∧ SqT X.K H t (ns.map V.int)) → ∀ u, RelV x u → SrtO.IsRow s.heap u ns := fun x _ ns ⟨t, e, hT⟩ u ru => by
    subst e
    cases (show u = Value.ref t from ru)
    obtain ⟨ts, rt, it, _⟩ := I.tuple hT
    exact ⟨t, ts, rfl, it, rt.ints⟩
  have hp : ∀ v ∈ its, SrtO.IsRow s.heap v (SrtO.rowOf s.heap v) ∧ SrtO.rowOf s.heap v ∈ rows := fun v hv => by
    obtain ⟨t, rfl⟩ := e2 v hv
    have hm : V.ref t ∈ xs := by rw [e1]; exact List.mem_map.mpr ⟨_, hv, rfl⟩
    obtain ⟨ns, hn, hx⟩ := paired_mem hr _ hm
    have w := hrow _ hm ns hx (.ref t) rfl
    rw [SrtO.rowOf_eq w]
    exact ⟨w, hn⟩
  have erows : its.map (SrtO.rowOf s.heap) = rows := by
    clear e1 hp
    have key : ∀ {rows : List (List Int)} {xs : List V} {its : List Value}, RowsAt X.K H rows xs → Vals xs its → its.map (SrtO.rowOf s.heap) = rows := by
      intro rows xs its hr
      induction hr generalizing its with
      | nil => intro rv; cases rv; rfl
      | cons h _ ih =>
        intro rv
        cases rv with
        | cons r rt =>
          rw [List.map_cons, ih rt]
          congr 1
          obtain ⟨t, e, hT⟩ := h
          subst e
          cases (show _ = Value.ref t from r)
          obtain ⟨ts, rt', it, _⟩ := I.tuple hT
          exact SrtO.rowOf_eq ⟨t, ts, rfl, it, rt'.ints⟩
    exact key hr rv
  refine SrtO.sorted_ord (SrtO.swo_row (SrtO.rowOf s.heap)) hl.isList (by rw [← rv.length]; exact hz) (fun h2 h₁ a' ha kk => ?_) fun out h1 h2 => ?_
  · refine SrtO.rows_sortableO (s := { s with heap := h₁ }) (by omega) (fun v hm => ?_) (fun v hm => hne _ (hp v hm).2) fun o e => ?_
    · obtain ⟨b, ws, e, it, hi⟩ := (hp v hm).1
      exact ⟨b, ws, e, it.keeps fun c o eo => (kk c o eo).2, hi⟩
    · have e' : some o = some _ := e.symm.trans ha
      cases e'
      intro c
      exact absurd (Value.type.inj c) (by decide)
  · have h3 : ∀ u ∈ out, ∃ a, u = Value.ref a := fun u hu => e2 u (h2.perm.mem_iff.mp hu)
    have esort : out.map (SrtO.rowOf s.heap) = sortRows rows := by
      refine srt_uniq (lt := HT.lexLt) (fun x y h k => lexLt_eq x y h k) ?_ ?_ (sortRows_srt rows)
      · rw [← erows]
        exact (h2.perm.map _).trans (sortRows_perm _).symm
      · exact List.pairwise_map.mpr h1
    have hys : RowsAt X.K H (sortRows rows) (out.map backV) := by
      rw [← esort]
      refine paired_map _ _ fun u hu => ?_
      have hm := h2.perm.mem_iff.mp hu
      obtain ⟨t, rfl⟩ := e2 u hm
      have hx : V.ref t ∈ xs := by rw [e1]; exact List.mem_map.mpr ⟨_, hm, rfl⟩
      obtain ⟨ns, hn, hxs⟩ := paired_mem hr _ hx
      have w := hrow _ hx ns hxs (.ref t) rfl
      rw [SrtO.rowOf_eq w]
      exact hxs
    obtain ⟨ep, he'⟩ := PyProof.Rows.sortedAll_at s.heap its out.toArray
    have hlen : (out.map backV).length ≤ sizeLine := by
      rw [List.length_map, h2.perm.length_eq, ← rv.length]
      exact hz
    exact ⟨.ref _, upd H (s.heap.objs.size + 1) (.lst (out.map backV)), I.laid (t' := s.toks) (fun _ _ => PyProof.Rows.sortedAll_old) (Nat.le_succ _) ⟨hlen, out, ep, vals_back h3, he'⟩, rfl, q _ _ hys (I.hok.fresh (Nat.le_succ _))⟩
def rowD (ns : List Int) : D := .tup (ns.map D.int)
def getRows : List D → Option (List (List Int))
  | [] => some []
  | .tup l :: r => (getInts l).bind fun ns => if ns.isEmpty then none else (getRows r).map (ns :: ·)
  | _ :: _ => none
theorem getRows_of : ∀ {rows : List (List Int)}, (∀ r ∈ rows, r ≠ []) → getRows (rows.map rowD) = some rows
  | [], _ => rfl
  | r :: rows, h => by
    have hr : r.isEmpty = false := by
      cases r with
      | nil => exact absurd rfl (h [] (by simp))
      | cons _ _ => rfl
    simp [getRows, rowD, hr]
    exact ⟨h r (by simp), getRows_of (rows := rows) fun x hx => h x (List.mem_cons_of_mem _ hx)⟩
theorem getRows_inv : ∀ {l : List D} {rows : List (List Int)}, getRows l = some rows → l = rows.map rowD ∧ ∀ r ∈ rows, r ≠ []
  | [], _, e => by cases e; exact ⟨rfl, by simp⟩
  | d :: r, rows, e => by
    cases d <;> first | (cases e; done) | skip
    rename_i l
    obtain ⟨ns, e1, e2⟩ := bindO (show (getInts l).bind _ = some rows from e)
    cases hn : ns with
    | nil => rw [hn] at e2; cases e2
    | cons n ns' =>
      rw [hn] at e2
      obtain ⟨rs, e3, e4⟩ := mapO (show (getRows r).map _ = some rows from e2)
      obtain ⟨h1, h2⟩ := getRows_inv e3
      subst e4
      refine ⟨?_, fun x hx => ?_⟩
      · rw [List.map_cons, ← h1, rowD, ← hn, getInts_map e1]
      · rcases List.mem_cons.mp hx with z | z
        · subst z; simp
        · exact h2 x z
def sortR : D → Option (List D)
  | .lst l => (getRows l).map fun rows => (sortRows rows).map rowD
  | _ => none
theorem rows_rf {K : PySem.W.Frag} {mg : Str → Option Value} {G : Hp} : ∀ {rows : List (List Int)} {vs : List V}, RowsAt K G rows vs → Rfs K mg G (rows.map rowD) vs
  | _, _, .nil => .nil
  | _, _, .cons ⟨t, e, h⟩ r => by
    subst e
    exact .cons (.tup h (Rfs.of_ints _)) (rows_rf r)
theorem rf_rows {K : PySem.W.Frag} {mg : Str → Option Value} {G : Hp} : ∀ {rows : List (List Int)} {vs : List V}, Rfs K mg G (rows.map rowD) vs → RowsAt K G rows vs
  | [], _, r => by cases r; exact .nil
  | ns :: rows, _, r => by
    cases r with
    | cons h r =>
      cases h with
      | tup hT q =>
        have := q.ints
        subst this
        exact .cons ⟨_, rfl, hT⟩ (rf_rows r)
theorem RowsAt.mono {K : PySem.W.Frag} {G G' : Hp} (e : Le G G') {rows : List (List Int)} {vs : List V} (h : RowsAt K G rows vs) : RowsAt K G' rows vs := Paired.mapP h fun _ _ ⟨t, a, b⟩ => ⟨t, a, e.seqT b⟩
/-- what a hidden heap shows of tuples that a whole heap shows -/
theorem RowsAt.hide {K : PySem.W.Frag} {S : List Addr} {H : Hp} (al : ∀ a ∈ S, ∃ o, H a = some o ∧ Own o) {rows : List (List Int)} {vs : List V} (h : RowsAt K H rows vs) : RowsAt K (hide S H) rows vs := Paired.mapP h fun _ _ ⟨t, a, b⟩ => by
  refine ⟨t, a, ?_⟩
  have hid : ∀ o, H t = some o → ¬ Own o → TL.hide S H t = some o := fun o e n => hide_some.mpr ⟨fun z => by
    obtain ⟨o', e', w⟩ := al t z
    rw [e] at e'; cases e'; exact n w, e⟩
  rcases b with (b | ⟨o, b⟩) | b
  · exact .inl (.inl (hid _ b fun z => z))
  · exact .inl (.inr ⟨o, hid _ b fun z => z⟩)
  · exact .inr b
theorem co_sortR : CaO X (rSortedR X.K) (f1L sortR) := co1 fun S H d1 d v1 Q al r1 e q => by
  cases d1 <;> first | (cases e; done) | skip
  rename_i l
  obtain ⟨rows, e1, rfl⟩ := mapO (show (getRows l).map _ = some d from e)
  obtain ⟨rfl, hne⟩ := getRows_inv e1
  obtain ⟨a, vs, rfl, h1, q1⟩ := r1.lst_inv
  exact ⟨a, vs, rows, rfl, .of h1, (rf_rows q1).mono (hide_le _ _), hne, fun ys p hy hp => q p H ys (Grow.refl H) hp (rows_rf (hy.hide al))⟩
def sortInts (ns : List Int) : List Int := ns.mergeSort fun a b => decide (a ≤ b)
theorem sortInts_perm (l : List Int) : (sortInts l).Perm l := List.mergeSort_perm _ _
theorem sortInts_srt (l : List Int) : (sortInts l).Pairwise (· ≤ ·) := by
  have := List.pairwise_mergeSort (le := fun a b : Int => decide (a ≤ b)) (fun a b c h1 h2 => by
    simp only [decide_eq_true_eq] at h1 h2 ⊢
    omega) (fun a b => by
    simp only [Bool.or_eq_true, decide_eq_true_eq]
    omega) l
  exact this.imp fun h => by simpa using h
theorem ints_uniq {l m : List Int} (p : l.Perm m) (h1 : l.Pairwise (· ≤ ·)) (h2 : m.Pairwise (· ≤ ·)) : l = m :=
  srt_uniq (lt := fun a b : Int => decide (a < b)) (fun x y a b => by
    have := of_decide_eq_false a
    have := of_decide_eq_false b
    omega) p (h1.imp fun h => decide_eq_false (by omega)) (h2.imp fun h => decide_eq_false (by omega))
def sortI : D → Option (List D)
  | .lst l => (getInts l).map fun ns => (sortInts ns).map D.int
  | _ => none
theorem co_sortI : CaO X (rSortedI X.K) (f1L sortI) := co1 fun S H d1 d v1 Q al r1 e q => by
  cases d1 <;> first | (cases e; done) | skip
  rename_i l
  obtain ⟨ns, e1, rfl⟩ := mapO (show (getInts l).map _ = some d from e)
  have := getInts_map e1
  subst this
  obtain ⟨a, vs, rfl, h1, q1⟩ := r1.lst_inv
  have := q1.ints
  subst this
  refine ⟨a, ns, rfl, .of h1, fun ns' p hp hs hn => ?_⟩
  rw [ints_uniq (hp.trans (sortInts_perm ns).symm) hs (sortInts_srt ns)]
  exact q p H _ (Grow.refl H) hn (Rfs.of_ints _)
end
/-! ### zip -/
def zipD (l m : List D) : List D := (l.zip m).map fun p => .tup [p.1, p.2]
def iZp (f : Af) : Itf := fun ρ => (f ρ).bind fun p => match p.1 with
  | [.v (.lst l), .v (.lst m)] => some (zipD l m, p.2)
  | [.v (.tup l), .v (.tup m)] => some (zipD l m, p.2)
  | _ => none
section
variable {K : PySem.W.Frag} {mg : Str → Option Value} {G : Hp}
theorem zip_get {l m : List D} {i : Nat} {d : D} (e : (zipD l m)[i]? = some d) : ∃ a b, l[i]? = some a ∧ m[i]? = some b ∧ d = .tup [a, b] := by
  unfold zipD at e
  rw [List.getElem?_map] at e
  cases h : (l.zip m)[i]? with
  | none => rw [h] at e; cases e
  | some p =>
    rw [h] at e
    cases e
    obtain ⟨a, b⟩ := p
    obtain ⟨h1, h2⟩ := List.getElem?_zip_eq_some.mp h
    exact ⟨a, b, h1, h2, rfl⟩
theorem walks_zipT {a b : Addr} {vs ws : List V} {l m : List D} (h : SqT K G a vs) (k : SqT K G b ws) (r : Rfs K mg G l vs) (q : Rfs K mg G m ws) : Walks K mg (RZ.ItzT K a b) (zipD l m) G := fun i S H al le => by
  have h1 : SqT K H a vs := (hide_le S H).seqT (le.seqT h)
  have k1 : SqT K H b ws := (hide_le S H).seqT (le.seqT k)
  refine ⟨fun d e => ?_, fun e => ?_⟩
  · obtain ⟨x, y, e1, e2, rfl⟩ := zip_get e
    obtain ⟨v, ev, rv⟩ := r.get e1
    obtain ⟨w, ew, rw'⟩ := q.get e2
    refine ⟨⟨vs, ws, v, w, h1, k1, ev, ew⟩, fun z H' ⟨T, v', w', ez, nT, eH, f1, f2⟩ => ?_⟩
    subst ez; subst eH
    have a1 := f1 vs h1
    have a2 := f2 ws k1
    rw [ev] at a1; cases a1
    rw [ew] at a2; cases a2
    exact ⟨Grow.upd nT, new_tup al nT (.cons (rv.mono le) (.one (rw'.mono le)))⟩
  · refine ⟨vs, ws, h1, k1, ?_⟩
    have := r.length
    have := q.length
    unfold zipD at e
    simp at e
    omega
theorem walks_zipL {a b : Addr} {vs ws : List V} {l m : List D} (h : G a = some (.lst vs)) (k : G b = some (.lst ws)) (r : Rfs K mg G l vs) (q : Rfs K mg G m ws) : Walks K mg (Itz K a b) (zipD l m) G := fun i S H al le => by
  have h1 : SqL K H a vs := .of (hide_le _ _ _ _ (le _ _ h))
  have k1 : SqL K H b ws := .of (hide_le _ _ _ _ (le _ _ k))
  refine ⟨fun d e => ?_, fun e => ?_⟩
  · obtain ⟨x, y, e1, e2, rfl⟩ := zip_get e
    obtain ⟨v, ev, rv⟩ := r.get e1
    obtain ⟨w, ew, rw'⟩ := q.get e2
    refine ⟨⟨vs, ws, v, w, h1, k1, ev, ew⟩, fun z H' ⟨T, v', w', ez, nT, eH, f1, f2⟩ => ?_⟩
    subst ez; subst eH
    have a1 := f1 vs h1
    have a2 := f2 ws k1
    rw [ev] at a1; cases a1
    rw [ew] at a2; cases a2
    exact ⟨Grow.upd nT, new_tup al nT (.cons (rv.mono le) (.one (rw'.mono le)))⟩
  · refine ⟨vs, ws, h1, k1, ?_⟩
    have := r.length
    have := q.length
    unfold zipD at e
    simp at e
    omega
end
section
variable {X : Cx} {γ : Gm} {τ : List Ty} {e e2 o : Expr} {es : List Expr} {p pos tpos : Pos} {elts : List Expr} {kk : Nat}
theorem di_zip {f : Af} (hg : Gl X "zip") (hm : X.mg "zip" = none) (ha : DA X [e, e2] τ f) (hs : starEach [e, e2] X.env = (false, eval e X.env) :: starEach [e2] X.env := by rfl) (hpl : (backTo pos (starEach [e2] X.env)).any (·.1) = false := by rfl) :
    DI X (.Tuple elts kk tpos) (.Call (.Name "zip" p) [e, e2] [] pos) τ (iZp f) := pi_imp (RZ.pi_zipA hg hm ha hs hpl) fun σ H Q ⟨R, ρ, fs, ds, ρ', s, eq, q⟩ => by
  obtain ⟨w, e1, e2⟩ := bindO eq
  obtain ⟨w1, w2⟩ := w
  simp only at e2
  refine ⟨R, ρ, fs, _, _, s, e1, fun vs H' fs' t s' r => ?_⟩
  split at e2
  · cases e2
    cases r with
    | cons r1 rs =>
      cases rs with
      | cons r2 rs =>
        cases rs
        cases r1 with
        | lst h1 q1 =>
          cases r2 with
          | lst h2 q2 => exact ⟨_, _, _, _, rfl, .inl ⟨.of (hide_le _ _ _ _ h1), .of (hide_le _ _ _ _ h2), q _ H' fs' t s' (walks_zipL h1 h2 q1 q2)⟩⟩
  · cases e2
    cases r with
    | cons r1 rs =>
      cases rs with
      | cons r2 rs =>
        cases rs
        cases r1 with
        | tup h1 q1 =>
          cases r2 with
          | tup h2 q2 => exact ⟨_, _, _, _, rfl, .inr ⟨(hide_le _ _).seqT h1, (hide_le _ _).seqT h2, q _ H' fs' t s' (walks_zipT h1 h2 q1 q2)⟩⟩
  · cases e2
/-! ### methods -/
def isLst : D → Bool
  | .lst _ => true
  | _ => false
def eMtL (g : D → List D → Option D) (f : Ef) (a : Af) : Ef := fun ρ => (f ρ).bind fun p => if isLst (p.1.res p.2) then (a p.2).bind fun q => (g (p.1.res q.2) (q.1.map fun h => h.res q.2)).bind fun d => some (.v d, q.2) else none
/-- a built-in type's method: list T is seen as one -/
theorem de_mtL {r : V → List V → Hp → VK → Prop} {g : D → List D → Option D} {f : Ef} {a : Af} {name : Str} {id : String} {apos cpos : Pos} (slot : Slot "list" name id) (hty : typeOf (.builtin id) = pure (.type "method_descriptor")) (hm : MtR X id r) (o' : MtD X "list" r g)
    (ho : DE X o τ f) (ha : DA X (e :: es) τ a)
    (hbase : attributeBase o name X.env (eval o X.env) = eval o X.env := by rfl)
    (hfew : ((backTo cpos (starEach (e :: es) X.env)).all (fun x => !x.1) && (backToKw cpos (keywordEach [] X.env)).all (fun x => x.1.isSome)
      && decide ((e :: es).length + ([] : List Keyword).length + (if ([] : List Keyword).isEmpty then 0 else 1) < 30)) = true := by rfl)
    (hline : (apos.endLine == cpos.line) = true := by rfl) (hs : starEach (e :: es) X.env = (false, eval e X.env) :: starEach es X.env := by rfl) (hplain : (backTo cpos (starEach es X.env)).any (·.1) = false := by rfl) :
    DE X (.Call (.Attribute o name apos) (e :: es) [] cpos) τ (eMtL g f a) := pe_imp (pe_bm PySem.F.plainAttrs_list slot hty hm ho ha hbase hfew hline hs hplain) fun σ H Q ⟨R, ρ, fs, h, ρ', s, eq, q⟩ => by
  obtain ⟨w, e1, e2⟩ := bindO eq
  obtain ⟨hl, e2⟩ := ifSomeO e2
  obtain ⟨z, e3, e4⟩ := bindO e2
  obtain ⟨d, e5, e6⟩ := bindO e4
  cases e6
  refine ⟨R, ρ, fs, w.1, w.2, s, e1, fun v H1 fs1 t1 s1 r1 => ⟨?_, R, w.2, fs1, z.1, z.2, s1, e3, fun vs H2 fs2 t2 s2 r2 => ?_⟩⟩
  · have rv := s1.res r1
    revert rv hl
    generalize w.1.res w.2 = dd
    intro hl rv
    cases dd <;> first | (cases hl; done) | skip
    obtain ⟨a, vs, rfl, h1, _⟩ := rv.lst_inv
    exact .inl ⟨rfl, _, .of h1⟩
  · exact o' (R ++ fs2) H2 _ _ _ v vs Q s2.own (s2.res (s1.holdH t2 r1)) (s2.ress r2) e5 fun v4 H4 g4 rf => q v4 H4 fs2 ((t1.trans t2).trans (Step.grow g4 _)) (s2.grow g4) rf
def indexD : D → List D → Option D
  | .lst l, [d] => if pyOk 39 d && l.all (pyOk 39) then (l.findIdx? fun z => dq z d).map fun j => .int (j : Nat) else none
  | _, _ => none
theorem pys_get : ∀ {l : List D} {i : Nat}, (pys l)[i]? = (l[i]?).map py
  | [], i => by simp [pys]
  | a :: r, 0 => by simp [pys]
  | a :: r, i + 1 => by simpa [pys] using pys_get (l := r) (i := i)
theorem mtd_index : MtD X "list" (rIndexD X.K) indexD := fun S H d1 ds d v1 vs Q al r1 rs e q => by
  match d1, ds, rs, e with
  | .lst l, [x], rs, e =>
    obtain ⟨v, rfl, r2⟩ := rs.one
    obtain ⟨h, e⟩ := ifSomeO (show (if pyOk 39 x && l.all (pyOk 39) then (l.findIdx? fun z => dq z x).map fun j => D.int (j : Nat) else none) = some d from e)
    rw [Bool.and_eq_true] at h
    obtain ⟨j, e1, rfl⟩ := mapO e
    obtain ⟨hj, e2, e3⟩ := List.findIdx?_eq_some_iff_getElem.mp e1
    have r1' := r1.dpL h.2
    obtain ⟨a, ws, rfl, h1, q1⟩ := r1.lst_inv
    have hall : ∀ i (hi : i < l.length), pyOk 39 l[i] = true := fun i hi => List.all_eq_true.mp h.2 _ (List.getElem_mem hi)
    refine ⟨a, v, py x, pys l, j, py l[j], rfl, rfl, r1', r2.dp h.1, shaped_of (d := .lst l) h.2, shaped_of39 h.1, ?_, ?_, fun m z' hm hz => ?_, q _ H (Grow.refl H) (.int _)⟩
    · rw [pys_get, List.getElem?_eq_getElem hj]; rfl
    · rw [eqv_dq 39 _ _ (hall j hj) h.1]; exact e2
    · rw [pys_get, List.getElem?_eq_getElem (by omega)] at hz
      cases hz
      rw [eqv_dq 39 _ _ (hall m (by omega)) h.1]
      have := e3 m hm
      simpa using this
/-! ### isinstance(x, (list, tuple)) -/
def eIsLT (f : Ef) : Ef := fun ρ => (f ρ).bind fun p => (isB .list (p.1.res p.2)).bind fun k => (isB .tuple (p.1.res p.2)).bind fun k' => some (.v (.bl (k || k')), p.2)
theorem de_isLT {f : Ef} {x : Str} {p2 p3 pt : Pos} {kt : Nat} (hg : Gl X x) (hm : X.mg x = none) (hv : bootBuiltins x = some (.builtin "isinstance")) (hgl : Gl X "list") (hml : X.mg "list" = none) (hvl : bootBuiltins "list" = some (.type "list")) (hgt : Gl X "tuple") (hmt : X.mg "tuple" = none) (hvt : bootBuiltins "tuple" = some (.type "tuple")) (he : DE X e τ f) (hn : x ≠ "__name__" := by decide) (hdb : (x == ("__debug__" : Str)) = false := by decide)
    (hs : starEach [e, .Tuple [.Name "list" p2, .Name "tuple" p3] kt pt] X.env = (false, eval e X.env) :: starEach [.Tuple [.Name "list" p2, .Name "tuple" p3] kt pt] X.env := by rfl) (hpl : (backTo pos (starEach [Expr.Tuple [.Name "list" p2, .Name "tuple" p3] kt pt] X.env)).any (·.1) = false := by rfl) :
    DE X (.Call (.Name x p) [e, .Tuple [.Name "list" p2, .Name "tuple" p3] kt pt] [] pos) τ (eIsLT f) :=
  pe_imp (pe_callB call_isiT hg hm hv (pa_cons he (pa_cons (pe_tup (pa_cons (pe_bltn (v := .ty "list") hgl hml hvl rfl) (pa_cons (pe_bltn (v := .ty "tuple") hgt hmt hvt rfl) pa_nil rfl) rfl)) pa_nil rfl) hs) hn hdb hs hpl) fun σ H Q ⟨R, ρ, fs, h, ρ', s, e, q⟩ => by
  obtain ⟨w, e1, e2⟩ := bindO e
  obtain ⟨k, e3, e4⟩ := bindO e2
  obtain ⟨k', e5, e6⟩ := bindO e4
  cases e6
  refine ⟨R, ρ, fs, w.1, w.2, s, e1, fun v H1 fs1 t1 s1 r => ⟨by decide, fun tp htp => ?_⟩⟩
  have g := Grow.upd (o := .tup [V.ty "list", V.ty "tuple"]) htp
  refine ⟨v, tp, [.ty "list", .ty "tuple"], .type (tyNm (w.1.res w.2)), [.type "list", .type "tuple"], k || k', rfl, upd_same, .cons (.ty "list") (.cons (.ty "tuple") .nil), ?_, ?_, ?_⟩
  · exact ((s1.grow g).res ((s1.holdH (Step.grow g fs1) r))).tyx e3
  · refine kitAny_cons (b := k) (kit_isB e3) (fun hk => ?_) (fun hk => by rw [hk]; rfl)
    refine kitAny_cons (b := k') (kit_isB e5) (fun hk' => ?_) (fun hk' => by rw [hk']; simp)
    rw [hk, hk']
    exact kitAny_nil
  · exact q _ _ fs1 (t1.trans (Step.grow g _)) (s1.grow g) (.bl _)
end
/-! ### constants of the module -/
structure KC (K : PySem.W.Frag) (m : Str → Option Value) (x : Str) (d : D) where
  v : V
  u : Value
  mg : m x = some u
  rl : RelV v u
  rf : ∀ G, Rf K m G d v
/-! ### a list of lists: o[i][j] = e, the indices quiet -/
abbrev Qf := Rho → Option D
def tQ (X : Cx) (τ : List Ty) (f : Qf) : TE := fun σ H Q => ∃ R ρ fs d, SR X.K X.mg R τ ρ σ H fs ∧ f ρ = some d ∧ ∀ v H', Grow H H' → Rf X.K X.mg (hide (R ++ fs) H') d v → Q v H'
abbrev DQ (X : Cx) (e : Expr) (τ : List Ty) (f : Qf) : Prop := PE X e (tQ X τ f)
def qVar (i : Nat) : Qf := fun ρ => some (ρ.getD i .non)
def qInt (n : Int) : Qf := fun _ => some (.int n)
section
variable {X : Cx} {γ : Gm} {τ : List Ty} {e ok ei ej : Expr} {p pp pos : Pos}
theorem dq_var {e : Expr} (i : Nat) (h : PE X e (tVar i)) (ht : τ[i]? = some .sh := by rfl) : DQ X e τ (qVar i) := pe_imp h fun σ H Q ⟨R, ρ, fs, d, s, e, q⟩ => by
  cases e
  obtain ⟨v, f, ev, r, _⟩ := s.get ht (by intro z; cases z)
  cases r with
  | sh r => exact ⟨v, ev, q v H (Grow.refl H) r⟩
theorem dq_int {i j} {pos : Pos} : DQ X (.Constant (.int i) j pos) τ (qInt i) := pe_imp pe_int fun σ H Q ⟨R, ρ, fs, d, s, e, q⟩ => by
  cases e
  exact q _ H (Grow.refl H) (.int _)
theorem Rps.split {K : PySem.W.Frag} {mg : Str → Option Value} {H G : Hp} : ∀ {ts : List Ty} {ds : List D} {vs : List V} {f : List Addr} {i : Nat} {t : Ty}, Rps K mg H G ts ds vs f → ts[i]? = some t →
    ∃ d v f1 fo f2, ds[i]? = some d ∧ vs[i]? = some v ∧ f = f1 ++ fo ++ f2 ∧ Rp K mg H G t d v fo ∧
      ∀ {H' G' : Hp} {d' : D} {fo' : List Addr}, (∀ a ∈ f1 ++ f2, H' a = H a) → Le G G' → Rp K mg H' G' t d' v fo' → Rps K mg H' G' ts (ds.set i d') vs (f1 ++ fo' ++ f2)
  | _, _, _, _, _, _, .nil, e => by simp at e
  | _, _, _, _, 0, t, .cons (d := d) (v := v) (f := f0) (g := g) h r, e => by
    simp at e
    subst e
    refine ⟨d, v, [], f0, g, rfl, rfl, by simp, h, fun {H' G' d' fo'} k le h' => ?_⟩
    exact .cons h' (r.mono le fun a ha => k a (by simpa using ha))
  | _, _, _, _, i + 1, t, .cons (d := d0) (v := v0) (f := f0) (g := g) h r, e => by
    obtain ⟨d, v, f1, fo, f2, e1, e2, ef, hp, k⟩ := Rps.split (i := i) r (by simpa using e)
    refine ⟨d, v, f0 ++ f1, fo, f2, by simpa using e1, by simpa using e2, by rw [ef]; simp, hp, fun {H' G' d' fo'} kk le h' => ?_⟩
    have := Rps.cons (h.mono le fun a ha => kk a (by simp [ha])) (k (fun a ha => kk a (by simp at ha ⊢; rcases ha with h | h <;> simp [h])) le h')
    simpa using this
def sSetIx2 (i : Nat) (f : Ef) (fi fj : Qf) : Sf := fun ρ => (f ρ).bind fun p => (fi p.2).bind fun di => (fj p.2).bind fun dj => match p.1, di, dj, p.2.getD i .non with
  | .v d, .int k, .int m, .lst l => (ixN l.length k).bind fun j => (l[j]?).bind fun c => match c with
      | .lst r => (setL r m d).bind fun r' => some (.nx (p.2.set i (.lst (l.set j (.lst r')))))
      | _ => none
  | _, _, _, _ => none
theorem sSetIx2_inv {i : Nat} {f : Ef} {fi fj : Qf} {ρ : Rho} {o : Out} (e : sSetIx2 i f fi fj ρ = some o) : ∃ d ρ1 k m l j r j2, f ρ = some (.v d, ρ1) ∧ fi ρ1 = some (.int k) ∧ fj ρ1 = some (.int m) ∧ ρ1.getD i .non = .lst l ∧ ixN l.length k = some j ∧ l[j]? = some (.lst r) ∧ ixN r.length m = some j2 ∧ o = .nx (ρ1.set i (.lst (l.set j (.lst (r.set j2 d))))) := by
  obtain ⟨p, e1, e2⟩ := bindO e
  obtain ⟨di, e3, e4⟩ := bindO e2
  obtain ⟨dj, e5, e6⟩ := bindO e4
  obtain ⟨p1, p2⟩ := p
  cases p1 with
  | x i => cases e6
  | v d =>
    cases di <;> first | (cases e6; done) | skip
    cases dj <;> first | (cases e6; done) | skip
    rename_i k m
    simp only at e6 e3 e5
    cases hl : p2.getD i .non <;> rw [hl] at e6 <;> first | (cases e6; done) | skip
    rename_i l
    obtain ⟨j, e7, e8⟩ := bindO e6
    obtain ⟨c, e9, e10⟩ := bindO e8
    cases c <;> first | (cases e10; done) | skip
    rename_i r
    obtain ⟨r', e11, e12⟩ := bindO e10
    obtain ⟨j2, e13, e14⟩ := bindO e11
    cases e14
    cases e12
    exact ⟨d, p2, k, m, l, j, r, j2, e1, e3, e5, hl, e7, e9, e13, rfl⟩
theorem ds_setix2 {f : Ef} {fi fj : Qf} (i : Nat) (he : DE X e τ f) (ho : PE X ok (tVar i)) (hi : DQ X ei τ fi) (hj : DQ X ej τ fj) (ht : τ[i]? = some (.oL (.oL .sh)) := by rfl) (hpl : PlainIx ei := by exact fun _ _ => rfl)
    (ha : ∀ v, assign (.Subscript (.Subscript ok ei pp) ej p) X.env v = (do
      let ov ← holding [v] (eval (.Subscript ok ei pp) X.env)
      let iv ← holding [v, ov] (eval ej X.env)
      standAt p
      holding [v, ov, iv] (setItem ov iv v)
      release [v, ov, iv] []) := by intro _; rfl)
    (hs : swapsWithSole [.Subscript (.Subscript ok ei pp) ej p] e pos.line X.env = pure false := by rfl) (hw : swappedStores [.Subscript (.Subscript ok ei pp) ej p] e X.env = pure none := by rfl)
    (h1 : (assignEach [.Subscript (.Subscript ok ei pp) ej p] X.env).map (·.2) = [assign (.Subscript (.Subscript ok ei pp) ej p) X.env] := by rfl) :
    DS X γ (.Assign [.Subscript (.Subscript ok ei pp) ej p] e pos) τ (sSetIx2 i f fi fj) τ := ps_imp (ps_asg he (pg_sub (pe_ix ix_list ho hi hpl) hj set_list ha) hs hw h1) fun D σ H ⟨R, ρ, fs, out, s, e, q⟩ => by
  obtain ⟨d, ρ1, k, m, l, j, r, j2, e1, e3, e5, hl, e7, e9, e13, rfl⟩ := sSetIx2_inv e
  obtain ⟨v0, f0, ev0, r0, _⟩ := s.get ht (by intro z; cases z)
  refine ⟨R, ρ, fs, _, _, s, e1, fun v H1 fs1 t1 s1 rv => ⟨v0, ev0, R, ρ1, fs1, _, s1, e3, fun vi H2 g2 ri => ?_⟩⟩
  cases ri
  have s2 := s1.grow g2
  have rv2 : Rf X.K X.mg (hide (R ++ fs1) H2) d v := Rf.mono (hide_grow _ g2) rv
  obtain ⟨f1, fo, f2, ef, hos, _, _, h2', _⟩ := s2.sl.split ht
  rcases hos with ⟨z, _⟩ | ⟨v1, ev1, r1⟩
  · cases z
  rw [ev0] at ev1; cases ev1
  rw [hl] at r1
  cases r1 with
  | @oL t a vs ds g h rs =>
    have hjl : j < l.length := (List.getElem?_eq_some_iff.mp e9).1
    obtain ⟨dd, vb, g1, go, g2', ed, evb, eg, rb, mkb⟩ := rs.split (i := j) (t := .oL .sh) (by rw [List.getElem?_replicate, if_pos hjl])
    rw [e9] at ed; cases ed
    cases rb with
    | @oL t b ws ds' gg hb rbs =>
      obtain ⟨rfb, egg⟩ := rbs.to_sh
      subst egg
      refine ⟨a, vs, k, .ref b, rfl, rfl, .of h, ?_, R, ρ1, fs1, _, s2, e5, fun vj H3 g3 rj => ?_⟩
      · unfold atI
        rw [← rs.len, e7]
        exact evb
      cases rj
      have hb3 := g3 _ _ hb
      refine ⟨b, ws, m, j2, rfl, rfl, hb3, by rw [← rfb.length]; exact e13, ?_⟩
      have s3 := s2.grow g3
      have nd := s3.nd
      have hbfs : b ∈ fs1 := by rw [ef, eg]; simp
      have hab : a ≠ b := fun z => by
        rw [ef, eg] at nd
        simp only [List.nodup_append, List.nodup_cons, List.mem_append, List.mem_cons] at nd
        exact nd.2.1.1.2.1.1 (.inl (.inr (.inl z)))
      have le : Le (hide (R ++ fs1) H2) (hide (R ++ fs1) (upd H3 b (.lst (ws.set j2 v)))) := (hide_grow _ g3).trans (hide_mono fun c u n e => ⟨n, by rw [upd_ne fun z => n (by rw [z]; exact List.mem_append_right _ hbfs)]; exact e⟩)
      have keepF : ∀ c ∈ fs1, c ≠ b → upd H3 b (.lst (ws.set j2 v)) c = H2 c := fun c hc z => by
        obtain ⟨u, eu, _⟩ := s2.sl.there c hc
        rw [upd_ne z, eu]
        exact g3 _ _ eu
      have nin : ∀ c ∈ g1 ++ g2', c ≠ b := fun c hc z => by
        subst z
        rw [ef, eg] at nd
        simp only [List.nodup_append, List.nodup_cons, List.mem_append, List.mem_cons] at nd
        rcases List.mem_append.mp hc with hc | hc
        · exact nd.2.1.1.2.1.2.1.2.2 c hc c (.inl rfl) rfl
        · exact nd.2.1.1.2.1.2.2.2 c (.inr (.inl rfl)) c hc rfl
      have nin2 : ∀ c ∈ f1 ++ f2, c ≠ b := fun c hc z => by
        subst z
        rw [ef, eg] at nd
        simp only [List.nodup_append, List.nodup_cons, List.mem_append, List.mem_cons] at nd
        rcases List.mem_append.mp hc with hc | hc
        · exact nd.2.1.1.2.2 c hc c (.inr (.inl (.inr (.inl rfl)))) rfl
        · exact nd.2.1.2.2 c (.inr (.inr (.inl (.inr (.inl rfl))))) c hc rfl
      have rbn : Rp X.K X.mg (upd H3 b (.lst (ws.set j2 v))) (hide (R ++ fs1) (upd H3 b (.lst (ws.set j2 v)))) (.oL .sh) (.lst (r.set j2 d)) (.ref b) [b] := .oL upd_same (Rps.of_sh ((rfb.set j2 rv2).mono le))
      have rsn := mkb (fun c hc => keepF c (by rw [ef, eg]; simp only [List.mem_append, List.mem_cons] at hc ⊢; rcases hc with h | h <;> simp [h]) (nin c hc)) le rbn
      have ra : Rp X.K X.mg (upd H3 b (.lst (ws.set j2 v))) (hide (R ++ fs1) (upd H3 b (.lst (ws.set j2 v)))) (.oL (.oL .sh)) (.lst (l.set j (.lst (r.set j2 d)))) (.ref a) (a :: g) := by
        refine .oL (vs := vs) ?_ ?_
        · rw [upd_ne hab]; exact g3 _ _ h
        · rw [List.length_set, eg]; exact rsn
      have sl' := h2' (H' := upd H3 b (.lst (ws.set j2 v))) (fun c hc => keepF c (by rw [ef]; simp only [List.mem_append, List.mem_cons] at hc ⊢; rcases hc with h | h <;> simp [h]) (nin2 c hc)) le ev0 ra
      rw [set_at ht, ← ef] at sl'
      refine q σ _ fs1 (t1.trans ((Step.grow (g2.trans g3) fs1).trans ⟨fun c u n e => ?_, fun c hc => .inl hc, fun c u e => ?_⟩)) (Kp.refl _ _) ⟨sl', nd, fun c hc => ?_⟩
      · rw [upd_ne fun z => n (by rw [z]; exact hbfs)]; exact e
      · by_cases z : c = b
        · exact ⟨_, by rw [z, upd_same]⟩
        · exact ⟨u, by rw [upd_ne z]; exact e⟩
      · obtain ⟨u, eu, w⟩ := s3.al c hc
        exact ⟨u, by rw [upd_ne fun z => (List.nodup_append.mp nd).2.2 c hc b hbfs z]; exact eu, w⟩
end
end TL

namespace TL
open PySem PySem.Spec PyProof.Rows L2

def spL (K : PySem.W.Frag) : Sp := fun vs H Q _ => ∃ (a : Addr) (ns : List Int), vs = [.ref a] ∧ SqL K H a (ns.map V.int) ∧ ns.length ≤ 63 ∧ ∀ H', Q (.bl true) H'
theorem law_imp {K : PySem.W.Frag} {mg : Str → Option Value} {F : Fm} (h : lawF F) : ∀ vs H Q E, spL K vs H Q E → spD K mg sgL F vs H Q E := fun vs H Q E ⟨a, ns, ev, hS, hl, q⟩ => by
  subst ev
  obtain ⟨r, e⟩ := h ns hl
  refine ⟨[], [.scr ns], [], .bl true, r, ⟨.cons (f := []) (g := []) (.sh (.scr ?_)) .nil, List.nodup_nil, fun a ha => nomatch ha⟩, e, fun v H' fs' fv _ _ rp => ?_⟩
  · have eq : hide [] H = H := by funext a; simp [hide]
    rw [show ([] : List Addr) ++ [] = [] from rfl, eq]
    exact hS
  · cases rp with
    | sh rf => cases rf; exact q H'
theorem toL {P : Program} {w : World} {K : PySem.W.Frag} {mg : Str → Option Value} {fa : Addr} {k : Nat} {F : Fm} {B : FuncData → Prop} (h : lawF F)
    (x : ∃ fd : FuncData, B fd ∧ ∀ base : Heap, K.In base → base.Ns mainGlobals mg → FnOk P w K mg base CX0 k fa fd ["script"] (spD K mg sgL F)) :
    ∃ fd : FuncData, B fd ∧ ∀ base : Heap, K.In base → base.Ns mainGlobals mg → FnOk P w K mg base CX0 k fa fd ["script"] (spL K) := by
  obtain ⟨fd, b, f⟩ := x
  exact ⟨fd, b, fun base h1 h2 => (f base h1 h2).imp (law_imp h)⟩
theorem Cal.none {P : Program} {w : World} {K : PySem.W.Frag} {mg : Str → Option Value} {base : Heap} {f : Addr} {fd : FuncData} {x : Str} {st : Stmt} {k : Nat} {ps : List Str} {sg : Sg} (D : Dfn K mg x st ps f fd) : Cal P w K mg base f fd x k ps sg (fun _ => none) :=
  ⟨{ len := fun vs H Q E h => (by obtain ⟨_, _, _, _, _, _, e, _⟩ := h; cases e), run := fun A outer s H args us vs Q E _ _ _ _ h => (by obtain ⟨_, _, _, _, _, _, e, _⟩ := h; cases e) }, D.mg, D.fn.kp, D.bd, fun ds r e => by cases e⟩
end TL

namespace TL
open PySem PySem.Spec PyProof.Rows L2

section ev
variable (ρ : Rho) (f f' f'' : Ef) (t t' : Tf) (g : Af) (b b' : Sf) (o : Of)
@[simp] theorem v_eC (d : D) : eC d ρ = some (.v d, ρ) := rfl
@[simp] theorem v_eVar (i : Nat) : eVar i ρ = some (.v (ρ.getD i .non), ρ) := rfl
@[simp] theorem v_eOwn (i : Nat) : eOwn i ρ = some (.x i, ρ) := rfl
@[simp] theorem v_res (d : D) : Hd.res (.v d) ρ = d := rfl
@[simp] theorem x_res (i : Nat) : Hd.res (.x i) ρ = ρ.getD i .non := rfl
@[simp] theorem v_eBin (k : D → D → Option D) : eBin k f f' ρ = (f ρ).bind fun p => (f' p.2).bind fun q => (k (p.1.res q.2) (q.1.res q.2)).bind fun d => some (.v d, q.2) := rfl
@[simp] theorem v_eBinO (k : D → D → Option (List D)) : eBinO k f f' ρ = (f ρ).bind fun p => (f' p.2).bind fun q => (k (p.1.res q.2) (q.1.res q.2)).bind fun d => some (.lst d, q.2) := rfl
@[simp] theorem v_eF : eF o ρ = (o ρ).bind fun p => some (.v p.1, p.2) := rfl
@[simp] theorem v_tB : tB f ρ = (f ρ).bind fun p => (truthD (p.1.res p.2)).bind fun k => some (k, p.2) := rfl
def blOf (p : Hd × Rho) : Option (Bool × Rho) := match p.1 with
  | .v (.bl k) => some (k, p.2)
  | _ => none
@[simp] theorem v_blOf (k : Bool) : blOf (.v (.bl k), ρ) = some (k, ρ) := rfl
@[simp] theorem v_tBl : tBl f ρ = (f ρ).bind blOf := rfl
@[simp] theorem v_tAnd : tAnd' t t' ρ = (t ρ).bind fun p => if p.1 then t' p.2 else some (false, p.2) := rfl
@[simp] theorem v_tOr : tOr' t t' ρ = (t ρ).bind fun p => if p.1 then some (true, p.2) else t' p.2 := rfl
@[simp] theorem v_tNot : tNot' t ρ = (t ρ).bind fun p => some (!p.1, p.2) := rfl
@[simp] theorem v_tYes : tYesF ρ = some (true, ρ) := rfl
@[simp] theorem v_eAnd : eAnd f f' ρ = (f ρ).bind fun p => (truthD (p.1.res p.2)).bind fun k => if k then f' p.2 else some p := rfl
@[simp] theorem v_eOr : eOr f f' ρ = (f ρ).bind fun p => (truthD (p.1.res p.2)).bind fun k => if k then some p else f' p.2 := rfl
@[simp] theorem v_eNot : eNot f ρ = (f ρ).bind fun p => (truthD (p.1.res p.2)).bind fun k => some (.v (.bl (!k)), p.2) := rfl
@[simp] theorem v_eIf : eIf t f f' ρ = (t ρ).bind fun p => if p.1 then f p.2 else f' p.2 := rfl
def chain2 (k' : D → D → Option D) (q : Hd × Rho) (r : Ef) : D → Option (Hd × Rho)
  | .bl true => (r q.2).bind fun r => (k' (q.1.res r.2) (r.1.res r.2)).bind fun d' => some (.v d', r.2)
  | .bl false => some (.v (.bl false), q.2)
  | _ => none
@[simp] theorem v_chain2 (k' : D → D → Option D) (q : Hd × Rho) (r : Ef) (c : Bool) : chain2 k' q r (.bl c) = if c then (r q.2).bind fun r => (k' (q.1.res r.2) (r.1.res r.2)).bind fun d' => some (.v d', r.2) else some (.v (.bl false), q.2) := by
  cases c <;> rfl
@[simp] theorem v_eChain (k k' : D → D → Option D) : eChain k k' f f' f'' ρ = (f ρ).bind fun p => (f' p.2).bind fun q => (k (p.1.res q.2) (q.1.res q.2)).bind (chain2 k' q f'') := by
  unfold eChain
  congr 1
@[simp] theorem v_aNil : aNil ρ = some ([], ρ) := rfl
@[simp] theorem v_aCons : aCons f g ρ = (f ρ).bind fun p => (g p.2).bind fun q => some (p.1 :: q.1, q.2) := rfl
@[simp] theorem v_hv0 : hvals [] = some [] := rfl
@[simp] theorem v_hv1 (d : D) (r : List Hd) : hvals (.v d :: r) = (hvals r).bind fun ds => some (d :: ds) := rfl
@[simp] theorem v_eTup : eTup g ρ = (g ρ).bind fun p => (hvals p.1).bind fun ds => if okLen ds.length then some (.v (.tup ds), p.2) else none := rfl
@[simp] theorem v_oLst : oLst g ρ = (g ρ).bind fun p => (hvals p.1).bind fun ds => if okLen ds.length then some (.lst ds, p.2) else none := rfl
@[simp] theorem v_eUn (k : D → Option D) : eUn k f ρ = (f ρ).bind fun p => (k (p.1.res p.2)).bind fun d => some (.v d, p.2) := rfl
@[simp] theorem v_eCa (k : List D → Option D) : eCa k g ρ = (g ρ).bind fun p => (k (p.1.map fun h => h.res p.2)).bind fun d => some (.v d, p.2) := rfl
@[simp] theorem v_oCa (k : List D → Option (List D)) : oCa k g ρ = (g ρ).bind fun p => (k (p.1.map fun h => h.res p.2)).bind fun d => some (.lst d, p.2) := rfl
@[simp] theorem v_f1 (k : D → Option D) (d : D) : f1 k [d] = k d := rfl
@[simp] theorem v_f1L (k : D → Option (List D)) (d : D) : f1L k [d] = k d := rfl
@[simp] theorem v_f2 (k : D → D → Option D) (d e : D) : f2 k [d, e] = k d e := rfl
@[simp] theorem v_pNo : pNo ρ = some (none, ρ) := rfl
def ptOf (p : Hd × Rho) : Option (Option Int × Rho) := match p.1 with
  | .v (.int i) => some (some i, p.2)
  | _ => none
@[simp] theorem v_ptOf (i : Int) : ptOf (.v (.int i), ρ) = some (some i, ρ) := rfl
@[simp] theorem v_pSome : pSome f ρ = (f ρ).bind ptOf := rfl
@[simp] theorem v_eSl (k : D → Option Int → Option Int → Option D) (lo hi : Pf) : eSl k f lo hi ρ = (f ρ).bind fun p => (lo p.2).bind fun l => (hi l.2).bind fun h => (k (p.1.res h.2) l.1 h.1).bind fun d => some (.v d, h.2) := rfl
@[simp] theorem v_oSl (k : D → Option Int → Option Int → Option (List D)) (lo hi : Pf) : oSl k f lo hi ρ = (f ρ).bind fun p => (lo p.2).bind fun l => (hi l.2).bind fun h => (k (p.1.res h.2) l.1 h.1).bind fun d => some (.lst d, h.2) := rfl
@[simp] theorem v_eIsI (bt : Bt) : eIsI bt f ρ = (f ρ).bind fun p => (isB bt (p.1.res p.2)).bind fun k => some (.v (.bl k), p.2) := rfl
@[simp] theorem v_eIsLT : eIsLT f ρ = (f ρ).bind fun p => (isB .list (p.1.res p.2)).bind fun k => (isB .tuple (p.1.res p.2)).bind fun k' => some (.v (.bl (k || k')), p.2) := rfl
@[simp] theorem v_eMtL (k : D → List D → Option D) : eMtL k f g ρ = (f ρ).bind fun p => if isLst (p.1.res p.2) then (g p.2).bind fun q => (k (p.1.res q.2) (q.1.map fun h => h.res q.2)).bind fun d => some (.v d, q.2) else none := rfl
def oeOf (p : Hd × Rho) : Option (D × Rho) := match p.1 with
  | .v d => some (d, p.2)
  | _ => none
@[simp] theorem v_oeOf (d : D) : oeOf (.v d, ρ) = some (d, ρ) := rfl
@[simp] theorem v_oE : oE f ρ = (f ρ).bind oeOf := rfl
@[simp] theorem v_oCall (F : Fm) : oCall F g ρ = (g ρ).bind fun p => (hvals p.1).bind fun ds => (F ds).bind fun r => some (r.1, p.2) := rfl
@[simp] theorem v_oCallB (ty : Ty) (F : Fm) : oCallB ty F g ρ = (g ρ).bind fun p => (F (p.1.map fun h => h.res p.2)).bind fun r => if immR ty r.1 then some (r.1, p.2) else none := rfl
@[simp] theorem v_oCallI (F : Fm) (i j : Nat) : oCallI F i j g ρ = (g ρ).bind fun p => (hvI i p.1 j p.2).bind fun ds => (F ds).bind fun r => some (r.1, p.2.set i (r.2.getD j .non)) := rfl
@[simp] theorem v_hvI (i : Nat) (r : List Hd) : hvI i (.x i :: r) 0 ρ = (hvals r).bind fun ds => some (ρ.getD i .non :: ds) := by simp [hvI]
@[simp] theorem v_hvI1 (i j : Nat) (d : D) (r : List Hd) : hvI i (.v d :: r) (j + 1) ρ = (hvI i r j ρ).bind fun ds => some (d :: ds) := rfl
/-! statements -/
@[simp] theorem v_sNil : sNil ρ = some (.nx ρ) := rfl
def andThen (b : Sf) : Out → Option Out
  | .nx ρ => b ρ
  | o => some o
@[simp] theorem v_then_nx : andThen b (.nx ρ) = b ρ := rfl
@[simp] theorem v_then_rt (d : D) : andThen b (.rt d ρ) = some (.rt d ρ) := rfl
@[simp] theorem v_then_bk : andThen b (.bk ρ) = some (.bk ρ) := rfl
@[simp] theorem v_then_ct : andThen b (.ct ρ) = some (.ct ρ) := rfl
@[simp] theorem v_sSeq : sSeq b b' ρ = (b ρ).bind (andThen b') := by
  unfold sSeq
  congr 1
def thenKl (ks : List Nat) : Out → Option Out
  | .nx ρ => some (.nx (kill ks ρ))
  | o => some o
@[simp] theorem v_thenKl_nx (ks : List Nat) : thenKl ks (.nx ρ) = some (.nx (kill ks ρ)) := rfl
@[simp] theorem v_thenKl_rt (ks : List Nat) (d : D) : thenKl ks (.rt d ρ) = some (.rt d ρ) := rfl
@[simp] theorem v_thenKl_bk (ks : List Nat) : thenKl ks (.bk ρ) = some (.bk ρ) := rfl
@[simp] theorem v_thenKl_ct (ks : List Nat) : thenKl ks (.ct ρ) = some (.ct ρ) := rfl
@[simp] theorem v_sKl (ks : List Nat) : sKl ks b ρ = (b ρ).bind (thenKl ks) := by
  unfold sKl
  congr 1
@[simp] theorem v_sKb (ks : List Nat) : sKb ks b ρ = b (kill ks ρ) := rfl
@[simp] theorem v_sPass : sPass ρ = some (.nx ρ) := rfl
@[simp] theorem v_sBrk : sBrk ρ = some (.bk ρ) := rfl
@[simp] theorem v_sCont : sCont ρ = some (.ct ρ) := rfl
def rtOf (p : Hd × Rho) : Option Out := match p.1 with
  | .v d => some (.rt d p.2)
  | _ => none
@[simp] theorem v_rtOf (d : D) : rtOf (.v d, ρ) = some (.rt d ρ) := rfl
@[simp] theorem v_sRet : sRet f ρ = (f ρ).bind rtOf := rfl
@[simp] theorem v_sRetO : sRetO o ρ = (o ρ).bind fun p => some (.rt p.1 p.2) := rfl
@[simp] theorem v_sRetX (i : Nat) : sRetX i ρ = some (.rt (ρ.getD i .non) ρ) := rfl
@[simp] theorem v_sRetN : sRetN ρ = some (.rt .non ρ) := rfl
@[simp] theorem v_sIf : sIf t b b' ρ = (t ρ).bind fun p => if p.1 then b p.2 else b' p.2 := rfl
@[simp] theorem v_gNm (i : Nat) (d : D) : gNm i d ρ = some (ρ.set i d) := rfl
@[simp] theorem v_gsNil : gsNil [] ρ = some ρ := rfl
@[simp] theorem v_gsCons (k : Gf) (h : List D → Rho → Option Rho) (d : D) (r : List D) : gsCons k h (d :: r) ρ = (k d ρ).bind fun ρ' => h r ρ' := rfl
@[simp] theorem v_gTp (k : List D → Rho → Option Rho) (ds : List D) : gTp k (.tup ds) ρ = k ds ρ := rfl
def asgOf (k : Gf) (p : Hd × Rho) : Option Out := match p.1 with
  | .v d => (k d p.2).bind fun ρ' => some (.nx ρ')
  | _ => none
@[simp] theorem v_asgOf (k : Gf) (d : D) : asgOf k (.v d, ρ) = (k d ρ).bind fun ρ' => some (.nx ρ') := rfl
@[simp] theorem v_sAsg (k : Gf) : sAsg f k ρ = (f ρ).bind (asgOf k) := rfl
@[simp] theorem v_sSetO (i : Nat) : sSetO i o ρ = (o ρ).bind fun p => some (.nx (p.2.set i p.1)) := rfl
def appOf (i : Nat) (p : Hd × Rho) : Option Out := match p.1, p.2.getD i .non with
  | .v d, .lst l => if okLen (l.length + 1) then some (.nx (p.2.set i (.lst (l ++ [d])))) else none
  | _, _ => none
theorem v_appOf (i : Nat) (d : D) (l : List D) (h : ρ.getD i .non = .lst l) : appOf i (.v d, ρ) = if okLen (l.length + 1) then some (.nx (ρ.set i (.lst (l ++ [d])))) else none := by
  unfold appOf; simp only [h]
@[simp] theorem v_sApp (i : Nat) : sApp i f ρ = (f ρ).bind (appOf i) := rfl
def setIxOf (i : Nat) (fk : Ef) : Hd × Rho → Option Out := fun p => (fk p.2).bind fun q => match p.1, q.1, q.2.getD i .non with
  | .v d, .v (.int k), .lst l => (setL l k d).bind fun l' => some (.nx (q.2.set i (.lst l')))
  | _, _, _ => none
theorem v_setIxOf (i : Nat) (fk : Ef) (d : D) (k : Int) (ρ' : Rho) (l : List D) (h : fk ρ = some (.v (.int k), ρ')) (h' : ρ'.getD i .non = .lst l) : setIxOf i fk (.v d, ρ) = (setL l k d).bind fun l' => some (.nx (ρ'.set i (.lst l'))) := by
  unfold setIxOf; simp only [h, Option.bind_some, h']
@[simp] theorem v_sSetIx (i : Nat) (fk : Ef) : sSetIx i f fk ρ = (f ρ).bind (setIxOf i fk) := rfl
@[simp] theorem v_lNil : lNil ρ = some ([], ρ) := rfl
@[simp] theorem v_lCons (h : Lf) : lCons o h ρ = (o ρ).bind fun p => (h p.2).bind fun q => some (p.1 :: q.1, q.2) := rfl
def parOf (i j : Nat) : List D × Rho → Option Out
  | ([a, b], ρ) => some (.nx ((ρ.set i a).set j b))
  | _ => none
@[simp] theorem v_parOf (i j : Nat) (a b : D) : parOf i j ([a, b], ρ) = some (.nx ((ρ.set i a).set j b)) := rfl
@[simp] theorem v_sPar (i j : Nat) (h : Lf) : sPar i j h ρ = (h ρ).bind (parOf i j) := by
  unfold sPar
  congr 1; funext p; obtain ⟨p1, p2⟩ := p; unfold parOf; split <;> simp_all
def parOf3 (i j l : Nat) : List D × Rho → Option Out
  | ([a, b, c], ρ) => some (.nx (((ρ.set i a).set j b).set l c))
  | _ => none
@[simp] theorem v_parOf3 (i j l : Nat) (a b c : D) : parOf3 i j l ([a, b, c], ρ) = some (.nx (((ρ.set i a).set j b).set l c)) := rfl
@[simp] theorem v_sPar3 (i j l : Nat) (h : Lf) : sPar3 i j l h ρ = (h ρ).bind (parOf3 i j l) := by
  unfold sPar3
  congr 1; funext p; obtain ⟨p1, p2⟩ := p; unfold parOf3; split <;> simp_all
/-! walks -/
@[simp] theorem v_seqL (l : List D) : seqD (.v (.lst l)) = some l := rfl
@[simp] theorem v_seqT (l : List D) : seqD (.v (.tup l)) = some l := rfl
@[simp] theorem v_iSeq : iSeq f ρ = (f ρ).bind fun p => (seqD p.1).bind fun l => some (l, p.2) := rfl
def rng1Of : List Hd × Rho → Option (List D × Rho)
  | ([.v (.int j)], ρ) => if small62 j then some (intsD 0 j.toNat, ρ) else none
  | _ => none
@[simp] theorem v_rng1Of (j : Int) (h : small62 j = true) : rng1Of ([.v (.int j)], ρ) = some (intsD 0 j.toNat, ρ) := by
  simp only [rng1Of, h, if_true]
@[simp] theorem v_iRng1 : TL.iRng1 g ρ = (g ρ).bind rng1Of := by
  unfold TL.iRng1
  congr 1; funext p; obtain ⟨p1, p2⟩ := p; unfold rng1Of; split <;> simp_all
def rng2Of : List Hd × Rho → Option (List D × Rho)
  | ([.v (.int i), .v (.int j)], ρ) => if small62 i && small62 j then some (intsD i (j - i).toNat, ρ) else none
  | _ => none
@[simp] theorem v_rng2Of (i j : Int) (h : small62 i = true) (h' : small62 j = true) : rng2Of ([.v (.int i), .v (.int j)], ρ) = some (intsD i (j - i).toNat, ρ) := by
  simp only [rng2Of, h, h', Bool.and_self, if_true]
@[simp] theorem v_iRng2 : TL.iRng2 g ρ = (g ρ).bind rng2Of := by
  unfold TL.iRng2
  congr 1; funext p; obtain ⟨p1, p2⟩ := p; unfold rng2Of; split <;> simp_all
def zpOf : List Hd × Rho → Option (List D × Rho)
  | ([.v (.lst l), .v (.lst m)], ρ) => some (zipD l m, ρ)
  | ([.v (.tup l), .v (.tup m)], ρ) => some (zipD l m, ρ)
  | _ => none
@[simp] theorem v_zpL (l m : List D) : zpOf ([.v (.lst l), .v (.lst m)], ρ) = some (zipD l m, ρ) := rfl
@[simp] theorem v_zpT (l m : List D) : zpOf ([.v (.tup l), .v (.tup m)], ρ) = some (zipD l m, ρ) := rfl
@[simp] theorem v_iZp : iZp g ρ = (g ρ).bind zpOf := by
  unfold iZp
  congr 1; funext p; obtain ⟨p1, p2⟩ := p; unfold zpOf; split <;> simp_all
/-- one round of a loop -/
def stepB (k : Gf) (b : Sf) (d : D) (ρ : Rho) : Option Out := (k d ρ).bind b
@[simp] theorem v_stepB (k : Gf) (d : D) : stepB k b d ρ = (k d ρ).bind b := rfl
@[simp] theorem v_sFor (ks : List Nat) (it : Itf) (k : Gf) : sFor ks it k b ρ = (it ρ).bind fun p => loopF (stepB k b) ks p.1 (kill ks p.2) := rfl
@[simp] theorem v_stepLc (own : List Nat) (k : Gf) (el : Of) (d : D) : stepLc own k t el d ρ = (k d ρ).bind fun ρ1 => (t ρ1).bind fun p => if p.1 then (el p.2).bind fun q => some (some q.1, kill own q.2) else some (none, kill own p.2) := rfl
@[simp] theorem v_oLc (own : List Nat) (it : Itf) (k : Gf) (el : Of) : oLc own it k t el ρ = (it ρ).bind fun p => if okLen p.1.length then (lcF (stepLc own k t el) p.1 p.2).bind fun r => some (.lst r.1, r.2) else none := rfl
@[simp] theorem v_kill0 : kill [] ρ = ρ := rfl
@[simp] theorem v_kill1 (k : Nat) (ks : List Nat) : kill (k :: ks) ρ = kill ks (ρ.set k .non) := rfl
end ev

/-! ### values -/
@[simp] theorem d_add (i j : Int) : dAdd (.int i) (.int j) = some (.int (i + j)) := rfl
@[simp] theorem d_sub (i j : Int) : dSub (.int i) (.int j) = some (.int (i - j)) := rfl
@[simp] theorem d_lt (i j : Int) : dLt (.int i) (.int j) = some (.bl (decide (i < j))) := rfl
@[simp] theorem d_le (i j : Int) : dLe (.int i) (.int j) = some (.bl (decide (i ≤ j))) := rfl
@[simp] theorem d_gt (i j : Int) : dGt (.int i) (.int j) = some (.bl (decide (j < i))) := rfl
@[simp] theorem d_ge (i j : Int) : dGe (.int i) (.int j) = some (.bl (decide (j ≤ i))) := rfl
@[simp] theorem d_mod (i j : Int) : dMod (.int i) (.int j) = if decide (0 < j) then some (.int (i % j)) else none := rfl
@[simp] theorem d_div (i j : Int) : dDiv (.int i) (.int j) = if decide (0 < j) && sm j then some (.int (i / j)) else none := rfl
@[simp] theorem d_mul (i j : Int) : dMul (.int i) (.int j) = if sm i && sm j then some (.int (i * j)) else none := rfl
@[simp] theorem d_neg (i : Int) : dNeg (.int i) = some (.int (-i)) := rfl
@[simp] theorem d_is0 (a : D) : dIs a .non = some (.bl (isNonD a)) := by cases a <;> rfl
@[simp] theorem d_isb (a b : Bool) : dIs (.bl a) (.bl b) = some (.bl (decide (a = b))) := rfl
@[simp] theorem d_isNot0 (a : D) : dIsNot a .non = some (.bl (!isNonD a)) := by cases a <;> rfl
@[simp] theorem d_isNotb (a b : Bool) : dIsNot (.bl a) (.bl b) = some (.bl (!decide (a = b))) := rfl
@[simp] theorem d_nn : isNonD .non = true := rfl
@[simp] theorem d_ni (i : Int) : isNonD (.int i) = false := rfl
@[simp] theorem d_nb (i : Bool) : isNonD (.bl i) = false := rfl
@[simp] theorem d_ns (i : Str) : isNonD (.str i) = false := rfl
@[simp] theorem d_nt (i : List D) : isNonD (.tup i) = false := rfl
@[simp] theorem d_nl (i : List D) : isNonD (.lst i) = false := rfl
@[simp] theorem d_eqi (i j : Int) : dEq (.int i) (.int j) = some (.bl (i == j)) := rfl
@[simp] theorem d_nei (i j : Int) : dNe (.int i) (.int j) = some (.bl (!(i == j))) := rfl
@[simp] theorem d_eqb (i j : Bool) : dEq (.bl i) (.bl j) = some (.bl (i == j)) := rfl
@[simp] theorem d_neb (i j : Bool) : dNe (.bl i) (.bl j) = some (.bl (!(i == j))) := rfl
@[simp] theorem pyOk_n (n : Nat) : pyOk n .non = true := by cases n <;> rfl
@[simp] theorem pyOk_b (n : Nat) (b : Bool) : pyOk n (.bl b) = true := by cases n <;> rfl
@[simp] theorem pyOk_i (n : Nat) (b : Int) : pyOk n (.int b) = true := by cases n <;> rfl
@[simp] theorem pyOk_s (n : Nat) (b : Str) : pyOk n (.str b) = sOk b := by cases n <;> rfl
theorem d_eqs (s : Str) (h : sOk s = true) : dEq (.str s) (.str s) = some (.bl true) := by
  unfold dEq; rw [pyOk_s, h]; simp [dq]
@[simp] theorem d_tr_n : truthD .non = some false := rfl
@[simp] theorem d_tr_b (b : Bool) : truthD (.bl b) = some b := rfl
@[simp] theorem d_tr_i (i : Int) : truthD (.int i) = some (i != 0) := rfl
@[simp] theorem d_tr_t (l : List D) : truthD (.tup l) = some (!l.isEmpty) := rfl
@[simp] theorem d_tr_l (l : List D) : truthD (.lst l) = some (!l.isEmpty) := rfl
@[simp] theorem d_len_t (l : List D) : lenD (.tup l) = some (.int l.length) := rfl
@[simp] theorem d_len_l (l : List D) : lenD (.lst l) = some (.int l.length) := rfl
@[simp] theorem d_abs (i : Int) : absD (.int i) = some (.int (if i < 0 then -i else i)) := rfl
@[simp] theorem d_int (i : Int) : intD (.int i) = some (.int i) := rfl
@[simp] theorem d_intb (i : Bool) : intD (.bl i) = some (.int (if i then 1 else 0)) := rfl
@[simp] theorem d_max2 (i j : Int) : max2D (.int i) (.int j) = some (.int (if j > i then j else i)) := rfl
@[simp] theorem d_min2 (i j : Int) : min2D (.int i) (.int j) = some (.int (if j < i then j else i)) := rfl
@[simp] theorem d_tup_l (l : List D) : tupleD (.lst l) = some (.tup l) := rfl
@[simp] theorem d_tup_t (l : List D) : tupleD (.tup l) = some (.tup l) := rfl
@[simp] theorem d_lst_l (l : List D) : listD (.lst l) = some l := rfl
@[simp] theorem d_lst_t (l : List D) : listD (.tup l) = some l := rfl
@[simp] theorem d_lst_s (l : List Int) : listD (.scr l) = some (l.map D.int) := rfl
@[simp] theorem d_ix_l (l : List D) (i : Int) : dIx (.lst l) (.int i) = atI l i := rfl
@[simp] theorem d_ix_t (l : List D) (i : Int) : dIx (.tup l) (.int i) = atI l i := rfl
@[simp] theorem d_sl_t (l : List D) (lo hi : Option Int) : dSl (.tup l) lo hi = some (.tup (cutD l lo hi)) := rfl
@[simp] theorem d_sl_l (l : List D) (lo hi : Option Int) : dSl (.lst l) lo hi = some (.lst (cutD l lo hi)) := rfl
@[simp] theorem d_slL (l : List D) (lo hi : Option Int) : dSlL (.lst l) lo hi = some (cutD l lo hi) := rfl
@[simp] theorem d_addL (l m : List D) : dAddL (.lst l) (.lst m) = if okLen (l.length + m.length) then some (l ++ m) else none := rfl
@[simp] theorem d_add_l (l m : List D) : dAdd (.lst l) (.lst m) = if okLen (l.length + m.length) then some (.lst (l ++ m)) else none := rfl
@[simp] theorem d_add_t (l m : List D) : dAdd (.tup l) (.tup m) = if okLen (l.length + m.length) then some (.tup (l ++ m)) else none := rfl
@[simp] theorem d_isB_n (b : Bt) : isB b .non = some false := by cases b <;> rfl
@[simp] theorem d_isB_b (b : Bt) (x : Bool) : isB b (.bl x) = some (decide (b = .bool) || decide (b = .int)) := by cases b <;> rfl
@[simp] theorem d_isB_i (b : Bt) (x : Int) : isB b (.int x) = some (decide (b = .int)) := by cases b <;> rfl
@[simp] theorem d_isB_s (b : Bt) (x : Str) : isB b (.str x) = some (decide (b = .str)) := by cases b <;> rfl
@[simp] theorem d_isB_t (b : Bt) (x : List D) : isB b (.tup x) = some (decide (b = .tuple)) := by cases b <;> rfl
@[simp] theorem d_isB_l (b : Bt) (x : List D) : isB b (.lst x) = some (decide (b = .list)) := by cases b <;> rfl
theorem ix_nat {α : Type} (l : List α) (n : Nat) (h : n < l.length) : atI l (n : Int) = some l[n] := by
  unfold atI ixN; simp [h]
theorem ix_get {α : Type} (l : List α) (i : Int) (h0 : 0 ≤ i) (h : i < l.length) : atI l i = l[i.toNat]? := by
  unfold atI ixN; simp [h0, h]
@[simp] theorem ix_0 {α : Type} (a : α) (l : List α) : atI (a :: l) 0 = some a := by
  unfold atI ixN; simp
@[simp] theorem ix_1 {α : Type} (a b : α) (l : List α) : atI (a :: b :: l) 1 = some b := by
  unfold atI ixN; simp
  rw [if_pos (by omega)]; rfl
@[simp] theorem ix_2 {α : Type} (a b c : α) (l : List α) : atI (a :: b :: c :: l) 2 = some c := by
  unfold atI ixN; simp
  rw [if_pos (by omega)]; rfl
@[simp] theorem ix_3 {α : Type} (a b c d : α) (l : List α) : atI (a :: b :: c :: d :: l) 3 = some d := by
  unfold atI ixN; simp
  rw [if_pos (by omega)]; rfl
theorem s62_of {i : Int} (h : -1000000000000 ≤ i) (h' : i ≤ 1000000000000) : small62 i = true := by
  exact Nat.ble_eq_true_of_le (by omega)
theorem okLen_of {n : Nat} (h : n ≤ 16777216) : okLen n = true := by
  unfold okLen; simpa using h
theorem sm_of {i : Int} (h : -1000000000000000000 ≤ i) (h' : i ≤ 1000000000000000000) : sm i = true := by
  exact Nat.ble_eq_true_of_le (by omega)
@[simp] theorem intsD_len (lo : Int) (n : Nat) : (intsD lo n).length = n := by simp [intsD]

/-! ### calls -/
def fin (n : Nat) : Out → Option (D × List D)
  | .rt d ρ => some (d, ρ.take n)
  | .nx ρ => some (.non, ρ.take n)
  | _ => none
@[simp] theorem fin_rt (n : Nat) (d : D) (ρ : Rho) : fin n (.rt d ρ) = some (d, ρ.take n) := rfl
@[simp] theorem fin_nx (n : Nat) (ρ : Rho) : fin n (.nx ρ) = some (.non, ρ.take n) := rfl
theorem v_runF (b : Sf) (n m : Nat) (ds : List D) (h : ds.length = n) : runF b n m ds = (b (ds ++ List.replicate m .non)).bind (fin n) := by
  unfold runF; rw [if_pos h]
  congr 1
theorem v_run1 (b : Sf) (m : Nat) (a0 : D) : runF b 1 m [a0] = (b ([a0] ++ List.replicate m .non)).bind (fin 1) := v_runF _ _ _ _ rfl
theorem v_run2 (b : Sf) (m : Nat) (a0 b0 : D) : runF b 2 m [a0, b0] = (b ([a0, b0] ++ List.replicate m .non)).bind (fin 2) := v_runF _ _ _ _ rfl
theorem v_run3 (b : Sf) (m : Nat) (a0 b0 c0 : D) : runF b 3 m [a0, b0, c0] = (b ([a0, b0, c0] ++ List.replicate m .non)).bind (fin 3) := v_runF _ _ _ _ rfl
theorem v_run4 (b : Sf) (m : Nat) (a0 b0 c0 d0 : D) : runF b 4 m [a0, b0, c0, d0] = (b ([a0, b0, c0, d0] ++ List.replicate m .non)).bind (fin 4) := v_runF _ _ _ _ rfl
theorem v_run5 (b : Sf) (m : Nat) (a0 b0 c0 d0 e0 : D) : runF b 5 m [a0, b0, c0, d0, e0] = (b ([a0, b0, c0, d0, e0] ++ List.replicate m .non)).bind (fin 5) := v_runF _ _ _ _ rfl
theorem v_run6 (b : Sf) (m : Nat) (a0 b0 c0 d0 e0 f0 : D) : runF b 6 m [a0, b0, c0, d0, e0, f0] = (b ([a0, b0, c0, d0, e0, f0] ++ List.replicate m .non)).bind (fin 6) := v_runF _ _ _ _ rfl
theorem v_run7 (b : Sf) (m : Nat) (a0 b0 c0 d0 e0 f0 g0 : D) : runF b 7 m [a0, b0, c0, d0, e0, f0, g0] = (b ([a0, b0, c0, d0, e0, f0, g0] ++ List.replicate m .non)).bind (fin 7) := v_runF _ _ _ _ rfl
theorem v_run8 (b : Sf) (m : Nat) (a0 b0 c0 d0 e0 f0 g0 h0 : D) : runF b 8 m [a0, b0, c0, d0, e0, f0, g0, h0] = (b ([a0, b0, c0, d0, e0, f0, g0, h0] ++ List.replicate m .non)).bind (fin 8) := v_runF _ _ _ _ rfl

/-! ### loops -/
theorem loop_nil (b : D → Rho → Option Out) (ks : List Nat) (ρ : Rho) : loopF b ks [] ρ = some (.nx ρ) := rfl
theorem loop_nx {b : D → Rho → Option Out} {ks : List Nat} {d : D} {ds : List D} {ρ ρ' : Rho} (h : b d ρ = some (.nx ρ')) : loopF b ks (d :: ds) ρ = loopF b ks ds (kill ks ρ') := by
  show (b d ρ).bind _ = _
  rw [h]; rfl
theorem loop_rt {b : D → Rho → Option Out} {ks : List Nat} {d e : D} {ds : List D} {ρ ρ' : Rho} (h : b d ρ = some (.rt e ρ')) : loopF b ks (d :: ds) ρ = some (.rt e ρ') := by
  show (b d ρ).bind _ = _
  rw [h]; rfl
/-- what goes on behind a round -/
def nxOf (ks : List Nat) : Out → Option Rho
  | .nx ρ => some (kill ks ρ)
  | .ct ρ => some (kill ks ρ)
  | _ => none
@[simp] theorem v_nxOf (ks : List Nat) (ρ : Rho) : nxOf ks (.nx ρ) = some (kill ks ρ) := rfl
@[simp] theorem v_nxOfc (ks : List Nat) (ρ : Rho) : nxOf ks (.ct ρ) = some (kill ks ρ) := rfl
theorem loop_go {b : D → Rho → Option Out} {ks : List Nat} {d : D} {ds : List D} {ρ ρ' : Rho} (h : (b d ρ).bind (nxOf ks) = some ρ') : loopF b ks (d :: ds) ρ = loopF b ks ds ρ' := by
  show (b d ρ).bind _ = _
  cases e : b d ρ with
  | none => rw [e] at h; cases h
  | some o =>
    rw [e] at h
    cases o with
    | nx r => cases h; rfl
    | ct r => cases h; rfl
    | bk r => cases h
    | rt d r => cases h
/-- a loop that goes through: the state as a fold -/
theorem loop_fold {α σ : Type} {b : D → Rho → Option Out} {ks : List Nat} (emb : α → D) (st : σ → Rho) (f : σ → α → σ) (inv : σ → Prop) : ∀ (l : List α) (s : σ), inv s →
    (∀ a ∈ l, ∀ s, inv s → inv (f s a) ∧ (b (emb a) (st s)).bind (nxOf ks) = some (st (f s a))) → loopF b ks (l.map emb) (st s) = some (.nx (st (l.foldl f s)))
  | [], s, _, _ => rfl
  | a :: l, s, hi, h => by
    obtain ⟨i1, e1⟩ := h a (by simp) s hi
    rw [List.map_cons, loop_go e1]
    exact loop_fold emb st f inv l _ i1 fun a ha => h a (by simp [ha])
/-- .. with an invariant only -/
theorem loop_inv {α σ : Type} {b : D → Rho → Option Out} {ks : List Nat} (emb : α → D) (st : σ → Rho) (I : List α → σ → Prop) : ∀ (l pre : List α) (s : σ), I pre s →
    (∀ pre' a post, pre ++ l = pre' ++ a :: post → ∀ s, I pre' s → ∃ s', (b (emb a) (st s)).bind (nxOf ks) = some (st s') ∧ I (pre' ++ [a]) s') → ∃ s', loopF b ks (l.map emb) (st s) = some (.nx (st s')) ∧ I (pre ++ l) s'
  | [], pre, s, hi, _ => ⟨s, rfl, by simpa using hi⟩
  | a :: l, pre, s, hi, h => by
    obtain ⟨s', e1, i1⟩ := h pre a l rfl s hi
    obtain ⟨s2, e2, i2⟩ := loop_inv emb st I l (pre ++ [a]) _ i1 fun pre' a' post e => h pre' a' post (by simpa using e)
    exact ⟨s2, by rw [List.map_cons, loop_go e1, e2], by simpa using i2⟩
/-- a search -/
theorem loop_find {α : Type} {b : D → Rho → Option Out} {ks : List Nat} (emb : α → D) (ρ : Rho) (p : α → Bool) (res : α → D) (rr : α → Rho) : ∀ (l : List α),
    (∀ a ∈ l, if p a then b (emb a) ρ = some (.rt (res a) (rr a)) else (b (emb a) ρ).bind (nxOf ks) = some ρ) →
    loopF b ks (l.map emb) ρ = match l.find? p with | some a => some (.rt (res a) (rr a)) | none => some (.nx ρ)
  | [], _ => rfl
  | a :: l, h => by
    have h1 := h a (by simp)
    cases hp : p a with
    | true =>
      rw [hp, if_pos rfl] at h1
      rw [List.map_cons, loop_rt h1, List.find?_cons, hp]
    | false =>
      rw [hp, if_neg (by simp)] at h1
      rw [List.map_cons, loop_go h1, List.find?_cons, hp]
      exact loop_find emb ρ p res rr l fun a ha => h a (by simp [ha])
/-- comprehensions -/
theorem lc_map {α : Type} {step : D → Rho → Option (Option D × Rho)} (emb : α → D) (g : α → Option D) (ρ : Rho) : ∀ (l : List α), (∀ a ∈ l, step (emb a) ρ = some (g a, ρ)) → lcF step (l.map emb) ρ = some (l.filterMap g, ρ)
  | [], _ => rfl
  | a :: l, h => by
    show (step (emb a) ρ).bind _ = _
    rw [h a (by simp)]
    simp only [Option.bind_some]
    rw [lc_map emb g ρ l fun a ha => h a (by simp [ha])]
    simp only [Option.bind_some, List.filterMap_cons]
    cases g a <;> rfl
theorem lc_all {α : Type} {step : D → Rho → Option (Option D × Rho)} (emb : α → D) (g : α → D) (ρ : Rho) (l : List α) (h : ∀ a ∈ l, step (emb a) ρ = some (some (g a), ρ)) : lcF step (l.map emb) ρ = some (l.map g, ρ) := by
  rw [lc_map emb (fun a => some (g a)) ρ l h]
  simp
/-- .. with a state that changes -/
theorem lc_st {α σ : Type} {step : D → Rho → Option (Option D × Rho)} (emb : α → D) (st : σ → Rho) (inv : σ → Prop) (Q : α → D → Prop) : ∀ (l : List α) (s : σ), inv s →
    (∀ a ∈ l, ∀ s, inv s → ∃ d s', inv s' ∧ Q a d ∧ step (emb a) (st s) = some (some d, st s')) → ∃ (ds : List D) (s' : σ), inv s' ∧ ds.length = l.length ∧ (∀ (i : Nat) (a : α) (d : D), l[i]? = some a → ds[i]? = some d → Q a d) ∧ lcF step (l.map emb) (st s) = some (ds, st s')
  | [], s, hi, _ => ⟨[], s, hi, rfl, by simp, rfl⟩
  | a :: l, s, hi, h => by
    obtain ⟨d, s1, i1, q1, e1⟩ := h a (by simp) s hi
    obtain ⟨ds, s2, i2, hl, q2, e2⟩ := lc_st emb st inv Q l s1 i1 fun a ha => h a (by simp [ha])
    refine ⟨d :: ds, s2, i2, by simp [hl], fun i a' d' ha hd => ?_, ?_⟩
    · cases i with
      | zero => simp at ha hd; subst ha; subst hd; exact q1
      | succ i => simp at ha hd; exact q2 i a' d' ha hd
    · show (step (emb a) (st s)).bind _ = _
      rw [e1]
      simp only [Option.bind_some]
      rw [e2]; rfl
theorem loop_ext {α β : Type} {b : D → Rho → Option Out} {ks : List Nat} (emb : α → D) (st : List β → Rho) (g : α → List β) (M B : Nat) : ∀ (l : List α) (acc : List β),
    (∀ a ∈ l, (g a).length ≤ M) → acc.length + l.length * M ≤ B →
    (∀ a ∈ l, ∀ acc : List β, acc.length + M ≤ B → (b (emb a) (st acc)).bind (nxOf ks) = some (st (acc ++ g a))) → loopF b ks (l.map emb) (st acc) = some (.nx (st (acc ++ l.flatMap g)))
  | [], acc, _, _, _ => by simp [loop_nil]
  | a :: l, acc, hM, hB, h => by
    have hl : (a :: l).length * M = l.length * M + M := by simp [Nat.succ_mul]
    have e1 := h a (by simp) acc (by omega)
    have hg := hM a (by simp)
    rw [List.map_cons, loop_go e1, loop_ext emb st g M B l (acc ++ g a) (fun a ha => hM a (by simp [ha])) (by simp; omega) fun a ha => h a (by simp [ha])]
    simp
theorem len_flat {α β : Type} (g : α → List β) (M : Nat) : ∀ l : List α, (∀ a ∈ l, (g a).length ≤ M) → (l.flatMap g).length ≤ l.length * M
  | [], _ => by simp
  | a :: l, h => by
    have h1 := len_flat g M l fun a ha => h a (by simp [ha])
    have h2 := h a (by simp)
    simp only [List.flatMap_cons, List.length_append, List.length_cons, Nat.succ_mul]
    omega
theorem intsD0 (n : Nat) : intsD 0 n = (List.range n).map fun i : Nat => D.int (i : Int) := by
  unfold intsD; simp
theorem loopF_cons (b : D → Rho → Option Out) (ks : List Nat) (d : D) (ds : List D) (ρ : Rho) : loopF b ks (d :: ds) ρ = (b d ρ).bind fun o => match o with
    | .nx ρ' => loopF b ks ds (kill ks ρ')
    | .ct ρ' => loopF b ks ds (kill ks ρ')
    | .bk ρ' => some (.nx (kill ks ρ'))
    | .rt d ρ' => some (.rt d ρ') := rfl
theorem lcF_nil (b : D → Rho → Option (Option D × Rho)) (ρ : Rho) : lcF b [] ρ = some ([], ρ) := rfl
theorem lcF_cons (b : D → Rho → Option (Option D × Rho)) (d : D) (ds : List D) (ρ : Rho) : lcF b (d :: ds) ρ = (b d ρ).bind fun q => (lcF b ds q.2).bind fun w => some (q.1.toList ++ w.1, w.2) := rfl
end TL

namespace TL
open PySem PySem.Spec PyProof.Rows L2

def b__law_draw : Sf := (sRetO (oLst (aCons (eF (oCa (f1L listD) (aCons (eVar 0) aNil))) (aCons (eC (.int 0)) (aCons (eC (.int 0)) (aCons (eC (.int 17)) aNil))))))
def b__law_next : Sf := (sSeq (sIf (tBl (eBin dGt (eBin dIx (eOwn 0) (eC (.int 2))) (eC (.int 0)))) (sSeq (sAsg (eBin dMod (eCa (f1 intD) (aCons (eBin dIx (eOwn 0) (eC (.int 2))) aNil)) (eVar 1)) (gNm 2)) (sSeq (sSetIx 0 (eBin dDiv (eBin dIx (eOwn 0) (eC (.int 2))) (eVar 1)) (eC (.int 2))) (sRet (eVar 2)))) sNil) (sSeq (sIf (tBl (eBin dLt (eBin dIx (eOwn 0) (eC (.int 1))) (eCa (f1 lenD) (aCons (eBin dIx (eOwn 0) (eC (.int 0))) aNil)))) (sKl [3] (sSeq (sAsg (eCa (f1 absD) (aCons (eBin dIx (eBin dIx (eOwn 0) (eC (.int 0))) (eBin dIx (eOwn 0) (eC (.int 1)))) aNil)) (gNm 3)) (sSeq (sSetIx 0 (eBin dAdd (eBin dIx (eOwn 0) (eC (.int 1))) (eC (.int 1))) (eC (.int 1))) (sSeq (sIf (tBl (eBin dGe (eVar 3) (eBin dPow (eC (.int 10)) (eC (.int 18))))) (sSeq (sSetIx 0 (eBin dDiv (eVar 3) (eVar 1)) (eC (.int 2))) (sRet (eBin dMod (eCa (f1 intD) (aCons (eVar 3) aNil)) (eVar 1)))) sNil) (sSetIx 0 (eBin dMod (eCa (f1 intD) (aCons (eBin dAdd (eBin dAdd (eBin dMul (eBin dIx (eOwn 0) (eC (.int 3))) (eC (.int 48271))) (eVar 3)) (eC (.int 11))) aNil)) (eC (.int 2147483647))) (eC (.int 3))))))) (sSetIx 0 (eBin dMod (eCa (f1 intD) (aCons (eBin dAdd (eBin dMul (eBin dIx (eOwn 0) (eC (.int 3))) (eC (.int 48271))) (eC (.int 12345))) aNil)) (eC (.int 2147483647))) (eC (.int 3)))) (sRet (eBin dMod (eBin dDiv (eCa (f1 intD) (aCons (eBin dMod (eBin dMul (eBin dIx (eOwn 0) (eC (.int 3))) (eC (.int 69621))) (eC (.int 2147483629))) aNil)) (eC (.int 7))) (eVar 1)))))
def b__law_same (G__law_same : Fm) : Sf := (sSeq (sIf (tB (eIsLT (eVar 1))) (sSeq (sIf (tOr' (tBl (eBin dNe (eIsI .list (eVar 1)) (eIsI .list (eVar 0)))) (tBl (eBin dNe (eIsI .tuple (eVar 1)) (eIsI .tuple (eVar 0))))) (sRet (eC (.bl false))) sNil) (sSeq (sIf (tBl (eBin dNe (eCa (f1 lenD) (aCons (eVar 0) aNil)) (eCa (f1 lenD) (aCons (eVar 1) aNil)))) (sRet (eC (.bl false))) sNil) (sRet (eCa (f1 allD) (aCons (eF (oLc [2] (TL.iRng1 (aCons (eCa (f1 lenD) (aCons (eVar 1) aNil)) aNil)) (gNm 2) tYesF (oE (eF (oCall G__law_same (aCons (eBin dIx (eVar 0) (eVar 2)) (aCons (eBin dIx (eVar 1) (eVar 2)) aNil))))))) aNil))))) sNil) (sSeq (sIf (tBl (eBin dIs (eVar 1) (eC .non))) (sRet (eBin dIs (eVar 0) (eC .non))) sNil) (sSeq (sIf (tBl (eBin dNe (eIsI .bool (eVar 1)) (eIsI .bool (eVar 0)))) (sRet (eC (.bl false))) sNil) (sSeq (sIf (tB (eIsI .str (eVar 1))) (sRet (eAnd (eIsI .str (eVar 0)) (eBin dEq (eVar 0) (eVar 1)))) sNil) (sRet (eAnd (eIsI .int (eVar 0)) (eBin dEq (eVar 0) (eVar 1))))))))
/-! ### draws -/
structure Dr where
  pos : Int
  pend : Int
  seed : Int
def drD (ns : List Int) (s : Dr) : D := .lst [.lst (ns.map D.int), .int s.pos, .int s.pend, .int s.seed]
def Dr.ok (s : Dr) : Prop := 0 ≤ s.pos ∧ 0 ≤ s.seed ∧ s.seed < 2147483647
def Dr0 : Dr := ⟨0, 0, 17⟩
theorem Dr0.ok : Dr0.ok := by simp [Dr.ok, Dr0]
theorem draw_ok (ns : List Int) : runF b__law_draw 1 0 [.scr ns] = some (drD ns Dr0, [.scr ns]) := by
  simp [v_run1, b__law_draw, okLen, drD, Dr0]
theorem setL_1 (a b : D) (l : List D) (d : D) : setL (a :: b :: l) 1 d = some (a :: d :: l) := by
  unfold setL ixN; simp; rw [if_pos (by omega)]; rfl
theorem setL_2 (a b c : D) (l : List D) (d : D) : setL (a :: b :: c :: l) 2 d = some (a :: b :: d :: l) := by
  unfold setL ixN; simp; rw [if_pos (by omega)]; rfl
theorem setL_3 (a b c e : D) (l : List D) (d : D) : setL (a :: b :: c :: e :: l) 3 d = some (a :: b :: c :: d :: l) := by
  unfold setL ixN; simp; rw [if_pos (by omega)]; rfl
theorem next_ok (ns : List Int) (s : Dr) (h : s.ok) (m : Int) (h0 : 0 < m) (hm : m ≤ 1000000000000000000) : ∃ v s', s'.ok ∧ 0 ≤ v ∧ v < m ∧ runF b__law_next 2 2 [drD ns s, .int m] = some (.int v, [drD ns s', .int m]) := by
  obtain ⟨pos, pend, seed⟩ := s
  obtain ⟨k1, k2, k3⟩ := h
  simp only at k1 k2 k3
  have hsm : sm m = true := sm_of (by omega) (by omega)
  have fin7 : ∀ (z : Int), 0 ≤ z → z < 2147483647 → sm z = true := fun z a b => sm_of (by omega) (by omega)
  simp only [v_run2]
  unfold b__law_next
  by_cases hp : 0 < pend
  · refine ⟨pend % m, ⟨pos, pend / m, seed⟩, ⟨k1, k2, k3⟩, Int.emod_nonneg _ (by omega), Int.emod_lt_of_pos _ h0, ?_⟩
    simp [drD, hp, h0, hsm, setIxOf, setL_2]
  · by_cases hq : pos < ns.length
    · have e1 : atI (ns.map D.int) pos = some (.int (ns[pos.toNat]'(by omega))) := by
        rw [ix_get _ _ k1 (by simpa using hq)]
        simp [List.getElem?_eq_getElem (show pos.toNat < ns.length by omega)]
      generalize ns[pos.toNat]'(by omega) = c at e1
      have e2 : dPow (.int 10) (.int 18) = some (.int 1000000000000000000) := by kernel_rfl
      generalize hcell : (if c < 0 then -c else c) = cell
      have hc0 : 0 ≤ cell := by subst hcell; split <;> omega
      by_cases hb : 1000000000000000000 ≤ cell
      · refine ⟨cell % m, ⟨pos + 1, cell / m, seed⟩, ⟨by simp; omega, k2, k3⟩, Int.emod_nonneg _ (by omega), Int.emod_lt_of_pos _ h0, ?_⟩
        simp [drD, hp, hq, h0, hsm, setIxOf, setL_1, setL_2, e1, e2, hcell, hb]
      · have r1 := Int.emod_nonneg (seed * 48271 + cell + 11) (show (2147483647 : Int) ≠ 0 by omega)
        have r2 := Int.emod_lt_of_pos (seed * 48271 + cell + 11) (show (0 : Int) < 2147483647 by omega)
        generalize hr : (seed * 48271 + cell + 11) % 2147483647 = r at r1 r2
        refine ⟨r * 69621 % 2147483629 / 7 % m, ⟨pos + 1, pend, r⟩, ⟨by simp; omega, r1, r2⟩, Int.emod_nonneg _ (by omega), Int.emod_lt_of_pos _ h0, ?_⟩
        simp [drD, hp, hq, h0, hsm, setIxOf, setL_1, setL_3, e1, e2, hcell, hb, fin7 seed k2 k3, fin7 r r1 r2, sm_of (i := 48271) (by omega) (by omega), sm_of (i := 69621) (by omega) (by omega), sm_of (i := 7) (by omega) (by omega), hr]
    · have r1 := Int.emod_nonneg (seed * 48271 + 12345) (show (2147483647 : Int) ≠ 0 by omega)
      have r2 := Int.emod_lt_of_pos (seed * 48271 + 12345) (show (0 : Int) < 2147483647 by omega)
      generalize hr : (seed * 48271 + 12345) % 2147483647 = r at r1 r2
      refine ⟨r * 69621 % 2147483629 / 7 % m, ⟨pos, pend, r⟩, ⟨k1, r1, r2⟩, Int.emod_nonneg _ (by omega), Int.emod_lt_of_pos _ h0, ?_⟩
      simp [drD, hp, hq, h0, hsm, setIxOf, setL_3, fin7 seed k2 k3, fin7 r r1 r2, sm_of (i := 48271) (by omega) (by omega), sm_of (i := 69621) (by omega) (by omega), sm_of (i := 7) (by omega) (by omega), hr]
/-! ### the same -/
def R_same : Nat → Fm
  | 0 => fun _ => none
  | r + 1 => runF (b__law_same (R_same r)) 2 1
def okS (n : Nat) : Bool := Nat.ble n 10000
theorem okS_le {n : Nat} (h : okS n = true) : n ≤ 10000 := Nat.le_of_ble_eq_true h
theorem okS_of {n : Nat} (h : n ≤ 10000) : okS n = true := Nat.ble_eq_true_of_le h
def plain : Nat → D → Bool
  | _, .non => true
  | _, .bl _ => true
  | _, .int _ => true
  | _, .str s => sOk s
  | n + 1, .tup l => okS l.length && l.all (plain n)
  | n + 1, .lst l => okS l.length && l.all (plain n)
  | _, _ => false
mutual
theorem dq_self : ∀ (n : Nat) (d : D), plain n d = true → dq d d = true
  | n, .non, _ => rfl
  | n, .bl _, _ => by simp [dq]
  | n, .int _, _ => by simp [dq]
  | n, .str _, _ => by simp [dq]
  | n + 1, .tup l, h => by
    simp only [plain, Bool.and_eq_true, List.all_eq_true] at h
    simp only [dq]; exact dqs_self n l h.2
  | n + 1, .lst l, h => by
    simp only [plain, Bool.and_eq_true, List.all_eq_true] at h
    simp only [dq]; exact dqs_self n l h.2
  | 0, .tup _, h => by simp [plain] at h
  | 0, .lst _, h => by simp [plain] at h
  | n, .dct _, h => by cases n <;> simp [plain] at h
  | n, .set _, h => by cases n <;> simp [plain] at h
  | n, .obj _ _, h => by cases n <;> simp [plain] at h
  | n, .scr _, h => by cases n <;> simp [plain] at h
theorem dqs_self : ∀ (n : Nat) (l : List D), (∀ d ∈ l, plain n d = true) → dqs l l = true
  | n, [], _ => rfl
  | n, d :: l, h => by
    simp only [dqs, Bool.and_eq_true]
    exact ⟨dq_self n d (h d (by simp)), dqs_self n l fun d hd => h d (by simp [hd])⟩
end
theorem getBls_true (n : Nat) : getBls (List.replicate n (D.bl true)) = some (List.replicate n true) := by
  induction n with
  | zero => rfl
  | succ n ih => simp [List.replicate_succ, getBls, ih]
theorem same_ok : ∀ (n : Nat) (d : D), plain n d = true → R_same (n + 1) [d, d] = some (.bl true, [d, d]) := by
  intro n
  induction n with
  | zero =>
    intro d h
    show runF (b__law_same (R_same 0)) 2 1 [d, d] = _
    rw [v_run2]
    unfold b__law_same
    cases d <;> first | (cases h; done) | skip
    · simp
    · simp
    · simp
    · simp [d_eqs _ (show sOk _ = true from h)]
  | succ n ih =>
    intro d h
    show runF (b__law_same (R_same (n + 1))) 2 1 [d, d] = _
    rw [v_run2]
    unfold b__law_same
    have key : ∀ (l : List D), l.length ≤ 10000 → (∀ d ∈ l, plain n d = true) → ∀ (w : List D → D), (∀ m : List D, w m = .tup m ∨ w m = .lst m) →
        lcF (stepLc [2] (gNm 2) tYesF (oE (eF (oCall (R_same (n + 1)) (aCons (eBin dIx (eVar 0) (eVar 2)) (aCons (eBin dIx (eVar 1) (eVar 2)) aNil)))))) (intsD 0 l.length) [w l, w l, .non] = some (List.replicate l.length (.bl true), [w l, w l, .non]) := by
      intro l hl hp w hw
      unfold intsD
      rw [lc_all (fun i : Nat => D.int (0 + (i : Nat))) (fun _ => D.bl true)]
      · have : (List.range l.length).map (fun _ => D.bl true) = List.replicate l.length (D.bl true) := by
          rw [List.map_const', List.length_range]
        rw [this]
      · intro a ha
        have ha := List.mem_range.mp ha
        have e := ix_nat l a ha
        have e2 := ih l[a] (hp _ (List.getElem_mem ha))
        rcases hw l with e3 | e3 <;> simp [e3, e, e2]
    match d, h with
    | .non, _ => simp
    | .bl _, _ => simp
    | .int _, _ => simp
    | .str _, h => simp [d_eqs _ (show sOk _ = true from h)]
    | .dct _, h => simp [plain] at h
    | .set _, h => simp [plain] at h
    | .obj _ _, h => simp [plain] at h
    | .scr _, h => simp [plain] at h
    | .tup l, h =>
      simp only [plain, Bool.and_eq_true, List.all_eq_true] at h
      have h1 := okS_le h.1
      simp [s62_of (i := (l.length : Int)) (by omega) (by omega), okLen_of (n := l.length) (by omega), key l h1 h.2 D.tup (fun m => .inl rfl), allD, getBls_true]
    | .lst l, h =>
      simp only [plain, Bool.and_eq_true, List.all_eq_true] at h
      have h1 := okS_le h.1
      simp [s62_of (i := (l.length : Int)) (by omega) (by omega), okLen_of (n := l.length) (by omega), key l h1 h.2 D.lst (fun m => .inr rfl), allD, getBls_true]
end TL

namespace TL
open PySem PySem.Spec PyProof.Rows L2
/-! ### the order of data -/
def rLtG (K : PySem.W.Frag) : R2 := fun x y H Q => ∃ d e, Dp K H x d ∧ Dp K H y e ∧ PySem.W.alike d e = true ∧ d ≠ .none ∧ d.depth ≤ 60 ∧ Q (.bl (PySem.W.dataLt d e)) H
theorem op_ltG {X : Cx} (hu : X.A.units + 64 < cLine) : OpR X (compareOp .Lt) (rLtG X.K) := by
  intro pins s σ H x y v u Q I rx ry h
  obtain ⟨d, e, hd, he, hal, hn, dp, q⟩ := h
  obtain ⟨as, r1⟩ := Dp.reads I d x v hd rx
  obtain ⟨bs, r2⟩ := Dp.reads I e y u he ry
  have R := PySem.W.rcLt_alike d e X.A s v u as bs r1 r2 hal hn (by omega)
  exact R X.prog X.w X.xe (EP X pins σ Q) ⟨.bl _, H, I, rfl, q⟩
def alikeD (a b : D) : Bool := PySem.W.alike (py a) (py b)
def ltD (a b : D) : Bool := PySem.W.dataLt (py a) (py b)
def dLtG (a b : D) : Option D := if pyOk 40 a && pyOk 40 b && alikeD a b && !isNonD a then some (.bl (ltD a b)) else none
theorem py_none {n : Nat} {d : D} (h : pyOk n d = true) (h2 : isNonD d = false) : py d ≠ .none := by
  cases d <;> cases n <;> simp_all [py, isNonD, pyOk]
theorem od_ltG {X : Cx} : OpD X (rLtG X.K) dLtG := fun S H d1 d2 d v1 v2 Q al r1 r2 e q => by
  obtain ⟨h, e⟩ := ifSome' e
  subst e
  simp only [Bool.and_eq_true, Bool.not_eq_true'] at h
  obtain ⟨⟨⟨h1, h2⟩, h3⟩, h4⟩ := h
  have sh := (pyOk_ok 40 d1 h1).2
  exact ⟨_, _, r1.dp h1, r2.dp h2, h3, py_none h1 h4, by omega, q _ H (Grow.refl H) (.bl _)⟩
end TL

namespace PySem.W
open PySem PySem.SeqAt PyProof.Rows
section
variable {prog : Program} {w : World} {A : Around} {E : Value → Shared → Prop} {s : Shared}
/-- min(a, b) of two alike data -/
theorem min_two_data {a b : Value} {da db : PyData} {as bs : List Addr} {Q : Value → Shared → Prop} (hh : A.handled = none) (ra : Reads s.heap a da as) (rb : Reads s.heap b db bs) (hal : AlikeAll [da, db]) (hu : A.units + 1 + PyData.depthAll [da, db] < cLine)
    (h : ∀ h' tk, (∀ c o, s.heap.get? c = some o → h'.get? c = some o) → Q (if dataLt db da then b else a) { s with heap := h', toks := tk }) : wpAny (model prog w) A (call (.builtin "min") [a, b]) Q E s := by
  have hname : (toString "min" ++ toString ".loop" : String) = "min.loop" := by decide
  refine call_function_tree F.kind_min F.plain_min F.entry_min (F.args_min2 _ _) ?_; show wpAny _ A.in1 (Builtin.Builtins.bindParams "min" ["key", "default"] 0 ⟨[], []⟩ >>= _) _ _ s
  refine wpAny_bind (wpAny_of_eq (show Builtin.Builtins.bindParams "min" ["key", "default"] 0 ⟨[], []⟩ = pure [none, none] from rfl) ?_); show wpAny _ A.in1 (newTuple [a, b] >>= _) _ _ s
  refine wpAny_bind (wpAny_newObj_type (wpAny_bind ?_))
  have g1 : ∀ c o, s.heap.get? c = some o → (s.heap.push { cls := .type "tuple", data := .seq #[a, b] }).get? c = some o := fun c o e => Heap.get?_push_of_some _ e
  have hT : (s.heap.push { cls := .type "tuple", data := .seq #[a, b] }).IsTuple s.heap.objs.size #[a, b] := ⟨_, Heap.get?_push_size _ rfl, rfl, 0, rfl⟩
  have hr : ReadsAll (s.heap.push { cls := .type "tuple", data := .seq #[a, b] }) [a, b] [da, db] (as ++ (bs ++ [])) := .cons (reads_keeps g1 ra) (.cons (reads_keeps g1 rb) .nil)
  refine iter_tupleW (s := { s with heap := s.heap.push { cls := .type "tuple", data := .seq #[a, b] } }) (A := A.in1) hh hT fun s₂ e W st hfp hw hk => wpAny_bind (wpAny_newObj_type ?_)
  have hSf : s₂.heap.objs.size ∉ _ := fun hm => Nat.lt_irrefl _ (hfp _ hm)
  rw [hname]
  refine wpAny_pure ⟨plainId_quiet F.plain_min_loop _, codeAny_min_loop_firstH W _ hw _ (cmpIn_lt (s := { s with heap := s.heap.push { cls := .type "tuple", data := .seq #[a, b] } }) (A := A.in1) (vs := #[a, b]) hr hal (by show A.units + 1 + _ < _; exact hu)) s₂.heap.objs.size hSf (fresh_in hk) _ (by simp) (fun b o e => Heap.get?_push_of_some _ (hk b o e)) (W.frame 0 s₂ _ s₂.toks st (Nat.le_refl _) fun b _ o e => Heap.get?_push_of_some _ e) (Heap.get?_push_size _ rfl) fun v s' hP hm => ?_⟩
  obtain ⟨h', tk, rfl, hk'⟩ := moved_old e rfl (Moved.drop_new (tk := s₂.toks) hm (Nat.le_refl _))
  have hv : v = if dataLt db da then b else a := by
    have hP' : (#[a, b] : Array Value)[argBest (fun i j => dataLt ([da, db].getD i .none) ([da, db].getD j .none)) 1]? = some v := hP
    cases hd : dataLt db da <;> simp [argBest, hd] at hP' <;> simp [hP']
  rw [hv]
  exact h h' tk fun c o e2 => hk' c o (g1 c o e2)
end
end PySem.W
namespace TL
open PySem PySem.Spec PyProof.Rows L2
def rMin2G (K : PySem.W.Frag) : List V → Hp → VK → Prop := fun xs H Q => ∃ x y d e, xs = [x, y] ∧ Dp K H x d ∧ Dp K H y e ∧ PySem.W.AlikeAll [d, e] ∧ d.depth ≤ 60 ∧ e.depth ≤ 60 ∧ Q (if PySem.W.dataLt e d then y else x) H
theorem call_min2G {X : Cx} (hc : X.calm = true) (hu : X.A.units + 64 < cLine) : CallR X (.builtin "min") (rMin2G X.K) := by
  intro pins s σ H xs us Q I r h
  obtain ⟨x, y, d, e, rfl, hd, he, hal, d1, d2, q⟩ := h
  obtain ⟨u, w', rfl, r1, r2⟩ := vals2 r
  obtain ⟨as, ra⟩ := Dp.reads I d x u hd r1
  obtain ⟨bs, rb⟩ := Dp.reads I e y w' he r2
  refine PySem.W.min_two_data (I.ok.hd hc) ra rb hal (by simp only [PyData.depthAll]; omega) fun h' tk k => ⟨_, H, I.kept k, ?_, q⟩
  cases PySem.W.dataLt e d
  · exact r1
  · exact r2
def loose : D → Bool
  | .lst _ => false
  | .dct _ => false
  | _ => true
theorem Rv.rf_of {K : PySem.W.Frag} {mg : Str → Option Value} {S : List Addr} {H : Hp} {d : D} {v : V} (r : Rv K mg S H d v) (h : loose d = true) : Rf K mg (hide S H) d v := by
  cases r with
  | rf r => exact r
  | lst _ _ => cases h
  | dK _ _ _ => cases h
  | dT _ _ _ => cases h
def min2G (a b : D) : Option D := if (pyOk 40 a && pyOk 40 b && loose a && loose b && !isNonD a && !isNonD b) && (alikeD a a && alikeD a b && alikeD b a && alikeD b b) then some (if ltD b a then b else a) else none
theorem ca_min2G {X : Cx} : CaD X (rMin2G X.K) (f2 min2G) := ca2 fun S H d1 d2 d v1 v2 Q al r1 r2 e q => by
  obtain ⟨h, e⟩ := ifSome' e
  simp only [Bool.and_eq_true, Bool.not_eq_true'] at h
  obtain ⟨⟨⟨⟨⟨⟨h1, h2⟩, h3⟩, h4⟩, h5⟩, h6⟩, ⟨⟨h7, h8⟩, h9⟩, h10⟩ := h
  have s1 := (pyOk_ok 40 d1 h1).2
  have s2 := (pyOk_ok 40 d2 h2).2
  refine ⟨_, _, _, _, rfl, r1.dp h1, r2.dp h2, ⟨fun x hx y hy => ?_, fun x hx => ?_⟩, by omega, by omega, ?_⟩
  · simp only [List.mem_cons, List.not_mem_nil, or_false] at hx hy
    rcases hx with rfl | rfl <;> rcases hy with rfl | rfl <;> assumption
  · simp only [List.mem_cons, List.not_mem_nil, or_false] at hx
    rcases hx with rfl | rfl
    · exact py_none h1 h5
    · exact py_none h2 h6
  · show Q (if ltD d2 d1 then v2 else v1) H
    cases hl : ltD d2 d1
    · rw [hl] at e; subst e; exact q _ H (Grow.refl H) (r1.rf_of h3)
    · rw [hl] at e; subst e; exact q _ H (Grow.refl H) (r2.rf_of h4)
end TL

namespace L2
open PySem PySem.Spec PyProof.Rows
/-- t * 1 is t -/
theorem tuple_mul1 (l : Addr) (items : Array Value) (n : Nat) (dd : Option Addr) (sl : Array (Option Value)) (u : Tok) :
    Meets (Builtin.«tuple.__mul__» ⟨[.ref l, .int 1 u], []⟩) (fun _ R s => s.heap.get? l = some { cls := .type "tuple", dict := dd, data := .seq items n, slots := sl } ∧ R (.ok (.ret (Value.ref l))) s) :=
  .of_wp fun prog w A R s h => by
    obtain ⟨hp, g, d, tk, os⟩ := s; obtain ⟨hl, h⟩ := h
    have f1 := AutoSeq1.idx_int
    have c0 : (decide ((1 : Int) < -(2 ^ 63)) || decide ((1 : Int) ≥ 2 ^ 63)) = false := by decide
    have c1 : (items.isEmpty || (1 : Int) == 1) = true := by simp
    wp_walk using wpAny_loadPart' hl
    repeat (first | (refine wpAny_ite_false (decide_eq_false (by rw [c0]; exact Bool.false_ne_true)) ?_; wp_walk using wpAny_loadPart' hl) | (refine wpAny_ite_true (decide_eq_true c1) ?_; wp_walk using wpAny_loadPart' hl))
    all_goals first | exact ⟨_, rfl, h⟩ | skip
def rRepT1 (K : PySem.W.Frag) : R2 := fun x y H Q => ∃ l xs, x = .ref l ∧ y = .int 1 ∧ SqT K H l xs ∧ Q (.ref l) H
theorem op_repT1 {X : Cx} : OpR X (binaryOp .Mult) (rRepT1 X.K) := by
  intro pins s σ H x y v u Q I rx ry h
  obtain ⟨l, xs, rfl, rfl, hT, q⟩ := h
  cases rx; obtain ⟨t, rfl⟩ := ry
  obtain ⟨its, r, ⟨⟨cls, dd, data, sl⟩, ho, hc, n, hd⟩, hs⟩ := I.tuple hT
  simp only at hc hd; subst hc hd
  exact wpAny_binaryOp_repeat_ref (T := "tuple") (U := "int") (by decide) ⟨_, ho, rfl⟩ (fun s' => typeIs_int s' 1 t) noFill_tuple_mul F.fills_int_mul F.slot_int_rmul repeat_tuple F.slot_int_index.lookup (call_meets F.slot_int_rmul (typeIs_int s 1 t) F.entry_int_rmul (F.args_int_rmul_2 _ _) (int_rmul_tuple 1 t l its.toArray n dd sl) ⟨ho, rfl, ⟨_, ho, rfl⟩, call_meets F.slot_tuple_mul ⟨_, ho, rfl⟩ F.entry_tuple_mul (F.args_tuple_mul_2 _ _) (tuple_mul1 l its.toArray n dd sl t) ⟨ho, ⟨.ref l, H, I, rfl, q⟩⟩⟩)
end L2
namespace TL
open PySem PySem.Spec PyProof.Rows L2
def dMulT1 : D → D → Option D
  | .tup l, .int i => if i == 1 then some (.tup l) else none
  | _, _ => none
theorem od_mulT1 {X : Cx} : OpD X (rRepT1 X.K) dMulT1 := fun S H d1 d2 d v1 v2 Q al r1 r2 e q => by
  cases d1 <;> cases d2 <;> first | (cases e; done) | skip
  obtain ⟨h, e⟩ := ifSome' e
  subst e
  have hi := eq_of_beq h
  subst hi
  obtain ⟨a, vs, rfl, h1, h1', q1⟩ := r1.tup_inv
  exact ⟨a, vs, rfl, r2.int_inv, h1, q _ H (Grow.refl H) (r1.rf_of rfl)⟩
/-- * with a tuple once -/
def dMul' : D → D → Option D := orG dMul dMulT1
theorem op_mulD' {X : Cx} : OpR X (binaryOp .Mult) (fun x y H Q => rMulD X.K x y H Q ∨ rRepT1 X.K x y H Q) := OpR.or op_mulD op_repT1
theorem od_mul' {X : Cx} : OpD X (fun x y H Q => rMulD X.K x y H Q ∨ rRepT1 X.K x y H Q) dMul' := OpD.or od_mul od_mulT1
/-- < of ints or of data -/
def dLt' : D → D → Option D := orG dLt dLtG
end TL

namespace TL
open PySem PySem.Spec PyProof.Rows L2
/-! side conditions for simp (disch := omega) -/
theorem okLen_s {n : Nat} (h : n ≤ 16777216) : okLen n = true := okLen_of h
theorem s62_s {i : Int} (h : -1000000000000 ≤ i ∧ i ≤ 1000000000000) : small62 i = true := s62_of h.1 h.2
theorem sm_s {i : Int} (h : -1000000000000000000 ≤ i ∧ i ≤ 1000000000000000000) : sm i = true := sm_of h.1 h.2
theorem ix_s {α : Type} [Inhabited α] (f : α → D) (l : List α) (i : Int) (h : 0 ≤ i ∧ i < l.length) : atI (l.map f) i = some (f (l.getD i.toNat default)) := by
  rw [ix_get _ _ h.1 (by simpa using h.2), List.getElem?_map, List.getElem?_eq_getElem (by omega)]
  simp [List.getD_eq_getElem?_getD, List.getElem?_eq_getElem (show i.toNat < l.length by omega)]
theorem ix_last {α : Type} [Inhabited α] (f : α → D) (l : List α) (h : 0 < l.length) : atI (l.map f) (-1) = some (f (l.getD (l.length - 1) default)) := by
  unfold atI ixN
  rw [if_neg (by omega), if_pos (by simp; omega)]
  have e : ((-1 : Int) + ((l.map f).length : Int)).toNat = l.length - 1 := by simp; omega
  rw [e, Option.bind_some, List.getElem?_map, List.getElem?_eq_getElem (by omega)]
  simp [List.getD_eq_getElem?_getD, List.getElem?_eq_getElem (show l.length - 1 < l.length by omega)]
theorem ix_snoc (l : List D) (d : D) : atI (l ++ [d]) (-1) = some d := by
  unfold atI ixN
  rw [if_neg (by omega), if_pos (by simp; omega)]
  simp
  rw [show ((-1 : Int) + ((l.length : Int) + 1)).toNat = l.length by omega]
  simp
theorem setL_snoc (l : List D) (d e : D) : setL (l ++ [d]) (-1) e = some (l ++ [e]) := by
  unfold setL ixN
  rw [if_neg (by omega), if_pos (by simp; omega)]
  simp
  rw [show ((-1 : Int) + ((l.length : Int) + 1)).toNat = l.length by omega]
  simp
theorem setL_s {α : Type} (f : α → D) (l : List α) (i : Int) (a : α) (h : 0 ≤ i ∧ i < l.length) : setL (l.map f) i (f a) = some ((l.set i.toNat a).map f) := by
  unfold setL ixN
  rw [if_pos h.1]
  simp [List.map_set, h]
/-! slices -/
theorem cut_from (l : List D) (k : Int) (h : 0 ≤ k) : cutD l (some k) none = l.drop k.toNat := by
  obtain ⟨n, rfl⟩ : ∃ n : Nat, k = n := ⟨k.toNat, by omega⟩
  unfold cutD
  rw [HT.sIx_nat, HT.sIx_none, Int.toNat_natCast]
  rw [List.take_of_length_le (by simp)]
  by_cases hn : n ≤ l.length
  · rw [Nat.min_eq_left hn]
  · rw [Nat.min_eq_right (by omega), List.drop_eq_nil_of_le (Nat.le_refl _), List.drop_eq_nil_of_le (by omega)]
theorem cut_to (l : List D) (k : Int) (h : 0 ≤ k) : cutD l none (some k) = l.take k.toNat := by
  obtain ⟨n, rfl⟩ : ∃ n : Nat, k = n := ⟨k.toNat, by omega⟩
  unfold cutD
  rw [HT.sIx_nat, HT.sIx_none, Int.toNat_natCast]
  rw [List.drop_zero, Nat.sub_zero]
  by_cases hn : n ≤ l.length
  · rw [Nat.min_eq_left hn]
  · rw [Nat.min_eq_right (by omega), List.take_of_length_le (Nat.le_refl _), List.take_of_length_le (by omega)]
theorem cut_mid (l : List D) (k m : Int) (h : 0 ≤ k) (h' : 0 ≤ m) : cutD l (some k) (some m) = (l.take m.toNat).drop k.toNat := by
  obtain ⟨n, rfl⟩ : ∃ n : Nat, k = n := ⟨k.toNat, by omega⟩
  obtain ⟨j, rfl⟩ : ∃ n : Nat, m = n := ⟨m.toNat, by omega⟩
  unfold cutD
  rw [HT.sIx_nat, HT.sIx_nat, Int.toNat_natCast, Int.toNat_natCast]
  apply List.ext_getElem?
  intro i
  rw [List.getElem?_take, List.getElem?_drop, List.getElem?_drop, List.getElem?_take]
  by_cases h1 : n ≤ l.length
  · rw [Nat.min_eq_left h1]
    by_cases h2 : n + i < l.length
    · by_cases h3 : n + i < j
      · rw [if_pos (by omega), if_pos h3]
      · rw [if_neg (by omega), if_neg h3]
    · rw [List.getElem?_eq_none (by omega)]
      simp
  · have a1 : l[l.length + i]? = none := List.getElem?_eq_none (by omega)
    have a2 : l[n + i]? = none := List.getElem?_eq_none (by omega)
    rw [Nat.min_eq_right (show l.length ≤ n by omega), a1, a2]
    simp
/-! sums, all, any of embedded lists -/
theorem getInts_m {α : Type} (f : α → Int) (l : List α) : getInts (l.map fun a => D.int (f a)) = some (l.map f) := by
  have := getInts_of (l.map f)
  rwa [List.map_map] at this
theorem getBls_m {α : Type} (f : α → Bool) (l : List α) : getBls (l.map fun a => D.bl (f a)) = some (l.map f) := by
  have := getBls_of (l.map f)
  rwa [List.map_map] at this
theorem sum_m {α : Type} (f : α → Int) (l : List α) : sumD (.lst (l.map fun a => D.int (f a))) = some (.int (l.map f).sum) := by
  show (getInts _).map _ = _
  rw [getInts_m]; rfl
theorem all_m {α : Type} (f : α → Bool) (l : List α) : allD (.lst (l.map fun a => D.bl (f a))) = some (.bl (l.all f)) := by
  show (getBls _).map _ = _
  rw [getBls_m]; simp
theorem any_m {α : Type} (f : α → Bool) (l : List α) : anyD (.lst (l.map fun a => D.bl (f a))) = some (.bl (l.any f)) := by
  show (getBls _).map _ = _
  rw [getBls_m]; simp
/-! while -/
theorem loopW_succ (t : Tf) (b : Sf) (ks : List Nat) (n : Nat) (ρ : Rho) : loopW t b ks (n + 1) ρ = (t ρ).bind fun p => if p.1 then (b p.2).bind fun o => match o with
      | .nx ρ' => loopW t b ks n (kill ks ρ')
      | .ct ρ' => loopW t b ks n (kill ks ρ')
      | .bk ρ' => some (.nx (kill ks ρ'))
      | .rt d ρ' => some (.rt d ρ')
    else some (.nx p.2) := rfl
theorem loopW_go {t : Tf} {b : Sf} {ks : List Nat} {n : Nat} {ρ ρ1 ρ2 : Rho} (h : t ρ = some (true, ρ1)) (k : (b ρ1).bind (nxOf ks) = some ρ2) : loopW t b ks (n + 1) ρ = loopW t b ks n ρ2 := by
  rw [loopW_succ, h]
  simp only [Option.bind_some, if_true]
  cases e : b ρ1 with
  | none => rw [e] at k; cases k
  | some o =>
    rw [e] at k
    cases o with
    | nx r => cases k; rfl
    | ct r => cases k; rfl
    | bk r => cases k
    | rt d r => cases k
theorem loopW_end {t : Tf} {b : Sf} {ks : List Nat} {n : Nat} {ρ ρ1 : Rho} (h : t ρ = some (false, ρ1)) : loopW t b ks (n + 1) ρ = some (.nx ρ1) := by
  rw [loopW_succ, h]; rfl
theorem sWhile_eq (n : Nat) (ks : List Nat) (t : Tf) (b : Sf) (ρ : Rho) : sWhile n ks t b ρ = loopW t b ks n (kill ks ρ) := rfl
/-- a loop whose turns all go on: by the turn's function on states -/
theorem loop_all {α σ : Type} {b : D → Rho → Option Out} {ks : List Nat} (emb : α → D) (st : σ → Rho) (f : σ → α → σ) (I : List α → σ → Prop) : ∀ (l pre : List α) (s : σ), I pre s →
    (∀ pre' a post, pre ++ l = pre' ++ a :: post → ∀ s, I pre' s → (b (emb a) (st s)).bind (nxOf ks) = some (st (f s a)) ∧ I (pre' ++ [a]) (f s a)) → loopF b ks (l.map emb) (st s) = some (.nx (st (l.foldl f s))) ∧ I (pre ++ l) (l.foldl f s)
  | [], pre, s, hi, _ => ⟨rfl, by simpa using hi⟩
  | a :: l, pre, s, hi, h => by
    obtain ⟨e1, i1⟩ := h pre a l rfl s hi
    obtain ⟨e2, i2⟩ := loop_all emb st f I l (pre ++ [a]) _ i1 fun pre' a' post e => h pre' a' post (by simpa using e)
    exact ⟨by rw [List.map_cons, loop_go e1, e2]; rfl, by simpa using i2⟩
/-! zip -/
theorem zip_m {α β : Type} (f : α → D) (g : β → D) (l : List α) (m : List β) : zipD (l.map f) (m.map g) = (l.zip m).map fun p => D.tup [f p.1, g p.2] := by
  unfold zipD
  rw [List.zip_map, List.map_map]
  rfl
/-! the order of data is total -/
theorem ltD_irr (a : D) : ltD a a = false := PyProof.Rows.lex_irrefl _
theorem ltD_asym {a b : D} (h : ltD a b = true) : ltD b a = false := by
  cases e : ltD b a with
  | false => rfl
  | true =>
    have := PyProof.Rows.lex_trans _ _ _ h e
    rw [PyProof.Rows.lex_irrefl] at this
    cases this
theorem ltD_tri {a b : D} (h : ltD a b = false) (k : ltD b a = false) : PySem.W.keyToks (py a) = PySem.W.keyToks (py b) := PyProof.Rows.lex_total _ _ h k
theorem ltD_trans {a b c : D} (h : ltD a b = true) (k : ltD b c = true) : ltD a c = true := PyProof.Rows.lex_trans _ _ _ h k
theorem pys_map {α : Type} (f : α → D) : ∀ l : List α, pys (l.map f) = l.map fun a => py (f a)
  | [] => rfl
  | a :: l => by rw [List.map_cons, List.map_cons, pys, pys_map f l]
end TL

namespace TL
open PySem PySem.Spec PyProof.Rows L2
/-- a loop that may end with a result -/
theorem loop_ret {α : Type} {b : D → Rho → Option Out} {ks : List Nat} (emb : α → D) (ρ : Rho) (p : α → Bool) (d : D) : ∀ (l : List α),
    (∀ a ∈ l, (p a = true → ∃ r, b (emb a) ρ = some (.rt d r)) ∧ (p a = false → (b (emb a) ρ).bind (nxOf ks) = some ρ)) →
    (l.any p = true → ∃ r, loopF b ks (l.map emb) ρ = some (.rt d r)) ∧ (l.any p = false → loopF b ks (l.map emb) ρ = some (.nx ρ))
  | [], h => ⟨fun h => by simp at h, fun _ => rfl⟩
  | a :: l, h => by
    obtain ⟨h1, h2⟩ := h a (by simp)
    obtain ⟨h3, h4⟩ := loop_ret emb ρ p d l fun a ha => h a (by simp [ha])
    cases hp : p a with
    | true =>
      obtain ⟨r, e⟩ := h1 hp
      refine ⟨fun _ => ⟨r, ?_⟩, fun k => ?_⟩
      · rw [List.map_cons, loop_rt e]
      · simp [hp] at k
    | false =>
      rw [List.any_cons, hp, Bool.false_or, List.map_cons, loop_go (h2 hp)]
      exact ⟨h3, h4⟩
/-- a result, whatever becomes of the slots -/
theorem exo {α β : Type} {x : Option (α × β)} {v : α} (h : x.map (fun p => p.1) = some v) : ∃ l, x = some (v, l) := by
  cases x with
  | none => cases h
  | some p => obtain ⟨a, b⟩ := p; simp at h; subst h; exact ⟨b, rfl⟩
/-- ends with True -/
def Tru (b : Sf) (ρ : Rho) : Prop := ∃ r, b ρ = some (.rt (.bl true) r)
theorem Tru.seq {f g : Sf} {ρ ρ1 : Rho} (h : f ρ = some (.nx ρ1)) (k : Tru g ρ1) : Tru (sSeq f g) ρ := by
  obtain ⟨r, e⟩ := k
  exact ⟨r, by rw [v_sSeq, h]; exact e⟩
theorem Tru.law {b : Sf} {m : Nat} {ns : List Int} (h : Tru b ([D.scr ns] ++ List.replicate m .non)) : ∃ r, runF b 1 m [.scr ns] = some (.bl true, r) := by
  obtain ⟨r, e⟩ := h
  rw [v_run1, e]
  exact ⟨_, rfl⟩
theorem next_nat (ns : List Int) (s : Dr) (h : s.ok) (m : Int) (h0 : 0 < m) (hm : m ≤ 1000000000000000000) : ∃ (v : Nat) (s' : Dr), s'.ok ∧ (v : Int) < m ∧ runF b__law_next 2 2 [drD ns s, .int m] = some (.int (v : Int), [drD ns s', .int m]) := by
  obtain ⟨v, s', ok, v0, vm, e⟩ := next_ok ns s h m h0 hm
  refine ⟨v.toNat, s', ok, by omega, ?_⟩
  rw [show ((v.toNat : Nat) : Int) = v by omega]
  exact e
/-- prefix of a range -/
theorem range_pre {n : Nat} {pre post : List Nat} {a : Nat} (h : [] ++ List.range n = pre ++ a :: post) : a = pre.length ∧ pre.length < n := by
  have h1 : (List.range n)[pre.length]? = some a := by
    rw [List.nil_append] at h
    rw [h]; simp
  have h2 : pre.length < n := by
    have := (List.getElem?_eq_some_iff.mp h1).1
    simpa using this
  rw [List.getElem?_range h2] at h1
  exact ⟨(Option.some.inj h1).symm, h2⟩
end TL

set_option maxHeartbeats 2000000
/-! itertools.combinations, at the library's level -/
namespace CpComb
open PySem PySem.Spec
open Sem (wp)
theorem mro_cmb : mroOf (.type "itertools.combinations") = pure [.type "itertools.combinations", .type "object"] := by rw [mroOf_type]; kernel_rfl
theorem lookup_cmb_new : typeLookup (.type "itertools.combinations") "__new__" = pure (some (.builtin "itertools.combinations.__new__")) := by rw [typeLookup_type, builtinLookup_eq_fast]; kernel_rfl
theorem slot_cmb_init : Slot "itertools.combinations" "__init__" "object.__init__" :=
  .of (owner := "object") (n := "__init__") (by rw [typeLookup_type, builtinLookup_eq_fast]; kernel_rfl) (by decide +kernel) (by decide +kernel) (by decide +kernel)
    (by first | exact .inl (by decide +kernel) | exact .inr (by decide +kernel)) (by rw [isSubtype_type]; kernel_rfl)
theorem sub_cmb : isSubtype (.type "itertools.combinations") (.type "itertools.combinations") = pure true := by rw [isSubtype_type]; kernel_rfl
theorem called_cmb : TypeCalled "itertools.combinations" "itertools.combinations.__new__" "object.__init__" :=
  ⟨by decide +kernel, by decide +kernel, ⟨_, _, mro_cmb⟩, madeBy_type mro_cmb lookup_cmb_new (by decide +kernel), by decide +kernel, sub_cmb, slot_cmb_init⟩
theorem typeCall_cmb_2 (a b : Value) : checkTypeCall "itertools.combinations" ⟨[a, b], []⟩ = pure () := by kernel_rfl
theorem newCall_cmb_2 (a b : Value) : checkBuiltinCall "itertools.combinations.__new__" ⟨[.type "itertools.combinations", a, b], []⟩ = pure () := by kernel_rfl
theorem entry_cmb_new : entryFor table "itertools.combinations.__new__" = some Builtin.«itertools.combinations.__new__» := entryFor_of_tree (by kernel_rfl)
theorem plain_cmb_new : plainId "itertools.combinations.__new__" = true := by decide +kernel
theorem slot_cmb_iter : Slot "itertools.combinations" "__iter__" "itertools.combinations.__iter__" :=
  .of (owner := "itertools.combinations") (n := "__iter__") (by rw [typeLookup_type, builtinLookup_eq_fast]; kernel_rfl) (by decide +kernel) (by decide +kernel) (by decide +kernel)
    (by first | exact .inl (by decide +kernel) | exact .inr (by decide +kernel)) sub_cmb
theorem slot_cmb_next : Slot "itertools.combinations" "__next__" "itertools.combinations.__next__" :=
  .of (owner := "itertools.combinations") (n := "__next__") (by rw [typeLookup_type, builtinLookup_eq_fast]; kernel_rfl) (by decide +kernel) (by decide +kernel) (by decide +kernel)
    (by first | exact .inl (by decide +kernel) | exact .inr (by decide +kernel)) sub_cmb
theorem entry_cmb_iter : entryFor table "itertools.combinations.__iter__" = some Builtin.«dict_keyiterator.__iter__» :=
  entryFor_alias (id' := "dict_keyiterator.__iter__") (by kernel_rfl) (by first | rfl | decide +kernel | (unfold String.splitOn; simp +decide [String.splitOnAux])) (by decide +kernel) (by kernel_rfl)
theorem entry_cmb_next : entryFor table "itertools.combinations.__next__" = some Builtin.«itertools.combinations.__next__» := entryFor_of_tree (by kernel_rfl)
theorem owner_cmb : Manifest.owners.lookup (String.ofList ("itertools.combinations".toList.reverse).reverse) = some Manifest.sig_itertools_combinations := by kernel_rfl
theorem args_cmb_iter (a : Value) : argsOk "itertools.combinations.__iter__" ⟨[a], []⟩ := by
  unfold argsOk; rw [signature?_of (id := "itertools.combinations.__iter__") (n := "__iter__".toList.reverse) (o := "itertools.combinations".toList.reverse) (by kernel_rfl) owner_cmb]; kernel_rfl
theorem args_cmb_next (a : Value) : argsOk "itertools.combinations.__next__" ⟨[a], []⟩ := by
  unfold argsOk; rw [signature?_of (id := "itertools.combinations.__next__") (n := "__next__".toList.reverse) (o := "itertools.combinations".toList.reverse) (by kernel_rfl) owner_cmb]; kernel_rfl
theorem noDict_cmb : typeHasDict (.type "itertools.combinations") = false := by decide +kernel
/-- the next row of places -/
def nextC (n : Nat) (indices : List Nat) : Option (List Nat) :=
  let r := indices.length
  match (List.range r).reverse.find? fun i => indices.getD i 0 != i + n - r with
  | none => none
  | some i => some (indices.take i ++ (List.range (r - i)).map (indices.getD i 0 + 1 + ·))
end CpComb

set_option maxHeartbeats 2000000
namespace CpComb
open PySem PySem.Spec
open Sem (wp)
/-- a combinations object: its pool, 0 ahead of the first, 1 then, 2 at its end; what it gave; its places -/
abbrev IsCmb (h : Heap) (it : Addr) (pool : Addr) (st : Int) (cur : Value) (idx : List Nat) : Prop :=
  h.get? it = some { cls := .type "itertools.combinations", dict := none, data := .fields ([.ref pool, .int st 0, cur] ++ idx.map fun n : Nat => rawInt n).toArray, slots := #[] }
section
variable {prog : Program} {w : World} {A : Around} {E : Value → Shared → Prop} {s : Shared}
/-- collecting a thing gives some items -/
def Coll (prog : Program) (w : World) (E : Value → Shared → Prop) (v : Value) (P : Shared → List Value → Prop) (s : Shared) : Prop :=
  ∀ (A : Around) (Q : List Value → Shared → Prop), A.handled = none → (∀ (h' : Heap) (tk : Nat) (us : List Value), (∀ b o, s.heap.get? b = some o → h'.get? b = some o) → P { s with heap := h', toks := tk } us → Q us { s with heap := h', toks := tk }) →
    wpAny (model prog w) A (collect v) Q E s
theorem code_cmb_new {v : Value} {k : Nat} {t : Tok} {P : Shared → List Value → Prop} {Q₁ : Value → Shared → Prop} (hh : A.handled = none) (hk : k ≤ 1000) (hc : Coll prog w E v P s)
    (hlen : ∀ s' us, P s' us → us.length ≤ 100000)
    (h : ∀ (h' : Heap) (tk : Nat) (us : List Value), (∀ b o, s.heap.get? b = some o → h'.get? b = some o) → P { s with heap := h', toks := tk } us →
      Q₁ (.ref (h'.push { cls := .type "tuple", data := .seq us.toArray }).objs.size) { s with heap := (h'.push { cls := .type "tuple", data := .seq us.toArray }).push { cls := .type "itertools.combinations", data := .fields ([.ref h'.objs.size, rawInt (if k > us.length then 2 else 0), .none] ++ (List.range k).map fun (i : Nat) => rawInt i).toArray }, toks := tk }) :
    codeAny (model prog w) A (.call (.builtin "itertools.combinations.__new__") ⟨[.type "itertools.combinations", v, .int k t], []⟩) (wants Q₁ E) s := by
  refine codeAny_of_tree ?_
  show wpAny _ A.in1 (do checkBuiltinCall "itertools.combinations.__new__" ⟨[.type "itertools.combinations", v, .int k t], []⟩; again (.builtin "itertools.combinations.__new__" ⟨[.type "itertools.combinations", v, .int k t], []⟩)) _ _ s
  refine wpAny_bind (wpAny_of_eq (newCall_cmb_2 _ _) (wpAny_pure ⟨plainId_quiet plain_cmb_new _, codeAny_builtin entry_cmb_new ?_⟩))
  rw [Around.under_plainId plain_cmb_new _]
  have hh1 : A.in1.handled = none := hh
  have e1 : Builtin.Itertools.itClassAndRest "combinations" ⟨[.type "itertools.combinations", v, .int k t], []⟩ = pure (.type "itertools.combinations", [v, .int k t]) := by
    kernel_rfl
  have e2 : ∀ a b : Value, Builtin.Itertools.itBindNamed "combinations" ["iterable", "r"] 2 2 [a, b] [] = pure [some a, some b] := fun a b => by kernel_rfl
  have e4 : asIndex (.int k t) = pure (k : Int) := by kernel_rfl
  have k1 : (decide ((k : Int) < -(2 ^ 63 : Int)) || decide ((k : Int) ≥ 2 ^ 63)) = false := by
    rw [decide_eq_false (by omega), decide_eq_false (by omega)]; rfl
  have k2 : ¬ (k : Int) < 0 := by omega
  have k3 : Builtin.Itertools.itTooMany (k : Int) = false := decide_eq_false (by omega)
  refine wpAny_bind ?_
  show wpAny _ _ (Builtin.Itertools.itClassAndRest "combinations" _ >>= _) _ _ s
  refine wpAny_bind (wpAny_of_eq e1 ?_)
  show wpAny _ _ (Builtin.Itertools.itBindNamed "combinations" ["iterable", "r"] 2 2 [v, .int k t] [] >>= _) _ _ s
  refine wpAny_bind (wpAny_of_eq (e2 _ _) ?_)
  show wpAny _ _ (Builtin.Itertools.itSsizeArg (.int k t) >>= _) _ _ s
  refine wpAny_bind ?_
  show wpAny _ _ (asIndex (.int k t) >>= _) _ _ s
  refine wpAny_bind (wpAny_of_eq e4 ?_)
  show wpAny _ _ (if (decide ((k : Int) < -(2 ^ 63 : Int)) || decide ((k : Int) ≥ 2 ^ 63)) = true then _ else _) _ _ s
  rw [k1, if_neg Bool.false_ne_true]
  refine wpAny_pure ?_
  show wpAny _ _ (collect v >>= _) _ _ s
  refine wpAny_bind (hc _ _ hh1 fun h' tk us hk' hP => ?_)
  show wpAny _ _ (if (k : Int) < 0 then _ else _) _ _ _
  rw [if_neg k2]
  show wpAny _ _ (if Builtin.Itertools.itTooMany (k : Int) = true then _ else _) _ _ _
  rw [k3, if_neg Bool.false_ne_true]
  show wpAny _ _ (newTuple us >>= _) _ _ _
  refine wpAny_bind ?_
  simp only [newTuple]
  refine wpAny_newObj_type ?_ ?_
  · refine wpAny_pure ?_
    rw [Int.toNat_natCast]
    refine wpAny_bind ?_
    show wpAny _ _ (if (!typeHasDict (.type "itertools.combinations")) = true then _ else _) _ _ _
    rw [noDict_cmb, if_pos (by rfl)]
    refine wpAny_newObj_type ?_ ?_
    · refine wpAny_pure ?_
      exact h h' tk us hk' hP
    · show _ ≤ sizeLine + 2
      rw [sizeLine_eq]
      simp
      omega
  · show us.toArray.size ≤ sizeLine
    have := hlen _ us hP
    rw [sizeLine_eq]
    simp
    omega

theorem call_cmb {v : Value} {k : Nat} {t : Tok} {P : Shared → List Value → Prop} {Q : Value → Shared → Prop} (hh : A.handled = none) (hk : k ≤ 1000) (hc : Coll prog w E v P s) (hlen : ∀ s' us, P s' us → us.length ≤ 100000)
    (h : ∀ (h1 h' : Heap) (pool it : Addr) (tk : Nat) (us : List Value), (∀ b o, s.heap.get? b = some o → h1.get? b = some o) → P { s with heap := h1, toks := tk } us → (∀ b o, h1.get? b = some o → h'.get? b = some o) → h1.objs.size ≤ pool → h1.objs.size ≤ it → pool ≠ it →
      h'.get? pool = some { cls := .type "tuple", data := .seq us.toArray } → IsCmb h' it pool (if k > us.length then 2 else 0) .none (List.range k) → Q (.ref it) { s with heap := h', toks := tk }) :
    wpAny (model prog w) A (call (.type "itertools.combinations") [v, .int k t]) Q E s := by
  refine callType_codes (Q₁ := fun obj s₁ => s₁.TypeIs obj "itertools.combinations" ∧ Q obj s₁) called_cmb (typeCall_cmb_2 _ _) F.entry_object_init
    (code_cmb_new (A := A.in1) hh hk hc hlen fun h' tk us hk' hP => ⟨⟨_, Heap.get?_push_size _ rfl, rfl⟩, ?_⟩) fun obj s₁ h₁ => ?_
  · refine h h' _ h'.objs.size _ tk us hk' hP (fun b o e => Heap.get?_push_of_some _ (Heap.get?_push_of_some _ e)) (Nat.le_refl _) ?_ ?_ ?_ ?_
    · rw [Heap.size_push]; exact Nat.le_succ _
    · rw [Heap.size_push]; exact Nat.ne_of_lt (Nat.lt_succ_self _)
    · exact Heap.get?_push_of_some _ (Heap.get?_push_size _ rfl)
    · exact Heap.get?_push_size _ rfl
  · exact ⟨h₁.1, F.args_object_init_3 obj _ _, object_init_meets called_cmb.init.lookup called_cmb.made (by decide) prog w A.in1 _ s₁ ⟨h₁.1, rfl, h₁.2⟩⟩
theorem iter_cmb {it pool : Addr} {st : Int} {cur : Value} {idx : List Nat} {Q : Value → Shared → Prop} (hit : IsCmb s.heap it pool st cur idx) (h : Q (.ref it) s) : wpAny (model prog w) A (pyIter (.ref it)) Q E s := by
  have hT : s.TypeIs (.ref it) "itertools.combinations" := ⟨_, hit, rfl⟩
  refine wpAny_pyIter_slot hT slot_cmb_iter (wpAny_call_entry slot_cmb_iter hT entry_cmb_iter ?_ (args_cmb_iter _))
  show wpAny _ _ (ret (.ref it)) _ _ s
  exact wpAny_pure ⟨_, rfl, "itertools.combinations", _, hT, slot_cmb_next.lookup, h⟩
theorem nums_of (idx : List Nat) (a b c : Value) : (([a, b, c] ++ idx.map fun n : Nat => rawInt n).toArray.toList.drop 3).map (fun v => match v with | .int n _ => n.toNat | _ => 0) = idx := by
  show ((idx.map fun n : Nat => rawInt n)).map _ = idx
  rw [List.map_map]
  conv => rhs; rw [← List.map_id idx]
  rfl
theorem give {it pool : Addr} {cur : Value} {idx : List Nat} {us : List Value} {Q : Value → Shared → Prop} (hne : pool ≠ it) (hit : IsCmb s.heap it pool 1 cur idx) (hp : s.heap.get? pool = some { cls := .type "tuple", data := .seq us.toArray }) (hl : idx.length ≤ 1000)
    (hQ : ∀ h', IsCmb h' it pool 1 (.ref s.heap.objs.size) idx → h'.get? s.heap.objs.size = some { cls := .type "tuple", data := .seq (idx.map fun i => us.toArray.getD i .none).toArray } → (∀ b o, b ≠ it → s.heap.get? b = some o → h'.get? b = some o) → Q (.ref s.heap.objs.size) { s with heap := h' }) :
    wpAny (model prog w) A (do
      let out ← (do
        let xs ← Builtin.Itertools.itPoolItems (.ref pool)
        newTuple (idx.map fun i => xs.getD i .none))
      let was ← field (.ref it) 2
      setField (.ref it) 2 out
      letGo [was] [out]
      ret out : Sem PySem.Fin) (fun r s' => ∃ v, r = .done (.ret v) ∧ Q v s') E s := by
  have lit : it < s.heap.objs.size := Heap.lt_size hit
  refine wpAny_bind (wpAny_bind ?_)
  show wpAny _ _ (seqItems? (.ref pool) >>= _) _ _ s
  refine wpAny_bind (wpAny_seqItems hp rfl ?_)
  refine wpAny_pure ?_
  simp only [newTuple]
  refine wpAny_newObj_type ?_ ?_
  · have hit1 : IsCmb (s.heap.push { cls := .type "tuple", data := .seq (idx.map fun i => us.toArray.getD i .none).toArray }) it pool 1 cur idx := Heap.get?_push_of_some _ hit
    refine wpAny_bind (wpAny_field hit1 rfl (x := cur) (by rfl) ?_)
    refine wpAny_bind (wpAny_setField hit1 rfl (by simp) ?_)
    refine wpAny_bind (wpAny_letGo ?_)
    refine wpAny_pure ⟨_, rfl, hQ _ ?_ ?_ fun b o hb e => ?_⟩
    · exact Heap.get?_update_self _ hit1 rfl
    · exact (Heap.get?_update_other _ _ (Nat.ne_of_lt lit)).trans (Heap.get?_push_size _ rfl)
    · exact (Heap.get?_update_other _ _ (Ne.symm hb)).trans (Heap.get?_push_of_some _ e)
  · show (idx.map fun i => us.toArray.getD i .none).toArray.size ≤ sizeLine
    rw [sizeLine_eq]; simp; omega

theorem cmb_first {it pool : Addr} {cur : Value} {idx : List Nat} {us : List Value} {Q : Option Value → Shared → Prop} (hne : pool ≠ it) (hit : IsCmb s.heap it pool 0 cur idx) (hp : s.heap.get? pool = some { cls := .type "tuple", data := .seq us.toArray }) (hl : idx.length ≤ 1000)
    (hQ : ∀ h', IsCmb h' it pool 1 (.ref s.heap.objs.size) idx → h'.get? s.heap.objs.size = some { cls := .type "tuple", data := .seq (idx.map fun i => us.toArray.getD i .none).toArray } → (∀ b o, b ≠ it → s.heap.get? b = some o → h'.get? b = some o) → Q (some (.ref s.heap.objs.size)) { s with heap := h' }) :
    wpAny (model prog w) A (callSpecial? (.ref it) "__next__") Q E s := by
  have hT : s.TypeIs (.ref it) "itertools.combinations" := ⟨_, hit, rfl⟩
  refine wpAny_callSpecial?_slot (name := Str.ofString "__next__") hT slot_cmb_next (wpAny_call_entry slot_cmb_next hT entry_cmb_next ?_ (args_cmb_next _))
  show wpAny _ _ (field (.ref it) 0 >>= _) _ _ s
  refine wpAny_bind (wpAny_field hit rfl (x := .ref pool) (by rfl) ?_)
  show wpAny _ _ (Builtin.Itertools.itNumbersFrom (.ref it) 3 >>= _) _ _ s
  refine wpAny_bind ?_
  show wpAny _ _ (load it >>= _) _ _ s
  refine wpAny_bind (wpAny_load hit ?_)
  refine wpAny_pure ?_
  show wpAny _ _ (Builtin.Itertools.itIntField (.ref it) 1 >>= _) _ _ s
  refine wpAny_bind ?_
  show wpAny _ _ (field (.ref it) 1 >>= _) _ _ s
  refine wpAny_bind (wpAny_field hit rfl (x := .int 0 0) (by rfl) (wpAny_pure ?_))
  show wpAny _ _ (setField (.ref it) 1 (rawInt 1) >>= _) _ _ s
  refine wpAny_bind (wpAny_setField hit rfl (by simp) ?_)
  have hit1 : IsCmb (s.heap.update it (Obj.mapFields fun x => x.setIfInBounds 1 (rawInt 1))) it pool 1 cur idx := Heap.get?_update_self _ hit rfl
  have hp1 : (s.heap.update it (Obj.mapFields fun x => x.setIfInBounds 1 (rawInt 1))).get? pool = some { cls := .type "tuple", data := .seq us.toArray } := (Heap.get?_update_other _ _ (Ne.symm hne)).trans hp
  have sz : (s.heap.update it (Obj.mapFields fun x => x.setIfInBounds 1 (rawInt 1))).objs.size = s.heap.objs.size := (Heap.SameBut.update s.heap it _).1
  have key := give (prog := prog) (w := w) (A := A.in1) (E := E) (s := { s with heap := s.heap.update it (Obj.mapFields fun x => x.setIfInBounds 1 (rawInt 1)) }) (Q := fun v s' => Q (some v) s') hne hit1 hp1 hl fun h' a b c => by
    simp only [sz] at a b ⊢
    exact hQ h' a b fun x o hx e => c x o hx ((Heap.get?_update_other _ _ (Ne.symm hx)).trans e)
  have e := nums_of idx (.ref pool) (.int 0 0) cur
  erw [e]
  exact key
theorem cmb_next {it pool : Addr} {cur : Value} {idx idx' : List Nat} {us : List Value} {Q : Option Value → Shared → Prop} (hne : pool ≠ it) (hit : IsCmb s.heap it pool 1 cur idx) (hp : s.heap.get? pool = some { cls := .type "tuple", data := .seq us.toArray }) (hn : nextC us.length idx = some idx') (hl : idx'.length ≤ 1000)
    (hQ : ∀ h', IsCmb h' it pool 1 (.ref s.heap.objs.size) idx' → h'.get? s.heap.objs.size = some { cls := .type "tuple", data := .seq (idx'.map fun i => us.toArray.getD i .none).toArray } → (∀ b o, b ≠ it → s.heap.get? b = some o → h'.get? b = some o) → Q (some (.ref s.heap.objs.size)) { s with heap := h' }) :
    wpAny (model prog w) A (callSpecial? (.ref it) "__next__") Q E s := by
  have hT : s.TypeIs (.ref it) "itertools.combinations" := ⟨_, hit, rfl⟩
  refine wpAny_callSpecial?_slot (name := Str.ofString "__next__") hT slot_cmb_next (wpAny_call_entry slot_cmb_next hT entry_cmb_next ?_ (args_cmb_next _))
  show wpAny _ _ (field (.ref it) 0 >>= _) _ _ s
  refine wpAny_bind (wpAny_field hit rfl (x := .ref pool) (by rfl) ?_)
  show wpAny _ _ (Builtin.Itertools.itNumbersFrom (.ref it) 3 >>= _) _ _ s
  refine wpAny_bind ?_
  show wpAny _ _ (load it >>= _) _ _ s
  refine wpAny_bind (wpAny_load hit ?_)
  refine wpAny_pure ?_
  have e := nums_of idx (.ref pool) (.int 1 0) cur
  erw [e]
  show wpAny _ _ (Builtin.Itertools.itIntField (.ref it) 1 >>= _) _ _ s
  refine wpAny_bind ?_
  show wpAny _ _ (field (.ref it) 1 >>= _) _ _ s
  refine wpAny_bind (wpAny_field hit rfl (x := .int 1 0) (by rfl) (wpAny_pure ?_))
  show wpAny _ _ (Builtin.Itertools.itPoolItems (.ref pool) >>= _) _ _ s
  refine wpAny_bind ?_
  show wpAny _ _ (seqItems? (.ref pool) >>= _) _ _ s
  refine wpAny_bind (wpAny_seqItems hp rfl (wpAny_pure ?_))
  have hsz : us.toArray.size = us.length := by simp
  rw [← hsz] at hn
  show wpAny _ _ (match nextC us.toArray.size idx with | some next => _ | none => _) _ _ s
  rw [hn]
  show wpAny _ _ (Builtin.Itertools.itSetNumbersFrom (.ref it) 3 idx' >>= _) _ _ s
  refine wpAny_bind ?_
  show wpAny _ _ (updateFields it (fun fs => fs.extract 0 3 ++ (idx'.map fun (n : Nat) => rawInt n).toArray)) _ _ s
  refine wpAny_updateFields hit rfl ?_ ?_
  · have hit1 : IsCmb (s.heap.update it (Obj.mapFields fun fs => fs.extract 0 3 ++ (idx'.map fun (n : Nat) => rawInt n).toArray)) it pool 1 cur idx' := by
      refine (Heap.get?_update_self _ hit rfl).trans ?_
      simp [Obj.mapFields]
    have hp1 : (s.heap.update it (Obj.mapFields fun fs => fs.extract 0 3 ++ (idx'.map fun (n : Nat) => rawInt n).toArray)).get? pool = some { cls := .type "tuple", data := .seq us.toArray } := (Heap.get?_update_other _ _ (Ne.symm hne)).trans hp
    have sz : (s.heap.update it (Obj.mapFields fun fs => fs.extract 0 3 ++ (idx'.map fun (n : Nat) => rawInt n).toArray)).objs.size = s.heap.objs.size := (Heap.SameBut.update s.heap it _).1
    exact give (prog := prog) (w := w) (A := A.in1) (E := E) (s := { s with heap := s.heap.update it (Obj.mapFields fun fs => fs.extract 0 3 ++ (idx'.map fun (n : Nat) => rawInt n).toArray) }) (Q := fun v s' => Q (some v) s') hne hit1 hp1 hl fun h' a b c => by
      simp only [sz] at a b ⊢
      exact hQ h' a b fun x o hx e => c x o hx ((Heap.get?_update_other _ _ (Ne.symm hx)).trans e)
  · rw [sizeLine_eq]; simp; omega
theorem stop_cmb {Q : Option Value → Shared → Prop} {it : Addr} (hh : A.handled = none) (hQ : ∀ e h', CpRep.StopE e h' → Heap.ExtBut it s.heap h' → E e { s with heap := h' }) :
    wpAny (model prog w) A.in1 (Builtin.Itertools.itStop : Sem PySem.Fin) (fun r s' => ∃ v, r = .done (.ret v) ∧ Q (some v) s') E s := by
  refine wpAny_bind ?_
  simp only [newExc, newTuple]
  refine wpAny_bind (wpAny_newObj_type ?_ (by size_fits))
  refine wpAny_bind (m := firstArgMember _ _) (wpAny_of_eq (a := Value.none) (by first | rfl | (simp only [firstArgMember]; rfl)) ?_)
  refine wpAny_newObj_type ?_ (by size_fits)
  simp only [raiseNew]
  refine wpAny_bind (wpAny_handled ?_)
  first | rw [show A.in1.handled = none from hh] | rw [hh]
  refine wpAny_bind (wpAny_pure (wpAny_throw ?_))
  exact hQ _ _ ⟨_, _, _, rfl, Heap.get?_push_size _ rfl, rfl, rfl, rfl⟩ (((Heap.ExtBut.refl it s.heap).push _).push _)
theorem cmb_end {it pool : Addr} {cur : Value} {idx : List Nat} {us : List Value} {st : Int} {Q : Option Value → Shared → Prop} (hh : A.handled = none) (hne : pool ≠ it) (hit : IsCmb s.heap it pool st cur idx) (hp : s.heap.get? pool = some { cls := .type "tuple", data := .seq us.toArray }) (hst : st = 2 ∨ (st = 1 ∧ nextC us.length idx = none))
    (hQ : ∀ e h', CpRep.StopE e h' → (∀ b o, b ≠ it → s.heap.get? b = some o → h'.get? b = some o) → E e { s with heap := h' }) : wpAny (model prog w) A (callSpecial? (.ref it) "__next__") Q E s := by
  have hT : s.TypeIs (.ref it) "itertools.combinations" := ⟨_, hit, rfl⟩
  refine wpAny_callSpecial?_slot (name := Str.ofString "__next__") hT slot_cmb_next (wpAny_call_entry slot_cmb_next hT entry_cmb_next ?_ (args_cmb_next _))
  show wpAny _ _ (field (.ref it) 0 >>= _) _ _ s
  refine wpAny_bind (wpAny_field hit rfl (x := .ref pool) (by rfl) ?_)
  show wpAny _ _ (Builtin.Itertools.itNumbersFrom (.ref it) 3 >>= _) _ _ s
  refine wpAny_bind ?_
  show wpAny _ _ (load it >>= _) _ _ s
  refine wpAny_bind (wpAny_load hit ?_)
  refine wpAny_pure ?_
  have e := nums_of idx (.ref pool) (.int st 0) cur
  erw [e]
  show wpAny _ _ (Builtin.Itertools.itIntField (.ref it) 1 >>= _) _ _ s
  refine wpAny_bind ?_
  show wpAny _ _ (field (.ref it) 1 >>= _) _ _ s
  refine wpAny_bind (wpAny_field hit rfl (x := .int st 0) (by rfl) (wpAny_pure ?_))
  rcases hst with rfl | ⟨rfl, hn⟩
  · refine wpAny_bind (wpAny_rule ?_)
    exact stop_cmb hh fun e h' se k => hQ e h' se fun b o hb q => k b o hb q
  · show wpAny _ _ (Builtin.Itertools.itPoolItems (.ref pool) >>= _) _ _ s
    refine wpAny_bind ?_
    show wpAny _ _ (seqItems? (.ref pool) >>= _) _ _ s
    refine wpAny_bind (wpAny_seqItems hp rfl (wpAny_pure ?_))
    have hsz : us.toArray.size = us.length := by simp
    rw [← hsz] at hn
    show wpAny _ _ (match nextC us.toArray.size idx with | some next => _ | none => _) _ _ s
    rw [hn]
    show wpAny _ _ (setField (.ref it) 1 (rawInt 2) >>= _) _ _ s
    refine wpAny_bind (wpAny_setField hit rfl (by simp) ?_)
    exact stop_cmb hh fun e h' se k => hQ e h' se fun b o hb q => k b o hb ((Heap.get?_update_other _ _ (Ne.symm hb)).trans q)
end
end CpComb

set_option maxHeartbeats 2000000
/-! itertools.combinations, walked -/
namespace CpComb
open PySem PySem.Spec PyProof.Rows L2
def seqC (n k : Nat) : Nat → Option (List Nat)
  | 0 => if k ≤ n then some (List.range k) else none
  | i + 1 => (seqC n k i).bind (nextC n)
theorem nextC_len {n : Nat} {a b : List Nat} (h : nextC n a = some b) : b.length = a.length := by
  unfold nextC at h
  simp only at h
  split at h
  · cases h
  · rename_i i e
    cases h
    have hm := List.mem_of_find?_eq_some e
    have hi : i < a.length := by simpa using hm
    simp
    omega
theorem seqC_len {n k : Nat} : ∀ {i : Nat} {a : List Nat}, seqC n k i = some a → a.length = k
  | 0, a, h => by
    unfold seqC at h
    split at h
    · cases h; simp
    · cases h
  | i + 1, a, h => by
    unfold seqC at h
    cases e : seqC n k i with
    | none => rw [e] at h; cases h
    | some b => rw [e] at h; rw [nextC_len (show nextC n b = some a from h), seqC_len e]
theorem seqC_none {n k : Nat} {i : Nat} (h : seqC n k i = none) : ∀ j, i ≤ j → seqC n k j = none
  | 0, hj => by
    have : i = 0 := by omega
    rw [← this]; exact h
  | j + 1, hj => by
    by_cases e : i = j + 1
    · rw [← e]; exact h
    · unfold seqC; rw [seqC_none h j (by omega)]; rfl
def ItC (xs : List V) (k : Nat) : It :=
  ⟨fun i _ => (seqC xs.length k i).isSome = true, fun i H v H' => ∃ T idx, seqC xs.length k i = some idx ∧ v = .ref T ∧ H T = none ∧ H' = upd H T (.tup (idx.map fun j => xs.getD j .non)), fun i _ => seqC xs.length k i = none⟩
theorem vals_getD {xs : List V} {us : List Value} (r : Vals xs us) (j : Nat) : RelV (xs.getD j .non) (us.toArray.getD j .none) := by
  rw [List.getD_eq_getElem?_getD]
  cases e : xs[j]? with
  | none =>
    have e' := r.none_of e
    have : us.toArray.getD j .none = .none := by
      rw [Array.getD_eq_getD_getElem?]; simp [e']
    rw [this]; rfl
  | some x =>
    obtain ⟨u, e', ru⟩ := r.get e
    have : us.toArray.getD j .none = u := by
      rw [Array.getD_eq_getD_getElem?]; simp [e']
    rw [this]; exact ru
theorem vals_map {xs : List V} {us : List Value} (r : Vals xs us) : ∀ idx : List Nat, Vals (idx.map fun j => xs.getD j .non) (idx.map fun j => us.toArray.getD j .none)
  | [] => .nil
  | j :: idx => .cons (vals_getD r j) (vals_map r idx)
theorem turn_cmb {P : Program} {w : World} {K : PySem.W.Frag} {tg : Expr} {xs : List V} {us : List Value} {k : Nat} {pool it : Addr} (hne : pool ≠ it) (hk : k ≤ 1000) (rv : Vals xs us) :
    Turn P w K tg (ItC xs k) [it, pool] it (fun i h => h.get? pool = some { cls := .type "tuple", data := .seq us.toArray } ∧ (match i with
      | 0 => ∃ cur, IsCmb h it pool (if k > us.length then 2 else 0) cur (List.range k)
      | i + 1 => ∃ idx cur, seqC us.length k i = some idx ∧ IsCmb h it pool 1 cur idx)) where
  mem := by simp
  obj := fun i h st c hc => by
    obtain ⟨hp, hs⟩ := st
    have e' : c = it ∨ c = pool := by simpa using hc
    rcases e' with q | q
    · rw [q]
      cases i with
      | zero => obtain ⟨cur, e⟩ := hs; exact ⟨_, e, fun v q => nomatch q⟩
      | succ i => obtain ⟨idx, cur, _, e⟩ := hs; exact ⟨_, e, fun v q => nomatch q⟩
    · rw [q]; exact ⟨_, hp, fun v q => nomatch q⟩
  keep := fun i h h' st kk => by
    obtain ⟨hp, hs⟩ := st
    refine ⟨kk pool (by simp) _ hp, ?_⟩
    cases i with
    | zero => obtain ⟨cur, e⟩ := hs; exact ⟨cur, kk it (by simp) _ e⟩
    | succ i => obtain ⟨idx, cur, e0, e⟩ := hs; exact ⟨idx, cur, e0, kk it (by simp) _ e⟩
  item := by
    intro X hP hw hK hc i pins s σ H E I hf st hg
    subst hP hw hK
    obtain ⟨hp, hs⟩ := st
    have hl := rv.length
    have main : ∀ idx : List Nat, seqC us.length k i = some idx → ∀ (E : Value → Shared → Prop) (Q : Option Value → Shared → Prop),
        (∀ h', IsCmb h' it pool 1 (.ref s.heap.objs.size) idx → h'.get? s.heap.objs.size = some { cls := .type "tuple", data := .seq (idx.map fun i => us.toArray.getD i .none).toArray } → (∀ b o, b ≠ it → s.heap.get? b = some o → h'.get? b = some o) → Q (some (.ref s.heap.objs.size)) { s with heap := h' }) →
        wpAny (model X.prog X.w) X.A (callSpecial? (.ref it) "__next__") Q E s := by
      intro idx he E Q hQ
      have hil := seqC_len he
      cases i with
      | zero =>
        obtain ⟨cur, e⟩ := hs
        unfold seqC at he
        split at he
        · rename_i hkn
          cases he
          rw [if_neg (by omega)] at e
          exact cmb_first hne e hp (by omega) hQ
        · cases he
      | succ i =>
        obtain ⟨idx0, cur, e0, e⟩ := hs
        unfold seqC at he
        rw [e0] at he
        exact cmb_next hne e hp he (by omega) hQ
    have hg' : (seqC xs.length k i).isSome = true := hg
    cases he : seqC us.length k i with
    | none => rw [hl, he] at hg'; cases hg'
    | some idx =>
      unfold pyNext
      refine wpAny_bind (wpAny_attempt (main idx he _ _ fun h' hit hT hkp => ?_))
      have new : ObjOk X.prog X.w (upd H s.heap.objs.size (.tup (idx.map fun j => xs.getD j .non))) h' s.heap.objs.size (.tup (idx.map fun j => xs.getD j .non)) := by
        refine ⟨?_, _, vals_map rv idx, ⟨_, hT, rfl, _, rfl⟩⟩
        rw [List.length_map, seqC_len he, sizeLine_eq]; omega
      have I1 : Inv X pins σ (upd H s.heap.objs.size (.tup (idx.map fun j => xs.getD j .non))) { s with heap := h' } :=
        I.turnedNew (t' := s.toks) (ch := [it, pool]) (fun c o hb q => hkp c o (fun q' => hb (by simp [q'])) q) hf (Nat.le_refl _) new
      refine wpAny_pure ⟨_, rfl, ?_⟩
      have ho : h'.get? it = some _ := hit
      refine go_of (s := { s with heap := h' }) ho rfl rfl (by decide) ⟨.ref s.heap.objs.size, _, I1, rfl, ⟨_, idx, by rw [hl]; exact he, rfl, I.hok.fresh (Nat.le_refl _), rfl⟩, ⟨hkp _ _ hne hp, idx, _, he, hit⟩, fun c hcm => ?_⟩
      have hlt : c < s.heap.objs.size := by
        have e' : c = it ∨ c = pool := by simpa using hcm
        rcases e' with q | q
        · rw [q]
          cases i with
          | zero => obtain ⟨cur, e⟩ := hs; exact Heap.lt_size e
          | succ i => obtain ⟨idx, cur, _, e⟩ := hs; exact Heap.lt_size e
        · rw [q]; exact Heap.lt_size hp
      rw [upd_ne (Nat.ne_of_lt hlt)]
      exact (hf c hcm).1
  done := by
    intro X hP hw hK hc i pins s σ H E I hf st hg
    subst hP hw hK
    obtain ⟨hp, hs⟩ := st
    have hl := rv.length
    have hg' : seqC us.length k i = none := by rw [← hl]; exact hg
    unfold pyNext
    have fin : ∀ e h', CpRep.StopE e h' → (∀ b o, b ≠ it → s.heap.get? b = some o → h'.get? b = some o) →
        wpAny (model X.prog X.w) X.A (do if ← isInstance e (.type "StopIteration") then pure none else throw e : Sem (Option Value)) (fun r s1 => r = none ∧ Inv X pins σ H s1) E { s with heap := h' } := by
      intro e h' ⟨a, o, vs, he, ho, hcl, _, _⟩ hk'
      subst he
      refine wpAny_bind (wpAny_isInstance (T := "StopIteration") (b := true) ⟨o, ho, hcl⟩ isSubtype_stop ?_)
      refine wpAny_pure ⟨rfl, I.turnedL (t' := s.toks) (ch := [it, pool]) (fun c o hb q => hk' c o (fun q' => hb (by simp [q'])) q) hf⟩
    refine wpAny_bind (wpAny_attempt ?_)
    cases i with
    | zero =>
      obtain ⟨cur, e⟩ := hs
      have hkn : ¬ k ≤ us.length := by
        intro z
        unfold seqC at hg'
        rw [if_pos z] at hg'; cases hg'
      rw [if_pos (by omega)] at e
      exact cmb_end (I.ok.hd hc) hne e hp (.inl rfl) fin
    | succ i =>
      obtain ⟨idx, cur, e0, e⟩ := hs
      unfold seqC at hg'
      rw [e0] at hg'
      exact cmb_end (I.ok.hd hc) hne e hp (.inr ⟨rfl, hg'⟩) fin
  self := fun A i s Q E st h => by
    obtain ⟨hp, hs⟩ := st
    cases i with
    | zero => obtain ⟨cur, e⟩ := hs; exact iter_cmb e h
    | succ i => obtain ⟨idx, cur, _, e⟩ := hs; exact iter_cmb e h
end CpComb

set_option maxHeartbeats 2000000
namespace L2
open PySem PySem.Spec PyProof.Rows
theorem cr_range1 {X : Cx} : CallR X (.type "range") (fun vs H Q => ∃ i, vs = [V.int i] ∧ ∀ p, H p = none → Q (.ref p) (upd H p (.rng 0 i))) := by
  intro pins s σ H vs us Q I r h
  obtain ⟨i, rfl, q⟩ := h
  obtain ⟨u, rfl, ru⟩ := r.one
  obtain ⟨t, rfl⟩ := ru
  exact call_range_1 ⟨.ref s.heap.objs.size, upd H s.heap.objs.size (.rng 0 i), I.laid (t' := s.toks + 2) (fun b o e => Heap.get?_push_of_some _ e) (Nat.le_refl _) ⟨_, _, _, Heap.get?_push_size _ rfl⟩, rfl, q _ (I.hok.fresh (Nat.le_refl _))⟩
end L2
namespace CpComb
open PySem PySem.Spec PyProof.Rows L2
/-- where the items come from -/
def Src (K : PySem.W.Frag) (H : Hp) (v : V) (xs : List V) : Prop :=
  (∃ r lo hi, v = .ref r ∧ H r = some (.rng lo hi) ∧ RgOk lo hi ∧ xs = rgV lo hi) ∨ ∃ a, v = .ref a ∧ (SqL K H a xs ∨ SqT K H a xs)
theorem pi_cmb {X : Cx} {tg a b : Expr} {t : TA} {x : Str} {p pos : Pos} (hc : X.calm = true) (hg : Gl X x) (hm : X.mg x = some (.type "itertools.combinations")) (ha : PA X [a, b] t)
    (hdb : (x == ("__debug__" : Str)) = false := by decide) (hs : starEach [a, b] X.env = (false, eval a X.env) :: starEach [b] X.env := by rfl) (hpl : (backTo pos (starEach [b] X.env)).any (·.1) = false := by rfl) :
    PI X tg (.Call (.Name x p) [a, b] [] pos) (fun σ H R => t σ H fun vs H1 => ∃ pv xs k, vs = [pv, .int ((k : Nat) : Int)] ∧ k ≤ 1000 ∧ xs.length ≤ 100000 ∧ Src X.K H1 pv xs ∧ R (ItC xs k) H1) := by
  refine ⟨fun pins s σ H R I h => ?_⟩
  refine wpAny_Call_Name_kw (ld_glob I hg hm ?_ hdb)
  refine PyProof.Rows.callWith_type1 (thn (ha.run pos pins s σ H _ I h) fun us s1 ⟨vs, H1, I1, r1, q1⟩ => ?_) hs hpl
  obtain ⟨pv, xs, k, rfl, hk, hxl, src, q⟩ := q1
  cases r1 with
  | cons rp rr =>
    cases rr with
    | cons rk rr =>
      cases rr
      obtain ⟨tk, rfl⟩ := rk
      have fin : ∀ (v : Value), Coll X.prog X.w X.xe v (fun s' us => Vals xs us) s1 → wpAny (model X.prog X.w) X.A (call (.type "itertools.combinations") [v, .int (k : Int) tk]) (fun v s1 => wpAny (model X.prog X.w) X.A (pyIter v) (PIE X pins σ tg R) X.xe s1) X.xe s1 := by
        intro v hcol
        refine call_cmb (I1.ok.hd hc) hk hcol (fun s' us r => by rw [← r.length]; exact hxl) fun h1 h' pool it tk' us k1 rv k2 hp hi hne hpool hit => ?_
        refine iter_cmb hit ?_
        have I2 : Inv X pins σ H1 { s1 with heap := h1, toks := tk' } := I1.kept (t' := tk') k1
        have I3 : Inv X pins σ H1 { s1 with heap := h', toks := tk' } := I2.kept (t' := tk') k2
        refine ⟨it, [it, pool], _, ItC xs k, H1, rfl, I3, turn_cmb hne hk rv, ⟨hpool, _, hit⟩, fun c hc' => ?_, q⟩
        have e' : c = it ∨ c = pool := by simpa using hc'
        rcases e' with z | z
        · rw [z]; exact I2.fpOk hi (I2.hok.fresh hi)
        · rw [z]; exact I2.fpOk hp (I2.hok.fresh hp)
      rcases src with ⟨r, lo, hi, rfl, hr, ok, rfl⟩ | ⟨a, rfl, hq⟩
      · cases rp
        obtain ⟨t1, t2, t3, hr'⟩ := I1.hok _ _ hr
        obtain ⟨b1, b2, b3, b4, b5⟩ := ok
        refine fin _ fun A Q hh hQ => ?_
        exact collect_range hh hr' (small_one b1 b2 b3 b4) (rangeSize_nat lo hi) b5 fun h' tk acc hk' hi' => hQ h' tk acc.toList hk' (vals_rg hi')
      · cases rp
        rcases hq with hq | hq
        · obtain ⟨its, rv, pl, hz⟩ := I1.list hq
          obtain ⟨o, ho, hcl, n, hd⟩ := pl.isList
          refine fin _ fun A Q hh hQ => ?_
          refine wpAny_collect_seq a (.inl rfl) ho hcl hd (fun h' hk' => ?_) (by rw [List.size_toArray, ← rv.length]; exact hz)
          have := hQ h' s1.toks its hk' rv
          rw [List.toList_toArray]; exact this
        · obtain ⟨its, rv, pl, hz⟩ := I1.tuple hq
          obtain ⟨o, ho, hcl, n, hd⟩ := pl
          refine fin _ fun A Q hh hQ => ?_
          refine wpAny_collect_seq a (.inr rfl) ho hcl hd (fun h' hk' => ?_) (by rw [List.size_toArray, ← rv.length]; exact hz)
          have := hQ h' s1.toks its hk' rv
          rw [List.toList_toArray]; exact this
end CpComb

set_option maxHeartbeats 2000000
namespace EnumT
open PySem PySem.Spec PyProof.Rows L2
theorem meets_enum_T (l : Addr) (items : Array Value) :
    Meets (Builtin.«enumerate.__new__» ⟨[.type "enumerate", .ref l], []⟩) (fun _ R s => s.heap.IsTuple l items ∧
      R (.ok (.ret (.ref (s.heap.push { cls := .type "tuple_iterator", data := .fields #[.ref l, .int 0 0] }).objs.size)))
        { s with heap := (s.heap.push { cls := .type "tuple_iterator", data := .fields #[.ref l, .int 0 0] }).push { cls := .type "enumerate", data := .fields #[.none, .bool false, .ref s.heap.objs.size, rawInt 0, .none, .none] } }) :=
  .of_wp fun prog w A R s h => by
    obtain ⟨hp, g, d, tk, os⟩ := s; obtain ⟨hl, h⟩ := h
    have hsub := sub_enumerate
    have hL : Heap.IsTuple (Shared.heap ⟨hp, g, d, tk, os⟩) l items := hl
    wp_walk
    refine wpAny_stack_any fun st => wpAny_pure ?_
    split
    · rename_i c _ _ _ _ _
      cases (c == Value.type "enumerate")
      · wp_walk using wpAny_pyIter_tuple hL
        exact ⟨_, rfl, h⟩
      · wp_walk using wpAny_pyIter_tuple hL
        exact ⟨_, rfl, h⟩
    · wp_walk using wpAny_pyIter_tuple hL
      exact ⟨_, rfl, h⟩
section
variable {prog : Program} {w : World} {A : Around} {E : Value → Shared → Prop} {s : Shared}
theorem call_enumT {l : Addr} {items : Array Value} {Q : Value → Shared → Prop} (hL : s.heap.IsTuple l items)
    (h : ∀ h', IsEnum h' (s.heap.objs.size + 1) s.heap.objs.size 0 .none → h'.IsTupleIter s.heap.objs.size l 0 → h'.objs.size = s.heap.objs.size + 2 →
      (∀ b o, s.heap.get? b = some o → h'.get? b = some o) → Q (.ref (s.heap.objs.size + 1)) { s with heap := h' }) :
    wpAny (model prog w) A (call (.type "enumerate") [.ref l]) Q E s := by
  refine callType_new F.called_enumerate (by decide) (F.typeCall_enumerate_1 _) (F.newCall_enumerate_1 _) (fun obj => F.args_object_init_2 obj _) F.entry_enumerate_new
    (meets_enum_T l items) ⟨hL, ?_⟩
  have hz : (s.heap.push { cls := .type "tuple_iterator", data := .fields #[.ref l, .int 0 0] }).objs.size = s.heap.objs.size + 1 := Heap.size_push ..
  show _ ∧ _
  rw [hz]
  have he : IsEnum ((s.heap.push { cls := .type "tuple_iterator", data := .fields #[.ref l, .int 0 0] }).push
      { cls := .type "enumerate", data := .fields #[.none, .bool false, .ref s.heap.objs.size, rawInt 0, .none, .none] }) (s.heap.objs.size + 1) s.heap.objs.size 0 .none := by
    have := Heap.get?_push_size (s.heap.push { cls := .type "tuple_iterator", data := .fields #[.ref l, .int 0 0] })
      (o := { cls := .type "enumerate", data := .fields #[.none, .bool false, .ref s.heap.objs.size, rawInt 0, .none, .none] }) rfl
    rw [hz] at this; exact this
  refine ⟨⟨_, he, rfl⟩, h _ he ⟨_, Heap.get?_push_of_some _ (Heap.get?_push_size _ rfl), rfl, rfl⟩ (by rw [Heap.size_push, hz]) fun b o x => Heap.get?_push_of_some _ (Heap.get?_push_of_some _ x)⟩
end
def IteT (K : PySem.W.Frag) (a : Addr) : It :=
  ⟨fun i H => ∃ (xs : List V) (x : V), SqT K H a xs ∧ xs[i]? = some x, fun i H v H' => ∃ T x, v = .ref T ∧ H T = none ∧ H' = upd H T (.tup [.int (i : Nat), x]) ∧ ∀ xs, SqT K H a xs → xs[i]? = some x, fun i H => ∃ xs : List V, SqT K H a xs ∧ xs.length ≤ i⟩
theorem turn_enumT {P : Program} {w : World} {K : PySem.W.Frag} {elts : List Expr} {kk : Nat} {tpos : Pos} (a e it : Addr) (hea : a ≠ e) (hia : a ≠ it) :
    Turn P w K (.Tuple elts kk tpos) (IteT K a) [e, it] e (fun i h => (∃ old, IsEnum h e it ((i : Nat) : Int) old) ∧ h.IsTupleIter it a i ∧ e ≠ it) where
  mem := by simp
  obj := fun i h st b hb => by
    obtain ⟨⟨old, he⟩, ⟨o, ho, hc, hd⟩, _⟩ := st
    have e' : b = e ∨ b = it := by simpa using hb
    rcases e' with z | z
    · rw [z]; exact ⟨_, he, fun v q => nomatch q⟩
    · rw [z]; exact ⟨o, ho, fun v q => by rw [hd] at q; cases q⟩
  keep := fun i h h' st k => let ⟨⟨old, he⟩, hi, hne⟩ := st; ⟨⟨old, k e (by simp) _ he⟩, hi.at fun o q => k it (by simp) o q, hne⟩
  item := by
    intro X hP hw hK hc i pins s σ H E I hf st hg
    subst hP hw hK
    obtain ⟨⟨old, he⟩, hit, hne⟩ := st
    obtain ⟨xs, x, hq, hx⟩ := hg
    obtain ⟨its, rv, p, hz⟩ := I.tuple hq
    obtain ⟨u, hu, ru⟩ := rv.get hx
    have hel : e < s.heap.objs.size := Heap.lt_size he
    have hil : it < s.heap.objs.size := by obtain ⟨_, q, _⟩ := hit; exact Heap.lt_size q
    have hlt : i < its.toArray.size := by
      have := (List.getElem?_eq_some_iff.mp hu).1
      simpa using this
    refine wpAny_pyNext_enum_itemD (Draws.tuple (A := X.A.in1) (I.ok.hd hc) it a hia its.toArray) he ⟨hit, p⟩ hlt hne (by simp [hne, hea.symm]) fun y h' tk hy ho hst hT hsz hk => ?_
    have hy : u = y := by
      have : its.toArray[i]? = some u := by simpa using hu
      rw [this] at hy; exact Option.some.inj hy
    subst hy
    refine ⟨_, rfl, wpAny_letOwnedTupleGo_enum (s := { s with heap := h', toks := tk + 1 }) ho fun h'' he' sb => ?_⟩
    have hT2 : h''.get? s.heap.objs.size = some { cls := .type "tuple", data := .seq #[.int i tk, u] } := (sb.2 _ (Nat.ne_of_gt hel)).trans hT
    have new : ObjOk X.prog X.w (upd H s.heap.objs.size (.tup [.int (i : Nat), x])) h'' s.heap.objs.size (.tup [.int (i : Nat), x]) :=
      ⟨by show 2 ≤ sizeLine; decide, [.int i tk, u], .cons ⟨_, rfl⟩ (.cons ru .nil), ⟨_, hT2, rfl, _, rfl⟩⟩
    have I1 : Inv X pins σ (upd H s.heap.objs.size (.tup [.int (i : Nat), x])) { s with heap := h'', toks := tk + 1 } :=
      I.turnedNew (ch := [e, it]) (fun b ob hb q => (sb.2 b (fun z => hb (by simp [z]))).trans (hk b ob (fun z => hb (by simp [z])) (fun z => hb (by simp [z])) q)) hf (Nat.le_refl _) new
    refine ⟨.ref s.heap.objs.size, _, I1, rfl, ⟨_, x, rfl, I.hok.fresh (Nat.le_refl _), rfl, fun ys hy => by rw [I.tuple_inj hy hq]; exact hx⟩, ⟨⟨u, ?_⟩, hst.1.at fun o q => (sb.2 it (Ne.symm hne)).trans q, hne⟩, fun b hb => ?_⟩
    · have e1 : ((i + 1 : Nat) : Int) = (i : Int) + 1 := by omega
      rw [e1]; exact he'
    · have hb' : b < s.heap.objs.size := by
        have e' : b = e ∨ b = it := by simpa using hb
        rcases e' with z | z
        · rw [z]; exact hel
        · rw [z]; exact hil
      rw [upd_ne (Nat.ne_of_lt hb')]
      exact (hf b hb).1
  done := by
    intro X hP hw hK hc i pins s σ H E I hf st hg
    subst hP hw hK
    obtain ⟨⟨old, he⟩, hit, hne⟩ := st
    obtain ⟨xs, hq, hx⟩ := hg
    obtain ⟨its, rv, p, hz⟩ := I.tuple hq
    have hl := rv.length
    have hi : its.toArray[i]? = none := Array.getElem?_eq_none (by rw [List.size_toArray, ← hl]; exact hx)
    have hT : s.TypeIs (.ref e) "enumerate" := ⟨_, he, rfl⟩
    unfold pyNext
    refine wpAny_bind (wpAny_attempt (wpAny_callSpecial?_slot (name := Str.ofString "__next__") hT F.slot_enumerate_next
      (wpAny_call_entry F.slot_enumerate_next hT F.entry_enumerate_next ?_ (F.args_enumerate_next_1 _))))
    show wpAny _ _ (field (.ref e) 2 >>= _) _ _ _
    refine wpAny_bind (wpAny_field he rfl (x := .ref it) rfl ?_)
    refine wpAny_bind (wpAny_nextOf_tuple_end (A := X.A.in1) (I.ok.hd hc) hit (show s.heap.IsTuple a its.toArray from p) hi fun h' x eb hx' => ?_)
    obtain ⟨o, ho, hcl⟩ := hx'
    refine wpAny_bind (wpAny_isInstance (T := "StopIteration") (b := true) ⟨o, ho, hcl⟩ isSubtype_stop ?_)
    exact wpAny_pure ⟨rfl, I.turnedL (t' := s.toks) (ch := [e, it]) (fun b o hb q => eb b o (fun z => hb (by simp [z])) q) hf⟩
  self := fun A i s Q E st h => let ⟨⟨_, he⟩, _⟩ := st; wpAny_pyIter_enum he h
def iEnumA (K : PySem.W.Frag) (ta : TA) : TI := fun σ H R => ta σ H fun vs H1 => ∃ a xs, vs = [.ref a] ∧ ((SqL K H1 a xs ∧ R (Ite K a) H1) ∨ (SqT K H1 a xs ∧ R (IteT K a) H1))
theorem pi_enumA {X : Cx} {e : Expr} {ta : TA} {p pos tpos : Pos} {elts : List Expr} {kk : Nat} (hg : Gl X "enumerate") (hm : X.mg "enumerate" = none) (ha : PA X [e] ta) (hs : starEach [e] X.env = [(false, eval e X.env)] := by rfl) :
    PI X (.Tuple elts kk tpos) (.Call (.Name "enumerate" p) [e] [] pos) (iEnumA X.K ta) := by
  refine ⟨fun pins s σ H R I h => ?_⟩
  refine Call_ (ld_blt I hg hm boot_enumerate (PyProof.Rows.callWith_type1 (thn (ha.run pos pins s σ H _ I h) fun us s1 ⟨vs, H1, I1, r1, q1⟩ => ?_) hs rfl))
  obtain ⟨a, xs, ex, q⟩ := q1
  subst ex
  cases r1 with
  | cons r rr =>
    cases rr
    cases r
    have fresh : ∀ b ∈ [s1.heap.objs.size + 1, s1.heap.objs.size], FpOk X pins H1 b := fun b hb => by
      have e' : b = s1.heap.objs.size + 1 ∨ b = s1.heap.objs.size := by simpa using hb
      have hle : s1.heap.objs.size ≤ b := by
        rcases e' with z | z
        · rw [z]; exact Nat.le_add_right _ _
        · rw [z]; exact Nat.le_refl _
      exact I1.fpOk hle (I1.hok.fresh hle)
    rcases q with ⟨hq, q⟩ | ⟨hq, q⟩
    · obtain ⟨its, rv, p', hz⟩ := I1.list hq
      refine call_enumerate_list p'.isList fun h' he hit hsz hk => wpAny_pyIter_enum he ?_
      have I2 : Inv X pins σ H1 { s1 with heap := h' } := I1.kept (t' := s1.toks) hk
      exact ⟨s1.heap.objs.size + 1, [s1.heap.objs.size + 1, s1.heap.objs.size], _, _, H1, rfl, I2, turn_enum a (s1.heap.objs.size + 1) s1.heap.objs.size, ⟨⟨.none, he⟩, hit, Nat.succ_ne_self _⟩, fresh, q⟩
    · obtain ⟨its, rv, p', hz⟩ := I1.tuple hq
      obtain ⟨o, ho, _⟩ := id p'
      have hlt : a < s1.heap.objs.size := Heap.lt_size ho
      refine call_enumT (show s1.heap.IsTuple a its.toArray from p') fun h' he hit hsz hk => wpAny_pyIter_enum he ?_
      have I2 : Inv X pins σ H1 { s1 with heap := h' } := I1.kept (t' := s1.toks) hk
      exact ⟨s1.heap.objs.size + 1, [s1.heap.objs.size + 1, s1.heap.objs.size], _, _, H1, rfl, I2, turn_enumT a (s1.heap.objs.size + 1) s1.heap.objs.size (Nat.ne_of_lt (Nat.lt_succ_of_lt hlt)) (Nat.ne_of_lt hlt), ⟨⟨.none, he⟩, hit, Nat.succ_ne_self _⟩, fresh, q⟩
end EnumT

set_option maxHeartbeats 2000000
namespace PySem.W
open PySem PySem.SeqAt PyProof.Rows
section
variable {prog : Program} {w : World} {A : Around} {E : Value → Shared → Prop} {s : Shared}
/-- min of a list of alike data, with its place -/
theorem min_list_ix {l : Addr} {vs : Array Value} {x : PyData} {xs : List PyData} {as : List Addr} {Q : Value → Shared → Prop} (hh : A.handled = none) (hl : s.heap.IsList l vs) (hr : ReadsAll s.heap vs.toList (x :: xs) as) (ha : AlikeAll (x :: xs)) (hu : A.units + 1 + PyData.depthAll (x :: xs) < cLine)
    (h : ∀ v h' tk, vs[argBest (fun i j => dataLt ((x :: xs).getD i .none) ((x :: xs).getD j .none)) xs.length]? = some v → (∀ b o, s.heap.get? b = some o → h'.get? b = some o) → Q v { s with heap := h', toks := tk }) :
    wpAny (model prog w) A (call (.builtin "min") [.ref l]) Q E s := by
  have hn : vs.size = xs.length + 1 := readsAll_len hr
  refine call_min_walkH (iter_listW (A := A.in1) hh hl fun s₂ e W st hfp hw hk => ?_)
  refine ⟨_, _, _, _, _, _, _, s.heap, _, rfl, W, st, hfp, by omega, hw, hk, cmpIn_lt (A := A.in1) hr ha (by show A.units + 1 + _ < _; exact hu), fun v s' hP m => ?_⟩
  obtain ⟨h', tk, rfl, hk'⟩ := moved_old e rfl m
  have e1 : vs.size - 1 = xs.length := by omega
  rw [e1] at hP
  exact h v h' tk hP hk'
end
end PySem.W
namespace TL
open PySem PySem.Spec PyProof.Rows L2
/-! ### min of a list of data -/
def rMinLG (K : PySem.W.Frag) : List V → Hp → VK → Prop := fun xs H Q => ∃ a ys d ds, xs = [.ref a] ∧ SqL K H a ys ∧ DpAll K H ys (d :: ds) ∧ PySem.W.AlikeAll (d :: ds) ∧ PyData.depthAll (d :: ds) ≤ 60 ∧
  ∀ y, ys[PySem.argBest (fun i j => PySem.W.dataLt ((d :: ds).getD i .none) ((d :: ds).getD j .none)) ds.length]? = some y → Q y H
theorem DpAll.reads' {X : Cx} {pins : List (Addr × Obj)} {σ : L2.St} {H : Hp} {s : Shared} (I : Inv X pins σ H s) : ∀ {ds : List PyData} {vs : List V} {us : List Value}, DpAll X.K H vs ds → Vals vs us → ∃ as, ReadsAll s.heap us ds as
  | [], _, _, .nil, .nil => ⟨_, .nil⟩
  | _ :: _, _, _, .cons h hs, .cons r rs => by
    obtain ⟨as, ra⟩ := Dp.reads I _ _ _ h r
    obtain ⟨bs, rb⟩ := DpAll.reads' I hs rs
    exact ⟨_, .cons ra rb⟩
theorem call_minLG {X : Cx} (hc : X.calm = true) (hu : X.A.units + 64 < cLine) : CallR X (.builtin "min") (rMinLG X.K) := by
  intro pins s σ H xs us Q I r h
  obtain ⟨a, ys, d, ds, rfl, hq, hd, hal, hdep, q⟩ := h
  obtain ⟨u, rfl, ru⟩ := r.one
  cases ru
  obtain ⟨its, rv, p, hz⟩ := I.list hq
  obtain ⟨as, ra⟩ := DpAll.reads' I hd rv
  refine PySem.W.min_list_ix (I.ok.hd hc) p.isList (vs := its.toArray) (by simpa using ra) hal (by omega) fun v h' tk hv k => ?_
  have hv' : its[PySem.argBest (fun i j => PySem.W.dataLt ((d :: ds).getD i .none) ((d :: ds).getD j .none)) ds.length]? = some v := by simpa using hv
  have hl := rv.length
  have hi := (List.getElem?_eq_some_iff.mp hv').1
  have ey : ys[PySem.argBest (fun i j => PySem.W.dataLt ((d :: ds).getD i .none) ((d :: ds).getD j .none)) ds.length]? = some _ := List.getElem?_eq_getElem (by rw [hl]; exact hi)
  obtain ⟨v', ev', rv'⟩ := rv.get ey
  rw [hv'] at ev'; cases ev'
  exact ⟨_, H, I.kept k, rv', q _ ey⟩
/-- the first of the least -/
def minLG : D → Option D
  | .lst (d :: ds) => if (d :: ds).all (fun x => pyOk 40 x && loose x && !isNonD x) && (d :: ds).all (fun x => (d :: ds).all fun y => alikeD x y) then some (ds.foldl (fun a y => if ltD y a then y else a) d) else none
  | _ => none
theorem depthAll_le : ∀ (l : List D) (n : Nat), (∀ x ∈ l, (py x).depth ≤ n) → PyData.depthAll (l.map py) ≤ n
  | [], n, _ => by simp [PyData.depthAll]
  | x :: l, n, h => by
    have h1 := h x (by simp)
    have h2 := depthAll_le l n fun y hy => h y (by simp [hy])
    simp only [List.map_cons, PyData.depthAll]
    omega
theorem dpAll_of {K : PySem.W.Frag} {mg : Str → Option Value} {G H : Hp} (le : Le G H) : ∀ {ds : List D} {vs : List V}, (∀ x ∈ ds, pyOk 40 x = true) → Rfs K mg G ds vs → DpAll K H vs (ds.map py)
  | _, _, _, .nil => .nil
  | _, _, h, .cons r rs => .cons (dp_of le 40 (h _ (by simp)) r) (dpAll_of le (fun x hx => h x (by simp [hx])) rs)
theorem ca_minLG {X : Cx} : CaD X (rMinLG X.K) (f1 minLG) := ca1 fun S H d1 d v1 Q al r1 e q => by
  cases d1 with
  | lst l =>
    cases l with
    | nil => cases e
    | cons x xs =>
      obtain ⟨hc, e⟩ := ifSome' e
      rw [Bool.and_eq_true] at hc
      simp only [List.all_eq_true, Bool.and_eq_true, Bool.not_eq_true'] at hc
      obtain ⟨h1, h2⟩ := hc
      obtain ⟨a, vs, rfl, ha, rf⟩ := r1.lst_inv
      have dp := dpAll_of (K := X.K) (mg := X.mg) (hide_le S H) (fun y hy => (h1 y hy).1.1) rf
      rw [List.map_cons] at dp
      refine ⟨a, vs, py x, xs.map py, rfl, .of ha, dp, ⟨fun y hy z hz => ?_, fun y hy => ?_⟩, ?_, fun y hy => ?_⟩
      · rw [← List.map_cons] at hy hz
        obtain ⟨y', hy', rfl⟩ := List.mem_map.mp hy
        obtain ⟨z', hz', rfl⟩ := List.mem_map.mp hz
        exact h2 y' hy' z' hz'
      · rw [← List.map_cons] at hy
        obtain ⟨y', hy', rfl⟩ := List.mem_map.mp hy
        exact py_none (h1 y' hy').1.1 (h1 y' hy').2
      · rw [← List.map_cons]
        have := depthAll_le (x :: xs) 40 fun y hy => (pyOk_ok 40 y (h1 y hy).1.1).2
        omega
      · have eg : ∀ i, (py x :: xs.map py).getD i .none = py ((x :: xs).getD i .non) := fun i => by
          rw [← List.map_cons, List.getD_eq_getElem?_getD, List.getD_eq_getElem?_getD, List.getElem?_map]
          cases (x :: xs)[i]? <;> rfl
        have ef : (fun i j => PySem.W.dataLt ((py x :: xs.map py).getD i .none) ((py x :: xs.map py).getD j .none)) = fun i j => ltD ((x :: xs).getD i .non) ((x :: xs).getD j .non) := by
          funext i j
          rw [eg, eg]; rfl
        rw [ef, List.length_map] at hy
        obtain ⟨b1, b2⟩ := PySem.W.argBest_fold ltD D.non x xs xs.length (Nat.le_refl _)
        rw [List.take_length] at b2
        generalize PySem.argBest (fun i j => ltD ((x :: xs).getD i .non) ((x :: xs).getD j .non)) xs.length = n at *
        obtain ⟨dy, edy, rdy⟩ := rf.get' hy
        have e2 : (x :: xs).getD n .non = dy := by rw [List.getD_eq_getElem?_getD, edy]; rfl
        rw [e2] at b2
        rw [← e, ← b2]  at q
        exact q _ H (Grow.refl H) rdy
  | _ => cases e
/-! ### several names stored at once -/
def setAll : List Nat → List D → Rho → Rho
  | i :: is, d :: ds, ρ => setAll is ds (ρ.set i d)
  | _, _, ρ => ρ
def setAllT : List Nat → List Ty → List Ty → List Ty
  | i :: is, t :: ts, τ => setAllT is ts (τ.set i t)
  | _, _, τ => τ
def setAllS : List Nat → List V → L2.St → L2.St
  | i :: is, v :: vs, σ => setAllS is vs (σ.set i (some v))
  | _, _, σ => σ
theorem setAllT_len : ∀ (is : List Nat) (ts τ : List Ty), (setAllT is ts τ).length = τ.length
  | [], _, _ => by cases ‹List Ty› <;> rfl
  | i :: is, [], _ => rfl
  | i :: is, t :: ts, τ => by rw [setAllT, setAllT_len is]; simp
theorem SR.putAll {K : PySem.W.Frag} {mg : Str → Option Value} {R : List Addr} {H : Hp} : ∀ {is : List Nat} {ts τ : List Ty} {ds : List D} {vs : List V} {ρ : Rho} {σ : L2.St} {fs fv : List Addr}, SR K mg (fv ++ R) τ ρ σ H fs → Rps K mg H (hide (fv ++ R ++ fs) H) ts ds vs fv → (∀ i ∈ is, i < τ.length) → is.length = ds.length →
    ∃ fs', SR K mg R (setAllT is ts τ) (setAll is ds ρ) (setAllS is vs σ) H fs' ∧ ∀ a ∈ fs', a ∈ fv ++ fs
  | [], _, _, _, _, _, _, fs, _, s, .nil, _, _ => ⟨fs, s, fun a h => by simpa using h⟩
  | i :: is, _, _, _, _, _, _, _, _, s, .nil, _, hl => by simp at hl
  | [], _, _, _, _, _, _, _, _, s, .cons _ _, _, hl => by simp at hl
  | i :: is, _, τ, _, _, _, _, _, _, s, .cons (t := t) h r, hb, hl => by
    obtain ⟨fs1, fw, s1, r1, sub1⟩ := s.put2 (hb i (by simp)) (.cons h r)
    obtain ⟨fs2, s2, sub2⟩ := SR.putAll (is := is) s1 r1 (fun j hj => by rw [List.length_set]; exact hb j (by simp [hj])) (by simpa using hl)
    exact ⟨fs2, s2, fun a ha => sub1 a (sub2 a ha)⟩
theorem setAllS_ne {i : Nat} : ∀ {is : List Nat} {vs : List V} {σ : L2.St}, i ∉ is → (setAllS is vs σ)[i]? = σ[i]?
  | [], vs, σ, _ => by cases vs <;> rfl
  | j :: is, [], σ, _ => rfl
  | j :: is, v :: vs, σ, h => by
    rw [setAllS, setAllS_ne (fun z => h (by simp [z])), List.getElem?_set_ne (fun z => h (by simp [z]))]
def tNames (is : List Nat) : TGs := fun vs σ H Q => vs.length = is.length ∧ Q (setAllS is vs σ) H
section
variable {X : Cx} {γ : Gm} {τ : List Ty} {es : List Expr} {pos : Pos}
theorem pgn_nil : PGs X [] (tNames []) := ⟨fun pins s σ H vs us Q I r h => pgs_nil.run pins s σ H vs us Q I r (by
  obtain ⟨h1, h2⟩ := h
  cases vs with
  | nil => exact ⟨rfl, h2⟩
  | cons _ _ => simp at h1)⟩
theorem pgn_cons {x : Str} {px : Pos} {is : List Nat} (i : Nat) (hN : X.N.Nodup) (hi : X.N[i]? = some x) (hx : Loc X.env.scope x) (hr : PGs X es (tNames is)) (hf : X.fn x = true ∨ X.env.scope.names.lookup x = some .local := by first | exact .inl rfl | exact .inr rfl | assumption)
    (hs : (assignEach (.Name x px :: es) X.env).map (·.2) = assign (.Name x px) X.env :: (assignEach es X.env).map (·.2) := by rfl) : PGs X (.Name x px :: es) (tNames (i :: is)) :=
  ⟨fun pins s σ H vs us Q I r h => (pgs_cons (pg_name hN hi hx hf) hr hs).run pins s σ H vs us Q I r (by
    obtain ⟨h1, h2⟩ := h
    cases vs with
    | nil => simp at h1
    | cons v vs => exact ⟨v, vs, rfl, by simpa using h1, h2⟩)⟩
def sUnp (is : List Nat) (f : Lf) : Sf := fun ρ => (f ρ).bind fun p => if p.1.length == is.length && okLen p.1.length then some (.nx (setAll is p.1 p.2)) else none
theorem ds_unp {f : Lf} {ts : List Ty} {tgs : List Expr} {kt k2 : Nat} {pt p2 : Pos} (is : List Nat) (hc : X.calm = true) (ha : DL X es τ f ts) (hg : PGs X tgs (tNames is)) (hb : ∀ i ∈ is, i < τ.length := by decide) (hio : ∀ i ∈ is, i ∉ γ.io := by decide)
    (hn : (assignEach tgs X.env).length = is.length := by rfl) (hst : (assignEach tgs X.env).findIdx? (·.1) = none := by rfl)
    (hs : swapsWithSole [.Tuple tgs kt pt] (.Tuple es k2 p2) pos.line X.env = pure false := by rfl) (hw : swappedStores [.Tuple tgs kt pt] (.Tuple es k2 p2) X.env = pure none := by rfl)
    (h1 : (assignEach [.Tuple tgs kt pt] X.env).map (·.2) = [assign (.Tuple tgs kt pt) X.env] := by rfl) :
    DS X γ (.Assign [.Tuple tgs kt pt] (.Tuple es k2 p2) pos) τ (sUnp is f) (setAllT is ts τ) := ps_imp (ps_asg (pe_tup ha) (pg_tup hc hg hn hst) hs hw h1) fun D σ H ⟨R, ρ, fs, o, s, e, q⟩ => by
  obtain ⟨w, e1, e2⟩ := bindO e
  obtain ⟨e3, e4⟩ := ifSome' e2
  cases e4
  rw [Bool.and_eq_true] at e3
  have hl : w.1.length = is.length := eq_of_beq e3.1
  refine ⟨R, ρ, fs, w.1, w.2, s, e1, fun vs H1 fs1 fv t1 s1 r1 => ?_⟩
  have hvl := r1.len
  refine ⟨by rw [← hvl]; exact okLen_le e3.2, fun a ha => ?_⟩
  have g := Grow.upd (o := HO.tup vs) ha
  have s2 := s1.grow g
  have r2 : Rps X.K X.mg (upd H1 a (.tup vs)) (hide (fv ++ R ++ fs1) (upd H1 a (.tup vs))) ts w.1 vs fv := r1.mono (hide_grow _ g) fun b hb => by
    obtain ⟨o, eo, _⟩ := s1.own b (List.mem_append_left _ (List.mem_append_left _ hb))
    rw [eo]; exact g b o eo
  obtain ⟨fs3, s3, sub3⟩ := SR.putAll s2 r2 hb hl.symm
  refine ⟨a, vs, rfl, .of upd_same, by rw [← hvl, hl], by rw [← hvl, hl], ?_⟩
  refine q _ _ fs3 ((t1.trans (Step.grow g _)).less fun b hb => sub3 b hb) (fun j hj => setAllS_ne fun z => hio j z hj) s3
end
/-! ### list(range(..)) -/
section
variable {X : Cx} {τ : List Ty} {a b : Expr} {p pos p2 pos2 : Pos}
def oRg1 (f : Af) : Of := fun ρ => (f ρ).bind fun p => match p.1 with
  | [.v (.int j)] => if small62 j && okLen j.toNat then some (.lst (intsD 0 j.toNat), p.2) else none
  | _ => none
theorem rgV0 (j : Int) : rgV 0 j = (List.range j.toNat).map fun i => V.int (0 + (i : Nat)) := by
  unfold rgV
  rw [show j - 0 = j by omega]
theorem rfs_ints {K : PySem.W.Frag} {mg : Str → Option Value} {G : Hp} (lo : Int) (n : Nat) : Rfs K mg G (intsD lo n) ((List.range n).map fun i => V.int (lo + (i : Nat))) := by
  have h1 : intsD lo n = ((List.range n).map fun i : Nat => lo + (i : Int)).map D.int := by unfold intsD; rw [List.map_map]; rfl
  have h2 : ((List.range n).map fun i => V.int (lo + (i : Nat))) = ((List.range n).map fun i : Nat => lo + (i : Int)).map V.int := by rw [List.map_map]; rfl
  rw [h1, h2]
  exact Rfs.of_ints _
theorem prg_A {f : Af} (hg : Gl X "range") (hm : X.mg "range" = none) (ha : DA X [a] τ f) (na : starEach [a] X.env = (false, eval a X.env) :: starEach [] X.env := by rfl) :
    PRg X (.Call (.Name "range" p) [a] [] pos) (fun σ H Q => tA X τ f σ H fun vs H1 => ∃ n, vs = [.int n] ∧ Q 0 n H1) := by
  intro pins s σ H Q I h
  refine Call_ (ld_blt I hg hm boot_range (PyProof.Rows.callWith_type1 (thn (ha.run pos pins s σ H _ I h) fun us s2 ⟨vs, H2, I2, r, q⟩ => ?_) na rfl))
  obtain ⟨n, rfl, q⟩ := q
  obtain ⟨u, rfl, ru⟩ := r.one
  obtain ⟨t, rfl⟩ := ru
  exact call_range_1 ⟨_, 0, n, _, _, _, H2, rfl, IsRange.new _ _ _ _ _ _ _, I2.kept fun b u e => Heap.get?_push_of_some _ e, q⟩
theorem do_rg1 {f : Af} (hc : X.calm = true) (hgl : Gl X "list") (hml : X.mg "list" = none) (hg : Gl X "range") (hm : X.mg "range" = none) (ha : DA X [a] τ f) (na : starEach [a] X.env = (false, eval a X.env) :: starEach [] X.env := by rfl)
    (nb : starEach [.Call (.Name "range" p) [a] [] pos] X.env = (false, eval (.Call (.Name "range" p) [a] [] pos) X.env) :: starEach [] X.env := by rfl) :
    DO X (.Call (.Name "list" p2) [.Call (.Name "range" p) [a] [] pos] [] pos2) τ (oRg1 f) (.oL .sh) := pe_imp (pe_listRg hc hgl hml (prg_A hg hm ha na) nb) fun σ H Q ⟨R, ρ, fs, d, ρ', s, e, q⟩ => by
  obtain ⟨w, e1, e2⟩ := bindO e
  obtain ⟨w1, w2⟩ := w
  simp only at e2
  split at e2
  · rename_i j
    obtain ⟨e3, e4⟩ := ifSome' e2
    cases e4
    rw [Bool.and_eq_true] at e3
    refine ⟨R, ρ, fs, _, _, s, e1, fun vs H1 fs1 t1 s1 r1 => ?_⟩
    cases r1 with
    | cons r rs =>
      cases r
      cases rs
      have h62 := small62_of e3.1
      refine ⟨j, rfl, ⟨by omega, by omega, h62.1, h62.2, ?_⟩, fun a0 ha0 => ?_⟩
      · have := okLen_le e3.2
        rw [sizeLine_eq] at this
        rw [show j - 0 = j by omega]
        omega
      · rw [rgV0]
        obtain ⟨n1, n2, n3⟩ := s1.newL ha0 (rfs_ints (mg := X.mg) 0 j.toNat)
        exact q _ _ fs1 [a0] (t1.trans n3) n1 n2
  · cases e2
end
/-! ### enumerate -/
def enuD (l : List D) : List D := l.zipIdx.map fun p => .tup [.int (p.2 : Int), p.1]
def iEnu (f : Af) : Itf := fun ρ => (f ρ).bind fun p => match p.1 with
  | [.v (.lst l)] => some (enuD l, p.2)
  | [.v (.tup l)] => some (enuD l, p.2)
  | _ => none
theorem enu_get {l : List D} {i : Nat} {d : D} (e : (enuD l)[i]? = some d) : ∃ a, l[i]? = some a ∧ d = .tup [.int (i : Int), a] := by
  unfold enuD at e
  rw [List.getElem?_map, List.getElem?_zipIdx] at e
  cases h : l[i]? with
  | none => rw [h] at e; cases e
  | some a => rw [h] at e; simp at e; exact ⟨a, rfl, e.symm⟩
theorem walks_enuT {K : PySem.W.Frag} {mg : Str → Option Value} {G : Hp} {a : Addr} {vs : List V} {l : List D} (h : SqT K G a vs) (r : Rfs K mg G l vs) : Walks K mg (EnumT.IteT K a) (enuD l) G := by
  intro i S H al le
  have h1 : SqT K H a vs := (hide_le S H).seqT (le.seqT h)
  refine ⟨fun d e => ?_, fun e => ?_⟩
  · obtain ⟨x, e1, rfl⟩ := enu_get e
    obtain ⟨v, ev, rv⟩ := r.get e1
    refine ⟨⟨vs, v, h1, ev⟩, fun z H' ⟨T, v', ez, nT, eH, f1⟩ => ?_⟩
    subst ez; subst eH
    have a1 := f1 vs h1
    rw [ev] at a1; cases a1
    exact ⟨Grow.upd nT, new_tup al nT (.cons (.int _) (.one (rv.mono le)))⟩
  · refine ⟨vs, h1, ?_⟩
    have := r.length
    unfold enuD at e
    simp at e
    omega
theorem walks_enuL {K : PySem.W.Frag} {mg : Str → Option Value} {G : Hp} {a : Addr} {vs : List V} {l : List D} (h : G a = some (.lst vs)) (r : Rfs K mg G l vs) : Walks K mg (Ite K a) (enuD l) G := by
  intro i S H al le
  have h1 : SqL K H a vs := .of (hide_le _ _ _ _ (le _ _ h))
  refine ⟨fun d e => ?_, fun e => ?_⟩
  · obtain ⟨x, e1, rfl⟩ := enu_get e
    obtain ⟨v, ev, rv⟩ := r.get e1
    refine ⟨⟨vs, v, h1, ev⟩, fun z H' ⟨T, v', ez, nT, eH, f1⟩ => ?_⟩
    subst ez; subst eH
    have a1 := f1 vs h1
    rw [ev] at a1; cases a1
    exact ⟨Grow.upd nT, new_tup al nT (.cons (.int _) (.one (rv.mono le)))⟩
  · refine ⟨vs, h1, ?_⟩
    have := r.length
    unfold enuD at e
    simp at e
    omega
section
variable {X : Cx} {τ : List Ty} {e : Expr} {p pos tpos : Pos} {elts : List Expr} {kk : Nat}
theorem di_enum {f : Af} (hg : Gl X "enumerate") (hm : X.mg "enumerate" = none) (ha : DA X [e] τ f) (hs : starEach [e] X.env = [(false, eval e X.env)] := by rfl) :
    DI X (.Tuple elts kk tpos) (.Call (.Name "enumerate" p) [e] [] pos) τ (iEnu f) := pi_imp (EnumT.pi_enumA hg hm ha hs) fun σ H Q ⟨R, ρ, fs, ds, ρ', s, eq, q⟩ => by
  obtain ⟨w, e1, e2⟩ := bindO eq
  obtain ⟨w1, w2⟩ := w
  simp only at e2
  refine ⟨R, ρ, fs, _, _, s, e1, fun vs H' fs' t s' r => ?_⟩
  split at e2
  · cases e2
    cases r with
    | cons r1 rs =>
      cases rs
      cases r1 with
      | lst h1 q1 => exact ⟨_, _, rfl, .inl ⟨.of (hide_le _ _ _ _ h1), q _ H' fs' t s' (walks_enuL h1 q1)⟩⟩
  · cases e2
    cases r with
    | cons r1 rs =>
      cases rs
      cases r1 with
      | tup h1 q1 => exact ⟨_, _, rfl, .inr ⟨(hide_le _ _).seqT h1, q _ H' fs' t s' (walks_enuT h1 q1)⟩⟩
  · cases e2
end
end TL

set_option maxHeartbeats 2000000
namespace TL
open PySem PySem.Spec PyProof.Rows L2 CpComb
/-! ### combinations -/
def rowsF (n : Nat) : Nat → List Nat → Option (List (List Nat))
  | 0, _ => none
  | f + 1, idx => match nextC n idx with
    | none => some [idx]
    | some idx' => (rowsF n f idx').map (idx :: ·)
def rowsC (n k : Nat) : Option (List (List Nat)) := if k ≤ n then rowsF n 5000 (List.range k) else some []
theorem rowsF_seq {n k : Nat} : ∀ {f i : Nat} {idx : List Nat} {rows : List (List Nat)}, rowsF n f idx = some rows → seqC n k i = some idx → (∀ j r, rows[j]? = some r → seqC n k (i + j) = some r) ∧ seqC n k (i + rows.length) = none
  | 0, _, _, _, h, _ => by cases h
  | f + 1, i, idx, rows, h, hs => by
    unfold rowsF at h
    have hn : seqC n k (i + 1) = nextC n idx := by unfold seqC; rw [hs]; rfl
    split at h
    · rename_i e
      cases h
      refine ⟨fun j r hr => ?_, by rw [List.length_singleton, hn, e]⟩
      cases j with
      | zero => simp at hr; subst hr; exact hs
      | succ j => simp at hr
    · rename_i idx' e
      obtain ⟨rs, h1, h2⟩ := mapO h
      subst h2
      rw [e] at hn
      obtain ⟨a, b⟩ := rowsF_seq h1 hn
      refine ⟨fun j r hr => ?_, ?_⟩
      · cases j with
        | zero => simp at hr; subst hr; exact hs
        | succ j =>
          have := a j r (by simpa using hr)
          rwa [show i + 1 + j = i + (j + 1) by omega] at this
      · rwa [show i + 1 + rs.length = i + (idx :: rs).length by simp; omega] at b
theorem rowsC_seq {n k : Nat} {rows : List (List Nat)} (h : rowsC n k = some rows) : (∀ j r, rows[j]? = some r → seqC n k j = some r) ∧ ∀ j, rows.length ≤ j → seqC n k j = none := by
  unfold rowsC at h
  split at h
  · rename_i hk
    have h0 : seqC n k 0 = some (List.range k) := by unfold seqC; rw [if_pos hk]
    obtain ⟨a, b⟩ := rowsF_seq h h0
    refine ⟨fun j r hr => by simpa using a j r hr, fun j hj => seqC_none (by simpa using b) j hj⟩
  · rename_i hk
    cases h
    have h0 : seqC n k 0 = none := by unfold seqC; rw [if_neg hk]
    exact ⟨fun j r hr => by simp at hr, fun j _ => seqC_none h0 j (by omega)⟩
def cmbRow (ds : List D) (idx : List Nat) : D := .tup (idx.map fun j => ds.getD j .non)
def cmbD (ds : List D) (k : Int) : Option (List D) := if 0 ≤ k ∧ k ≤ 1000 ∧ okS ds.length = true then (rowsC ds.length k.toNat).map fun rows => rows.map (cmbRow ds) else none
theorem rf_getD {K : PySem.W.Frag} {mg : Str → Option Value} {G : Hp} {ds : List D} {xs : List V} (r : Rfs K mg G ds xs) (j : Nat) : Rf K mg G (ds.getD j .non) (xs.getD j .non) := by
  have hl := r.length
  rw [List.getD_eq_getElem?_getD, List.getD_eq_getElem?_getD]
  cases e : ds[j]? with
  | none =>
    have : xs[j]? = none := List.getElem?_eq_none (by have := List.getElem?_eq_none_iff.mp e; omega)
    rw [this]; exact .non
  | some d =>
    obtain ⟨v, ev, rv⟩ := r.get e
    rw [ev]; exact rv
theorem rfs_row {K : PySem.W.Frag} {mg : Str → Option Value} {G : Hp} {ds : List D} {xs : List V} (r : Rfs K mg G ds xs) : ∀ idx : List Nat, Rfs K mg G (idx.map fun j => ds.getD j .non) (idx.map fun j => xs.getD j .non)
  | [] => .nil
  | j :: idx => .cons (rf_getD r j) (rfs_row r idx)
theorem walks_cmb {K : PySem.W.Frag} {mg : Str → Option Value} {G : Hp} {ds out : List D} {xs : List V} {k : Int} (r : Rfs K mg G ds xs) (e : cmbD ds k = some out) : Walks K mg (ItC xs k.toNat) out G := by
  intro i S H al le
  unfold cmbD at e
  split at e
  · obtain ⟨rows, e1, e2⟩ := mapO e
    subst e2
    rw [r.length] at e1
    obtain ⟨a, b⟩ := rowsC_seq e1
    refine ⟨fun d ed => ?_, fun ed => b i (by simpa using ed)⟩
    rw [List.getElem?_map] at ed
    cases er : rows[i]? with
    | none => rw [er] at ed; cases ed
    | some row =>
      rw [er] at ed
      cases ed
      have hs := a i row er
      refine ⟨by show (seqC xs.length k.toNat i).isSome = true; rw [hs]; rfl, fun x H' ⟨T, idx, ei, ex, nT, eH⟩ => ?_⟩
      rw [hs] at ei
      cases ei
      subst ex
      subst eH
      exact ⟨Grow.upd nT, new_tup al nT ((rfs_row r row).mono le)⟩
  · cases e
section
variable {X : Cx} {τ : List Ty} {tg a b : Expr} {x : Str} {p pos p2 pos2 : Pos}
def iCmbR (f g : Ef) : Itf := fun ρ => (f ρ).bind fun p => (g p.2).bind fun q => match p.1, q.1 with
  | .v (.int n), .v (.int k) => if small62 n && okLen n.toNat then (cmbD (intsD 0 n.toNat) k).map fun out => (out, q.2) else none
  | _, _ => none
theorem di_cmbR {f g : Ef} (hc : X.calm = true) (hg : Gl X x) (hm : X.mg x = some (.type "itertools.combinations")) (hgr : Gl X "range") (hmr : X.mg "range" = none) (ha : DE X a τ f) (hb : DE X b τ g) (hdb : (x == ("__debug__" : Str)) = false := by decide)
    (na : starEach [a] X.env = (false, eval a X.env) :: starEach [] X.env := by rfl) (nb : starEach [b] X.env = (false, eval b X.env) :: starEach [] X.env := by rfl)
    (nr : starEach [.Call (.Name "range" p2) [a] [] pos2, b] X.env = (false, eval (.Call (.Name "range" p2) [a] [] pos2) X.env) :: starEach [b] X.env := by rfl)
    (hpl : (backTo pos (starEach [b] X.env)).any (·.1) = false := by rfl) :
    DI X tg (.Call (.Name x p) [.Call (.Name "range" p2) [a] [] pos2, b] [] pos) τ (iCmbR f g) :=
  pi_imp (pi_cmb hc hg hm (pa_cons (pe_callTy cr_range1 hgr hmr (by decide +kernel) (pa_cons ha pa_nil na) (by decide) (by decide) na) (pa_cons hb pa_nil nb) nr) hdb nr hpl) fun σ H Q ⟨R, ρ, fs, ds, ρ', s, eq, q⟩ => by
    obtain ⟨w, e1, e2⟩ := bindO eq
    obtain ⟨z, e3, e4⟩ := bindO e2
    obtain ⟨w1, w2⟩ := w
    obtain ⟨z1, z2⟩ := z
    simp only at e4 e3
    split at e4
    · rename_i n k
      by_cases hc1 : (small62 n && okLen n.toNat) = true
      · rw [if_pos hc1] at e4
        rw [Bool.and_eq_true] at hc1
        obtain ⟨out, e5, e6⟩ := mapO e4
        cases e6
        refine ⟨R, ρ, fs, _, _, s, e1, fun v1 H1 fs1 t1 s1 r1 => ?_⟩
        cases r1
        refine ⟨n, rfl, fun rp hrp => ?_⟩
        have g := Grow.upd (o := HO.rng 0 n) hrp
        have s2 := s1.grow g
        refine ⟨R, w2, fs1, _, _, s2, e3, fun v2 H2 fs2 t2 s3 r2 => ?_⟩
        cases r2
        have hr2 : H2 rp = some (.rng 0 n) := t2.ext rp _ (fun z => s1.fresh hrp (List.mem_append_right _ z)) upd_same
        have h62 := small62_of hc1.1
        have hk : 0 ≤ k ∧ k ≤ 1000 := by
          unfold cmbD at e5
          split at e5
          · rename_i hh; exact ⟨hh.1, hh.2.1⟩
          · cases e5
        have hz : okS (intsD 0 n.toNat).length = true := by
          unfold cmbD at e5
          split at e5
          · rename_i hh; exact hh.2.2
          · cases e5
        have hz' := okS_le hz
        rw [intsD_len] at hz'
        refine ⟨.ref rp, rgV 0 n, k.toNat, ?_, by omega, by rw [rgV_length]; omega, .inl ⟨rp, 0, n, rfl, hr2, ⟨by omega, by omega, h62.1, h62.2, by omega⟩, rfl⟩, ?_⟩
        · rw [show ((k.toNat : Nat) : Int) = k by omega]
        · refine q _ H2 fs2 (t1.trans ((Step.grow g _).trans t2)) s3 (walks_cmb ?_ e5)
          rw [rgV0]
          exact rfs_ints 0 n.toNat
      · rw [if_neg hc1] at e4; cases e4
    · cases e4
def iCmb (f : Af) : Itf := fun ρ => (f ρ).bind fun p => match p.1 with
  | [.v (.lst l), .v (.int k)] => (cmbD l k).map fun out => (out, p.2)
  | [.v (.tup l), .v (.int k)] => (cmbD l k).map fun out => (out, p.2)
  | _ => none
theorem di_cmb {f : Af} (hc : X.calm = true) (hg : Gl X x) (hm : X.mg x = some (.type "itertools.combinations")) (ha : DA X [a, b] τ f) (hdb : (x == ("__debug__" : Str)) = false := by decide)
    (nr : starEach [a, b] X.env = (false, eval a X.env) :: starEach [b] X.env := by rfl) (hpl : (backTo pos (starEach [b] X.env)).any (·.1) = false := by rfl) :
    DI X tg (.Call (.Name x p) [a, b] [] pos) τ (iCmb f) := pi_imp (pi_cmb hc hg hm ha hdb nr hpl) fun σ H Q ⟨R, ρ, fs, ds, ρ', s, eq, q⟩ => by
  obtain ⟨w, e1, e2⟩ := bindO eq
  obtain ⟨w1, w2⟩ := w
  simp only at e2
  have fin : ∀ {l out : List D} {k : Int}, cmbD l k = some out → 0 ≤ k ∧ k ≤ 1000 ∧ l.length ≤ 10000 := fun {l out k} e => by
    unfold cmbD at e
    split at e
    · rename_i hh; exact ⟨hh.1, hh.2.1, okS_le hh.2.2⟩
    · cases e
  refine ⟨R, ρ, fs, _, _, s, e1, fun vs H' fs' t s' r => ?_⟩
  split at e2
  · obtain ⟨out, e5, e6⟩ := mapO e2
    cases e6
    obtain ⟨k0, k1, k2⟩ := fin e5
    cases r with
    | cons r1 rs =>
      cases rs with
      | cons r2 rs =>
        cases rs
        cases r2
        cases r1 with
        | lst h1 q1 => exact ⟨_, _, Int.toNat _, by rw [show ((Int.toNat _ : Nat) : Int) = _ from Int.toNat_of_nonneg k0], by omega, by rw [← q1.length]; omega, .inr ⟨_, rfl, .inl (.of (hide_le _ _ _ _ h1))⟩, q _ H' fs' t s' (walks_cmb q1 e5)⟩
  · obtain ⟨out, e5, e6⟩ := mapO e2
    cases e6
    obtain ⟨k0, k1, k2⟩ := fin e5
    cases r with
    | cons r1 rs =>
      cases rs with
      | cons r2 rs =>
        cases rs
        cases r2
        cases r1 with
        | tup h1 q1 => exact ⟨_, _, Int.toNat _, by rw [show ((Int.toNat _ : Nat) : Int) = _ from Int.toNat_of_nonneg k0], by omega, by rw [← q1.length]; omega, .inr ⟨_, rfl, .inr ((hide_le _ _).seqT h1)⟩, q _ H' fs' t s' (walks_cmb q1 e5)⟩
  · cases e2
end
/-! ### tuple(range(..)) -/
section
variable {X : Cx} {τ : List Ty} {a b : Expr} {p pos p2 pos2 : Pos}
def eRgT (f : Af) : Ef := fun ρ => (f ρ).bind fun p => match p.1 with
  | [.v (.int j)] => if small62 j && okLen j.toNat then some (.v (.tup (intsD 0 j.toNat)), p.2) else none
  | _ => none
theorem de_rgT {f : Af} (hc : X.calm = true) (hgl : Gl X "tuple") (hml : X.mg "tuple" = none) (hg : Gl X "range") (hm : X.mg "range" = none) (ha : DA X [a] τ f) (na : starEach [a] X.env = (false, eval a X.env) :: starEach [] X.env := by rfl)
    (nb : starEach [.Call (.Name "range" p) [a] [] pos] X.env = (false, eval (.Call (.Name "range" p) [a] [] pos) X.env) :: starEach [] X.env := by rfl) :
    DE X (.Call (.Name "tuple" p2) [.Call (.Name "range" p) [a] [] pos] [] pos2) τ (eRgT f) := pe_imp (pe_tupRg hc hgl hml (prg_A hg hm ha na) nb) fun σ H Q ⟨R, ρ, fs, d, ρ', s, e, q⟩ => by
  obtain ⟨w, e1, e2⟩ := bindO e
  obtain ⟨w1, w2⟩ := w
  simp only at e2
  split at e2
  · rename_i j
    obtain ⟨e3, e4⟩ := ifSome' e2
    cases e4
    rw [Bool.and_eq_true] at e3
    refine ⟨R, ρ, fs, _, _, s, e1, fun vs H1 fs1 t1 s1 r1 => ?_⟩
    cases r1 with
    | cons r rs =>
      cases r
      cases rs
      have h62 := small62_of e3.1
      refine ⟨j, rfl, ⟨by omega, by omega, h62.1, h62.2, ?_⟩, fun a0 ha0 => ?_⟩
      · have := okLen_le e3.2
        rw [sizeLine_eq] at this
        rw [show j - 0 = j by omega]
        omega
      · rw [rgV0]
        have g := Grow.upd (o := HO.tup ((List.range j.toNat).map fun i => V.int (0 + (i : Nat)))) ha0
        exact q _ _ fs1 (t1.trans (Step.grow g _)) (s1.grow g) (s1.newT ha0 (rfs_ints 0 j.toNat))
  · cases e2
end
theorem bt_range : bootBuiltins "range" = some (.type "range") := by decide +kernel
theorem bt_enumerate : bootBuiltins "enumerate" = some (.type "enumerate") := by decide +kernel
end TL

set_option maxHeartbeats 2000000
namespace L2
open PySem PySem.Spec PyProof.Rows
section
variable {X : Cx} {a b c d : Expr} {ta tb tc td : TE} {pos : Pos}
def tChain3 (r r' r'' : R2) (ta tb tc td : TE) : TE := fun σ H Q => ta σ H fun x H1 => tb σ H1 fun y H2 => r x y H2 fun z H3 => ∃ k, z = .bl k ∧
  (if k = true then tc σ H3 fun w H4 => r' y w H4 fun z' H5 => ∃ k', z' = .bl k' ∧ (if k' = true then td σ H5 fun u H6 => r'' w u H6 Q else Q (.bl false) H5) else Q (.bl false) H3)
theorem pe_chain3 {op op' op'' : CmpOp} {r r' r'' : R2} (ho : OpR X (compareOp op) r) (ho' : OpR X (compareOp op') r') (ho'' : OpR X (compareOp op'') r'') (ha : PE X a ta) (hb : PE X b tb) (hc : PE X c tc) (hd : PE X d td)
    (hm : lastMarks [op, op', op''] [b, c, d] = false := by with_unfolding_all rfl) : PE X (.Compare a [op, op', op''] [b, c, d] pos) (tChain3 r r' r'' ta tb tc td) := by
  refine ⟨fun pins s σ H Q I h => ?_⟩
  refine Compare_chain (thn (ha.run pins s σ H _ I h) fun v s1 ⟨x, H1, I1, r1, q1⟩ => chain_link (thn (hb.run pins s1 σ H1 _ I1 q1) fun u s2 ⟨y, H2, I2, r2, q2⟩ =>
    thn (ho pins s2 σ H2 x y v u _ I2 r1 r2 q2) fun d s3 ⟨z, H3, I3, r3, k, e, q3⟩ => ?_)) hm
  subst e
  cases r3
  refine wpAny_truthy_bool ?_
  cases k with
  | false => exact ite_ff ⟨.bl false, H3, I3, rfl, q3⟩
  | true =>
    refine ite_tt (chain_link (thn (hc.run pins s3 σ H3 _ I3 q3) fun w' s4 ⟨z', H4, I4, r4, q4⟩ => thn (ho' pins s4 σ H4 y z' u w' _ I4 r2 r4 q4) fun d' s5 ⟨z2, H5, I5, r5, k2, e2, q5⟩ => ?_))
    subst e2
    cases r5
    refine wpAny_truthy_bool ?_
    cases k2 with
    | false => exact ite_ff ⟨.bl false, H5, I5, rfl, q5⟩
    | true => exact ite_tt (chain_last (thn (hd.run pins s5 σ H5 _ I5 q5) fun w2 s6 ⟨z3, H6, I6, r6, q6⟩ => ho'' pins s6 σ H6 z' z3 w' w2 Q I6 r4 r6 q6))
theorem pt_chain3 {op op' op'' : CmpOp} {r r' r'' : R2} (ho : OpR X (compareOp op) r) (ho' : OpR X (compareOp op') r') (ho'' : OpR X (compareOp op'') r'') (ha : PE X a ta) (hb : PE X b tb) (hc : PE X c tc) (hd : PE X d td)
    (hm : lastMarks [op, op', op''] [b, c, d] = false := by with_unfolding_all rfl) : PT X (.Compare a [op, op', op''] [b, c, d] pos) (tTest (tChain3 r r' r'' ta tb tc td)) := by
  refine ⟨fun pins s σ H Q I h => ?_⟩
  refine isTrue_chain (thn (ha.run pins s σ H _ I h) fun v s1 ⟨x, H1, I1, r1, q1⟩ => test_link (thn (hb.run pins s1 σ H1 _ I1 q1) fun u s2 ⟨y, H2, I2, r2, q2⟩ =>
    thn (ho pins s2 σ H2 x y v u _ I2 r1 r2 q2) fun d s3 ⟨z, H3, I3, r3, k, e, q3⟩ => ?_)) hm
  subst e
  cases r3
  refine wpAny_truthy_bool ?_
  cases k with
  | false =>
    obtain ⟨k', e', q'⟩ := q3
    cases e'
    exact ite_ff ⟨H3, I3, q'⟩
  | true =>
    refine ite_tt (test_link (thn (hc.run pins s3 σ H3 _ I3 q3) fun w' s4 ⟨z', H4, I4, r4, q4⟩ => thn (ho' pins s4 σ H4 y z' u w' _ I4 r2 r4 q4) fun d' s5 ⟨z2, H5, I5, r5, k2, e2, q5⟩ => ?_))
    subst e2
    cases r5
    refine wpAny_truthy_bool ?_
    cases k2 with
    | false =>
      obtain ⟨k', e', q'⟩ := q5
      cases e'
      exact ite_ff ⟨H5, I5, q'⟩
    | true =>
      refine ite_tt (test_last (thn (hd.run pins s5 σ H5 _ I5 q5) fun w2 s6 ⟨z3, H6, I6, r6, q6⟩ => thn (ho'' pins s6 σ H6 z' z3 w' w2 _ I6 r4 r6 q6) fun d2 s7 ⟨z4, H7, I7, r7, k3, e3, q7⟩ => ?_))
      subst e3
      cases r7
      exact wpAny_truthy_bool ⟨H7, I7, q7⟩
end
/-! lcm of three -/
open PySem.Calls PySem.W in
theorem mg_run_lcm3 (a : Int) (t : Tok) (b : Int) (u : Tok) (c : Int) (v : Tok) (hc0 : ¬(max 1 a.natAbs).log2 / 30 + 1 > 450) (hc1 : ¬(max a.natAbs b.natAbs).log2 / 30 + 1 > 450) (hc2 : ¬(max (a.natAbs.lcm b.natAbs) c.natAbs).log2 / 30 + 1 > 450)
    (hsz : (((((Nat.lcm 1 a.natAbs).lcm b.natAbs).lcm c.natAbs : Nat) : Int)).natAbs.log2 < bitsLine := by size_fits) :
    Gives (Builtin.«math.lcm» ⟨[.int a t, .int b u, .int c v], []⟩) (.int (((((Nat.lcm 1 a.natAbs).lcm b.natAbs).lcm c.natAbs : Nat) : Int))) :=
  .of_wp fun M A E s Q h => by obtain ⟨hp, g, d, tk, os⟩ := s; wp_walk; (try (refine wpAny_ite_false (decide_eq_false (Nat.not_le.mpr hsz)) ?_; wp_walk)); exact ⟨_, rfl, h⟩
theorem args_lcm3 (a b c : Value) : argsOk "math.lcm" ⟨[a, b, c], []⟩ := by unfold argsOk; kernel_rfl
def rLcm3 : List V → Hp → VK → Prop := fun vs H Q => ∃ a b c : Int, vs = [.int a, .int b, .int c] ∧ a.natAbs < 1000000 ∧ b.natAbs < 1000000 ∧ c.natAbs < 1000000 ∧ Q (.int (((a.natAbs.lcm b.natAbs).lcm c.natAbs : Nat) : Int)) H
theorem lcm3_le (a b c : Nat) (ha : a < 1000000) (hb : b < 1000000) (hc : c < 1000000) : a.lcm b < 2 ^ 40 ∧ (a.lcm b).lcm c < 2 ^ 60 := by
  have h1 : a.lcm b ≤ a * b := by unfold Nat.lcm; exact Nat.div_le_self _ _
  have h2 : (a.lcm b).lcm c ≤ a.lcm b * c := by unfold Nat.lcm; exact Nat.div_le_self _ _
  have h3 : a * b ≤ 1000000 * 1000000 := Nat.mul_le_mul (by omega) (by omega)
  have h4 : a.lcm b * c ≤ (1000000 * 1000000) * 1000000 := Nat.mul_le_mul (by omega) (by omega)
  omega
open PySem.Calls PySem.W in
theorem cr_lcm3 {X : Cx} : CallR X (.builtin "math.lcm") rLcm3 := by
  intro pins s σ H vs us Q I r h
  obtain ⟨a, b, c, rfl, ha, hb, hc, q⟩ := h
  cases r with
  | cons r1 r =>
    obtain ⟨t, u, rfl⟩ := Vals.int2 r
    obtain ⟨t1, rfl⟩ := r1
    obtain ⟨k1, k2⟩ := lcm3_le a.natAbs b.natAbs c.natAbs ha hb hc
    have e : ∀ n : Nat, Nat.lcm 1 n = n := fun n => by simp [Nat.lcm]
    have g := mg_run_lcm3 a t1 b t c u (by have := mg_log (n := max 1 a.natAbs) (k := 63) (by omega); omega) (by have := mg_log (n := max a.natAbs b.natAbs) (k := 63) (by omega); omega) (by have := mg_log (n := max (a.natAbs.lcm b.natAbs) c.natAbs) (k := 63) (by omega); omega)
      (by rw [e]; refine Nat.lt_of_le_of_lt (mg_log (k := 63) ?_) (by decide); rw [Int.natAbs_natCast]; omega)
    rw [e] at g
    exact call_function_meets MGF.kind_lcm MGF.plain_lcm MGF.entry_lcm (args_lcm3 _ _ _) g.meets ⟨.int _, H, I.tok _, ⟨_, rfl⟩, q⟩
end L2
namespace TL
open PySem PySem.Spec PyProof.Rows L2
section
variable {X : Cx} {τ : List Ty} {a b c d e : Expr} {es : List Expr} {p pos p2 pos2 : Pos} {x : Str} {id : String}
/-! ### a op b op c op d -/
def eChain3 (g g' g'' : D → D → Option D) (f1 f2 f3 f4 : Ef) : Ef := fun ρ => (f1 ρ).bind fun p => (f2 p.2).bind fun q => (g (p.1.res q.2) (q.1.res q.2)).bind fun d => match d with
  | .bl true => (f3 q.2).bind fun r => (g' (q.1.res r.2) (r.1.res r.2)).bind fun d' => match d' with
    | .bl true => (f4 r.2).bind fun w => (g'' (r.1.res w.2) (w.1.res w.2)).bind fun d'' => some (.v d'', w.2)
    | .bl false => some (.v (.bl false), r.2)
    | _ => none
  | .bl false => some (.v (.bl false), q.2)
  | _ => none
theorem tChain3_of {r r' r'' : R2} {g g' g'' : D → D → Option D} {f1 f2 f3 f4 : Ef} (o : OpD X r g) (o' : OpD X r' g') (o'' : OpD X r'' g'') : ∀ σ H Q, tD X τ (eChain3 g g' g'' f1 f2 f3 f4) σ H Q → tChain3 r r' r'' (tD X τ f1) (tD X τ f2) (tD X τ f3) (tD X τ f4) σ H Q := fun σ H Q ⟨R, ρ, fs, h, ρ', s, e, k⟩ => by
  unfold eChain3 at e
  obtain ⟨p, h1, e⟩ := bindO e
  obtain ⟨q, h2, e⟩ := bindO e
  obtain ⟨d, h3, e⟩ := bindO e
  refine two s h1 h2 fun v1 v2 H' fs' t s' r1 r2 => ?_
  refine o (R ++ fs') H' _ _ _ v1 v2 _ s'.own (s'.res r1) (s'.res r2) h3 fun v H2 g2 rf => ?_
  cases d with
  | bl kk =>
    cases rf
    cases kk with
    | false =>
      cases e
      exact ⟨false, rfl, iteF (k _ H2 fs' (t.trans (Step.grow g2 _)) (s'.grow g2) (.bl _))⟩
    | true =>
      obtain ⟨w, h4, e⟩ := bindO e
      obtain ⟨d', h5, e⟩ := bindO e
      refine ⟨true, rfl, iteT ⟨R, q.2, fs', w.1, w.2, s'.grow g2, h4, fun v3 H3 fs3 t3 s3 r3 => ?_⟩⟩
      have r2' := s3.res ((s'.grow g2).holdH t3 (s'.holdH (Step.grow g2 fs') r2))
      refine o' (R ++ fs3) H3 _ _ _ v2 v3 _ s3.own r2' (s3.res r3) h5 fun v4 H4 g4 rf4 => ?_
      cases d' with
      | bl k2 =>
        cases rf4
        cases k2 with
        | false =>
          cases e
          exact ⟨false, rfl, iteF (k _ H4 fs3 ((t.trans (Step.grow g2 _)).trans (t3.trans (Step.grow g4 _))) (s3.grow g4) (.bl _))⟩
        | true =>
          obtain ⟨y, h6, e⟩ := bindO e
          obtain ⟨d2, h7, e⟩ := bindO e
          cases e
          refine ⟨true, rfl, iteT ⟨R, w.2, fs3, y.1, y.2, s3.grow g4, h6, fun v5 H5 fs5 t5 s5 r5 => ?_⟩⟩
          have r3' := s5.res ((s3.grow g4).holdH t5 (s3.holdH (Step.grow g4 fs3) r3))
          refine o'' (R ++ fs5) H5 _ _ _ v3 v5 Q s5.own r3' (s5.res r5) h7 fun v6 H6 g6 rf6 => ?_
          exact k v6 H6 fs5 ((t.trans (Step.grow g2 _)).trans ((t3.trans (Step.grow g4 _)).trans (t5.trans (Step.grow g6 _)))) (s5.grow g6) rf6
      | _ => cases e
  | _ => cases e
theorem de_chain3 {op op' op'' : CmpOp} {r r' r'' : R2} {g g' g'' : D → D → Option D} {f1 f2 f3 f4 : Ef} (ho : OpR X (compareOp op) r) (o : OpD X r g) (ho' : OpR X (compareOp op') r') (o' : OpD X r' g') (ho'' : OpR X (compareOp op'') r'') (o'' : OpD X r'' g'') (ha : DE X a τ f1) (hb : DE X b τ f2) (hc : DE X c τ f3) (hd : DE X d τ f4)
    (hm : lastMarks [op, op', op''] [b, c, d] = false := by with_unfolding_all rfl) : DE X (.Compare a [op, op', op''] [b, c, d] pos) τ (eChain3 g g' g'' f1 f2 f3 f4) := pe_imp (pe_chain3 ho ho' ho'' ha hb hc hd hm) (tChain3_of o o' o'')
theorem dt_chain3 {op op' op'' : CmpOp} {r r' r'' : R2} {g g' g'' : D → D → Option D} {f1 f2 f3 f4 : Ef} (ho : OpR X (compareOp op) r) (o : OpD X r g) (ho' : OpR X (compareOp op') r') (o' : OpD X r' g') (ho'' : OpR X (compareOp op'') r'') (o'' : OpD X r'' g'') (ha : DE X a τ f1) (hb : DE X b τ f2) (hc : DE X c τ f3) (hd : DE X d τ f4)
    (hm : lastMarks [op, op', op''] [b, c, d] = false := by with_unfolding_all rfl) : DT X (.Compare a [op, op', op''] [b, c, d] pos) τ (tBl (eChain3 g g' g'' f1 f2 f3 f4)) := pt_imp (pt_chain3 ho ho' ho'' ha hb hc hd hm) (tTest_of (tChain3_of o o' o''))
/-! ### functions of a module -/
theorem de_callF {r : List V → Hp → VK → Prop} {g : List D → Option D} {f : Af} (hc : CallR X (.builtin id) r) (o : CaD X r g) (hg : Gl X x) (hm : X.mg x = some (.builtin id)) (ha : DA X (e :: es) τ f) (hdb : (x == ("__debug__" : Str)) = false := by decide)
    (he : starEach (e :: es) X.env = (false, eval e X.env) :: starEach es X.env := by rfl) (hpl : (backTo pos (starEach es X.env)).any (·.1) = false := by rfl) : DE X (.Call (.Name x p) (e :: es) [] pos) τ (eCa g f) := pe_imp (pe_callBfun hc hg hm ha hdb he hpl) (tCB_of o)
def gcdD : D → D → Option D
  | .int i, .int j => some (.int ((Nat.gcd i.natAbs j.natAbs : Nat) : Int))
  | _, _ => none
theorem ca_gcd : CaD X rGcd (f2 gcdD) := ca2 fun S H d1 d2 d v1 v2 Q al r1 r2 e q => by
  cases d1 <;> cases d2 <;> first | (cases e; done) | skip
  cases e
  rw [r1.int_inv, r2.int_inv]
  exact ⟨_, _, rfl, q _ H (Grow.refl H) (.int _)⟩
def lcm3D : List D → Option D
  | [.int i, .int j, .int k] => if decide (i.natAbs < 1000000) && decide (j.natAbs < 1000000) && decide (k.natAbs < 1000000) then some (.int (((i.natAbs.lcm j.natAbs).lcm k.natAbs : Nat) : Int)) else none
  | _ => none
theorem ca_lcm3 : CaD X rLcm3 lcm3D := fun S H ds d vs Q al r1 e q => by
  unfold lcm3D at e
  split at e
  · obtain ⟨h, e⟩ := ifSome' e
    cases e
    simp only [Bool.and_eq_true, decide_eq_true_eq] at h
    obtain ⟨⟨h1, h2⟩, h3⟩ := h
    cases r1 with
    | cons r1 r =>
      obtain ⟨v, w, rfl, r2, r3⟩ := r.two
      rw [r1.int_inv, r2.int_inv, r3.int_inv]
      exact ⟨_, _, _, rfl, h1, h2, h3, q _ H (Grow.refl H) (.int _)⟩
  · cases e
end
end TL

set_option maxHeartbeats 2000000
namespace L2
open PySem PySem.Spec PyProof.Rows
section
variable {X : Cx} {a b c e : Expr} {p pos p2 pos2 : Pos}
/-- the ints a, a - 1, .. , b + 1 -/
def rgDn (a b : Int) : List V := (List.range (a - b).toNat).map fun i => V.int (a - (i : Nat))
def DnOk (a b : Int) : Prop := -(2 ^ 62) ≤ a ∧ a < 2 ^ 62 ∧ -(2 ^ 62) ≤ b ∧ b < 2 ^ 62 ∧ (a - b).toNat ≤ 2 ^ 24
def tLstDn (ta : TA) : TE := fun σ H Q => ta σ H fun vs H1 => ∃ i j, vs = [.int i, .int j, .int (-1)] ∧ DnOk i j ∧ ∀ q, H1 q = none → Q (.ref q) (upd H1 q (.lst (rgDn i j)))
theorem vals_dn {a b : Int} {acc : Array Value} (h : ItemsOf (fun i v => ∃ t, v = .int (a + i * (-1)) t) acc (a - b).toNat) : Vals (rgDn a b) acc.toList := by
  have e : acc.toList.length = (a - b).toNat := by rw [Array.length_toList]; exact h.1
  unfold rgDn
  rw [← e]
  refine vals_of_get acc.toList _ fun j u hj => ?_
  obtain ⟨t, rfl⟩ := h.2 j u (by rw [← hj, Array.getElem?_toList])
  exact ⟨t, by congr 1; omega⟩
theorem pe_listDn {ta : TA} (hc : X.calm = true) (hgl : Gl X "list") (hml : X.mg "list" = none) (hg : Gl X "range") (hm : X.mg "range" = none) (ha : PA X [a, b, c] ta)
    (na : starEach [.Call (.Name "range" p) [a, b, c] [] pos] X.env = (false, eval (.Call (.Name "range" p) [a, b, c] [] pos) X.env) :: starEach [] X.env := by rfl)
    (hs : starEach [a, b, c] X.env = (false, eval a X.env) :: starEach [b, c] X.env := by rfl) (hpl : (backTo pos (starEach [b, c] X.env)).any (·.1) = false := by rfl) :
    PE X (.Call (.Name "list" p2) [.Call (.Name "range" p) [a, b, c] [] pos] [] pos2) (tLstDn ta) := by
  refine ⟨fun pins s σ H Q I h => ?_⟩
  have key : wpAny (model X.prog X.w) X.A (eval (.Call (.Name "range" p) [a, b, c] [] pos) X.env) (fun x s1 => ∃ r i j t u v H1, x = .ref r ∧ IsRange s1.heap r i j (-1) t u v ∧ Inv X pins σ H1 s1 ∧ DnOk i j ∧ ∀ q, H1 q = none → Q (.ref q) (upd H1 q (.lst (rgDn i j)))) X.xe s := by
    refine Call_ (ld_blt I hg hm boot_range (PyProof.Rows.callWith_type1 (thn (ha.run pos pins s σ H _ I h) fun us s1 ⟨vs, H1, I1, r1, q1⟩ => ?_) hs hpl))
    obtain ⟨i, j, rfl, ok, q⟩ := q1
    cases r1 with
    | cons r rr =>
      cases rr with
      | cons r' rr =>
        cases rr with
        | cons r'' rr =>
        cases rr
        obtain ⟨t1, rfl⟩ := r
        obtain ⟨t2, rfl⟩ := r'
        obtain ⟨t3, rfl⟩ := r''
        refine call_range_3 (by decide) ?_ (.inl (PyProof.noPylong_small (by decide)))
        exact ⟨_, i, j, _, _, _, H1, rfl, IsRange.new _ _ _ _ _ _ _, I1.kept fun b u e => Heap.get?_push_of_some _ e, ok, q⟩
  refine Call_ (ld_blt I hgl hml boot_list (PyProof.Rows.callWith_type1 (args_cons (thn key fun x s1 ⟨r, i, j, t, u, v, H1, ex, hr, I1, ok, q⟩ => args_nil ?_) na) na))
  subst ex
  obtain ⟨b1, b2, b3, b4, b5⟩ := ok
  refine call_list_range (n := (i - j).toNat) (I1.ok.hd hc) hr (PySem.W.small_down b1 b2 b3 b4) (PySem.W.rangeSize_downNat i j) b5 fun h' tk acc c' hk e' hi => ?_
  refine ⟨.ref s1.heap.objs.size, upd H1 s1.heap.objs.size (.lst (rgDn i j)), I1.laid hk (Nat.le_refl _) (show ObjOk X.prog X.w _ _ _ (.lst (rgDn i j)) from ⟨?_, acc.toList, c', vals_dn hi, ?_⟩), rfl, q _ (I1.hok.fresh (Nat.le_refl _))⟩
  · unfold rgDn; rw [List.length_map, List.length_range, sizeLine_eq]; omega
  · rw [Array.toArray_toList]; exact e'
end
end L2
namespace TL
open PySem PySem.Spec PyProof.Rows L2
section
variable {X : Cx} {τ : List Ty} {a b c d e : Expr} {es : List Expr} {p pos p2 pos2 : Pos}
def dnsD (a : Int) (n : Nat) : List D := (List.range n).map fun i : Nat => D.int (a - (i : Int))
def oRgDn (f : Af) : Of := fun ρ => (f ρ).bind fun p => match p.1 with
  | [.v (.int i), .v (.int j), .v (.int (-1))] => if small62 i && small62 j && okLen (i - j).toNat then some (.lst (dnsD i (i - j).toNat), p.2) else none
  | _ => none
theorem rfs_dns {K : PySem.W.Frag} {mg : Str → Option Value} {G : Hp} (lo : Int) (n : Nat) : Rfs K mg G (dnsD lo n) ((List.range n).map fun i => V.int (lo - (i : Nat))) := by
  have h1 : dnsD lo n = ((List.range n).map fun i : Nat => lo - (i : Int)).map D.int := by unfold dnsD; rw [List.map_map]; rfl
  have h2 : ((List.range n).map fun i => V.int (lo - (i : Nat))) = ((List.range n).map fun i : Nat => lo - (i : Int)).map V.int := by rw [List.map_map]; rfl
  rw [h1, h2]
  exact Rfs.of_ints _
theorem do_rgDn {f : Af} (hc : X.calm = true) (hgl : Gl X "list") (hml : X.mg "list" = none) (hg : Gl X "range") (hm : X.mg "range" = none) (ha : DA X [a, b, c] τ f)
    (na : starEach [.Call (.Name "range" p) [a, b, c] [] pos] X.env = (false, eval (.Call (.Name "range" p) [a, b, c] [] pos) X.env) :: starEach [] X.env := by rfl)
    (hs : starEach [a, b, c] X.env = (false, eval a X.env) :: starEach [b, c] X.env := by rfl) (hpl : (backTo pos (starEach [b, c] X.env)).any (·.1) = false := by rfl) :
    DO X (.Call (.Name "list" p2) [.Call (.Name "range" p) [a, b, c] [] pos] [] pos2) τ (oRgDn f) (.oL .sh) := pe_imp (pe_listDn hc hgl hml hg hm ha na hs hpl) fun σ H Q ⟨R, ρ, fs, d, ρ', s, e, q⟩ => by
  obtain ⟨w, e1, e2⟩ := bindO e
  obtain ⟨w1, w2⟩ := w
  simp only at e2
  split at e2
  · rename_i i j
    obtain ⟨e3, e4⟩ := ifSome' e2
    cases e4
    rw [Bool.and_eq_true, Bool.and_eq_true] at e3
    refine ⟨R, ρ, fs, _, _, s, e1, fun vs H1 fs1 t1 s1 r1 => ?_⟩
    cases r1 with
    | cons r rs =>
      cases rs with
      | cons r' rs =>
        cases rs with
        | cons r2 rs =>
          cases r; cases r'; cases r2
          cases rs
          have h1 := small62_of e3.1.1
          have h2 := small62_of e3.1.2
          refine ⟨i, j, rfl, ⟨h1.1, h1.2, h2.1, h2.2, ?_⟩, fun a0 ha0 => ?_⟩
          · have := okLen_le e3.2
            rw [sizeLine_eq] at this
            omega
          · obtain ⟨n1, n2, n3⟩ := s1.newL ha0 (rfs_dns (mg := X.mg) i (i - j).toNat)
            exact q _ _ fs1 [a0] (t1.trans n3) n1 n2
  · cases e2
end
end TL

namespace K97
open PySem PySem.Spec PyProof.Rows L2 TL
-- printed by gen.py from the linked text
def nT : Nat := 1000
def topS (i : Nat) : Stmt := PySem.Challenge.pw_farcall_k97_deeds_aboard_in_sight.main.body.getD i (.Pass ⟨0, 0, 0, 0⟩)
/-! ### _law_draw(script): slots 0 script -/
abbrev s__law_draw : Stmt := topS 38
theorem sc__law_draw : FnScope ["script"] ["script"] (defScope s__law_draw) := ⟨rfl, rfl, rfl, by decide +kernel, rfl, by decide +kernel, by decide +kernel⟩
def b__law_draw : Sf := (sRetO (oLst (aCons (eF (oCa (f1L listD) (aCons (eVar 0) aNil))) (aCons (eC (.int 0)) (aCons (eC (.int 0)) (aCons (eC (.int 17)) aNil))))))
abbrev sg__law_draw : Sg := ⟨[.sh], (.oL .sh)⟩
abbrev ps__law_draw : List Str := ["script"]
theorem c__law_draw {P : Program} {w : World} {K : PySem.W.Frag} {mg : Str → Option Value} {base : Heap} {f : Addr} {fd : FuncData} {k : Nat} (D : Dfn K mg "_law_draw" s__law_draw ps__law_draw f fd) (z_list : mg "list" = none) :
    Cal P w K mg base f fd "_law_draw" (k + 1) ps__law_draw sg__law_draw (runF (b__law_draw) 1 0) := by
  unfold b__law_draw 
  exact cal_ok (sg := sg__law_draw) (τ' := [.no]) D sc__law_draw ⟨[], (.oL .sh), [.no], [], []⟩ 0 rfl rfl rfl rfl rfl rfl (.inr (by repeat first | exact nn_ret | exact nn_retO | exact nn_retX | exact nn_retN | apply nn_seq | apply nn_if)) fun cdv A outer s H E hr => (dss_one (ds_retO (do_lst (da_cons (de_F (do_callTy call_list_of co_list (by rfl) z_list bt_list (da_cons (de_var 0 (pv 0)) da_nil))) (da_cons de_int (da_cons de_int (da_cons de_int da_nil)))))))
def F__law_draw : Fm := runF b__law_draw 1 0
/-! ### _law_low(number, by): slots 0 number 1 by 2 one 3 two -/
abbrev s__law_low : Stmt := topS 41
theorem sc__law_low : FnScope ["number", "by", "one", "two"] ["number", "by"] (defScope s__law_low) := ⟨rfl, rfl, rfl, by decide +kernel, rfl, by decide +kernel, by decide +kernel⟩
def q1__law_low : Sf := (sPar 2 3 (lCons (oE (eVar 3)) (lCons (oE (eBin dMod (eVar 2) (eVar 3))) lNil)))
def b__law_low : Sf := (sSeq (sIf (tBl (eBin dLt (eVar 1) (eC (.int 0)))) (sPar 0 1 (lCons (oE (eBin dSub (eC (.int 0)) (eVar 0))) (lCons (oE (eBin dSub (eC (.int 0)) (eVar 1))) lNil))) sNil) (sSeq (sPar 2 3 (lCons (oE (eCa (f1 absD) (aCons (eVar 0) aNil))) (lCons (oE (eVar 1)) lNil))) (sSeq (sWhile nT [] (tBl (eBin dGt (eVar 3) (eC (.int 0)))) q1__law_low) (sRet (eTup (aCons (eBin dDiv (eVar 0) (eVar 2)) (aCons (eBin dDiv (eVar 1) (eVar 2)) aNil)))))))
abbrev sg__law_low : Sg := ⟨[.sh, .sh], .sh⟩
abbrev ps__law_low : List Str := ["number", "by"]
theorem c__law_low {P : Program} {w : World} {K : PySem.W.Frag} {mg : Str → Option Value} {base : Heap} {f : Addr} {fd : FuncData} {k : Nat} (D : Dfn K mg "_law_low" s__law_low ps__law_low f fd) (z_abs : mg "abs" = none) :
    Cal P w K mg base f fd "_law_low" (k + 1) ps__law_low sg__law_low (runF (b__law_low) 2 2) := by
  unfold b__law_low q1__law_low
  exact cal_ok (sg := sg__law_low) (τ' := [.no, .no, .no, .no]) D sc__law_low ⟨[], .sh, [.no, .no, .no, .no], [], []⟩ 2 rfl rfl rfl rfl rfl rfl (.inl rfl) fun cdv A outer s H E hr => (dss_cons (ds_if (dt_cmp op_lt od_lt (de_var 1 (pv 1)) de_int (nomark _)) (dss_one (ds_par 0 1 rfl sc__law_low.nd rfl rfl rfl rfl (dl_cons (do_E (de_bin op_sub od_sub de_int (de_var 0 (pv 0)))) (dl_cons (do_E (de_bin op_sub od_sub de_int (de_var 1 (pv 1)))) dl_nil)) rfl)) dss_nil) (dss_cons (ds_par 2 3 rfl sc__law_low.nd rfl rfl rfl rfl (dl_cons (do_E (de_callB call_abs ca_abs (by rfl) z_abs bt_abs (da_cons (de_var 0 (pv 0)) da_nil))) (dl_cons (do_E (de_var 1 (pv 1))) dl_nil)) rfl) (dss_cons (ds_while (tbk := [.sh, .sh, .sh, .sh]) (tct := [.sh, .sh, .sh, .sh]) nT [] PassesOwn.never (dt_cmp op_gt od_gt (de_var 3 (pv 3)) de_int (nomark _)) (dss_one (ds_par 2 3 rfl sc__law_low.nd rfl rfl rfl rfl (dl_cons (do_E (de_var 3 (pv 3))) (dl_cons (do_E (de_bin op_mod od_mod (de_var 2 (pv 2)) (de_var 3 (pv 3)))) dl_nil)) rfl))) (dss_one (ds_ret (de_tup (da_cons (de_bin op_fdivW od_div (de_var 0 (pv 0)) (de_var 2 (pv 2))) (da_cons (de_bin op_fdivW od_div (de_var 1 (pv 1)) (de_var 2 (pv 2))) da_nil))))))))
def F__law_low : Fm := runF b__law_low 2 2
/-! ### _law_add(one, two): slots 0 one 1 two -/
abbrev s__law_add : Stmt := topS 42
theorem sc__law_add : FnScope ["one", "two"] ["one", "two"] (defScope s__law_add) := ⟨rfl, rfl, rfl, by decide +kernel, rfl, by decide +kernel, by decide +kernel⟩
def b__law_add : Sf := (sRet (eF (oCall F__law_low (aCons (eBin dAdd (eBin dMul (eBin dIx (eVar 0) (eC (.int 0))) (eBin dIx (eVar 1) (eC (.int 1)))) (eBin dMul (eBin dIx (eVar 1) (eC (.int 0))) (eBin dIx (eVar 0) (eC (.int 1))))) (aCons (eBin dMul (eBin dIx (eVar 0) (eC (.int 1))) (eBin dIx (eVar 1) (eC (.int 1)))) aNil)))))
abbrev sg__law_add : Sg := ⟨[.sh, .sh], .sh⟩
abbrev ps__law_add : List Str := ["one", "two"]
theorem c__law_add {P : Program} {w : World} {K : PySem.W.Frag} {mg : Str → Option Value} {base : Heap} {f : Addr} {fd : FuncData} {k : Nat} (D : Dfn K mg "_law_add" s__law_add ps__law_add f fd) {f__law_low : Addr} {fd__law_low : FuncData} (c__law_low : Cal P w K mg base f__law_low fd__law_low "_law_low" k ps__law_low sg__law_low F__law_low) :
    Cal P w K mg base f fd "_law_add" (k + 1) ps__law_add sg__law_add (runF (b__law_add) 2 0) := by
  unfold b__law_add 
  exact cal_ok (sg := sg__law_add) (τ' := [.no, .no]) D sc__law_add ⟨[], .sh, [.no, .no], [], []⟩ 0 rfl rfl rfl rfl rfl rfl (.inl rfl) fun cdv A outer s H E hr => (dss_one (ds_ret (de_F (do_fn c__law_low hr 2 (by rfl) (da_cons (de_bin op_addD od_add (de_bin op_mulD od_mul (de_ix ix_seq od_ix (de_var 0 (pv 0)) de_int (fun _ _ => rfl)) (de_ix ix_seq od_ix (de_var 1 (pv 1)) de_int (fun _ _ => rfl))) (de_bin op_mulD od_mul (de_ix ix_seq od_ix (de_var 1 (pv 1)) de_int (fun _ _ => rfl)) (de_ix ix_seq od_ix (de_var 0 (pv 0)) de_int (fun _ _ => rfl)))) (da_cons (de_bin op_mulD od_mul (de_ix ix_seq od_ix (de_var 0 (pv 0)) de_int (fun _ _ => rfl)) (de_ix ix_seq od_ix (de_var 1 (pv 1)) de_int (fun _ _ => rfl))) da_nil))))))
def F__law_add : Fm := runF b__law_add 2 0
/-! ### _law_next(draw, many): slots 0 draw 1 many 2 found 3 cell -/
abbrev s__law_next : Stmt := topS 39
theorem sc__law_next : FnScope ["draw", "many", "found", "cell"] ["draw", "many"] (defScope s__law_next) := ⟨rfl, rfl, rfl, by decide +kernel, rfl, by decide +kernel, by decide +kernel⟩
def b__law_next : Sf := (sSeq (sIf (tBl (eBin dGt (eBin dIx (eOwn 0) (eC (.int 2))) (eC (.int 0)))) (sSeq (sAsg (eBin dMod (eCa (f1 intD) (aCons (eBin dIx (eOwn 0) (eC (.int 2))) aNil)) (eVar 1)) (gNm 2)) (sSeq (sSetIx 0 (eBin dDiv (eBin dIx (eOwn 0) (eC (.int 2))) (eVar 1)) (eC (.int 2))) (sRet (eVar 2)))) sNil) (sSeq (sIf (tBl (eBin dLt (eBin dIx (eOwn 0) (eC (.int 1))) (eCa (f1 lenD) (aCons (eBin dIx (eOwn 0) (eC (.int 0))) aNil)))) (sKl [3] (sSeq (sAsg (eCa (f1 absD) (aCons (eBin dIx (eBin dIx (eOwn 0) (eC (.int 0))) (eBin dIx (eOwn 0) (eC (.int 1)))) aNil)) (gNm 3)) (sSeq (sSetIx 0 (eBin dAdd (eBin dIx (eOwn 0) (eC (.int 1))) (eC (.int 1))) (eC (.int 1))) (sSeq (sIf (tBl (eBin dGe (eVar 3) (eBin dPow (eC (.int 10)) (eC (.int 18))))) (sSeq (sSetIx 0 (eBin dDiv (eVar 3) (eVar 1)) (eC (.int 2))) (sRet (eBin dMod (eCa (f1 intD) (aCons (eVar 3) aNil)) (eVar 1)))) sNil) (sSetIx 0 (eBin dMod (eCa (f1 intD) (aCons (eBin dAdd (eBin dAdd (eBin dMul (eBin dIx (eOwn 0) (eC (.int 3))) (eC (.int 48271))) (eVar 3)) (eC (.int 11))) aNil)) (eC (.int 2147483647))) (eC (.int 3))))))) (sSetIx 0 (eBin dMod (eCa (f1 intD) (aCons (eBin dAdd (eBin dMul (eBin dIx (eOwn 0) (eC (.int 3))) (eC (.int 48271))) (eC (.int 12345))) aNil)) (eC (.int 2147483647))) (eC (.int 3)))) (sRet (eBin dMod (eBin dDiv (eCa (f1 intD) (aCons (eBin dMod (eBin dMul (eBin dIx (eOwn 0) (eC (.int 3))) (eC (.int 69621))) (eC (.int 2147483629))) aNil)) (eC (.int 7))) (eVar 1)))))
abbrev sg__law_next : Sg := ⟨[(.oL .sh), .sh], .sh⟩
abbrev ps__law_next : List Str := ["draw", "many"]
theorem c__law_next {P : Program} {w : World} {K : PySem.W.Frag} {mg : Str → Option Value} {base : Heap} {f : Addr} {fd : FuncData} {k : Nat} (D : Dfn K mg "_law_next" s__law_next ps__law_next f fd) (z_int : mg "int" = none) (z_len : mg "len" = none) (z_abs : mg "abs" = none) :
    Cal P w K mg base f fd "_law_next" (k + 1) ps__law_next sg__law_next (runF (b__law_next) 2 2) := by
  unfold b__law_next 
  exact cal_ok (sg := sg__law_next) (τ' := [(.oL .sh), .no, .no, .no]) D sc__law_next ⟨[0], .sh, [(.oL .sh), .no, .no, .no], [], []⟩ 2 rfl rfl rfl rfl rfl rfl (.inl rfl) fun cdv A outer s H E hr => (dss_cons (ds_if (dt_cmp op_gt od_gt (de_ix ix_seq od_ix (de_own 0 (pv 0)) de_int (fun _ _ => rfl)) de_int (nomark _)) (dss_cons (ds_set 2 sc__law_next.nd rfl (by first | exact .inl rfl | exact .inr rfl) (de_bin op_mod od_mod (de_callTy call_int1 ca_int (by rfl) z_int bt_int (da_cons (de_ix ix_seq od_ix (de_own 0 (pv 0)) de_int (fun _ _ => rfl)) da_nil)) (de_var 1 (pv 1)))) (dss_cons (ds_setix 0 (de_bin op_fdivW od_div (de_ix ix_seq od_ix (de_own 0 (pv 0)) de_int (fun _ _ => rfl)) (de_var 1 (pv 1))) (pv 0) de_int) (dss_one (ds_ret (de_var 2 (pv 2)))))) dss_nil) (dss_cons (ds_if (dt_cmp op_lt od_lt (de_ix ix_seq od_ix (de_own 0 (pv 0)) de_int (fun _ _ => rfl)) (de_callB call_len ca_len (by rfl) z_len bt_len (da_cons (de_ix ix_seq od_ix (de_own 0 (pv 0)) de_int (fun _ _ => rfl)) da_nil)) (nomark _)) (dss_kill [3] (dss_cons (ds_set 3 sc__law_next.nd rfl (by first | exact .inl rfl | exact .inr rfl) (de_callB call_abs ca_abs (by rfl) z_abs bt_abs (da_cons (de_ix ix_seq od_ix (de_ix ix_seq od_ix (de_own 0 (pv 0)) de_int (fun _ _ => rfl)) (de_ix ix_seq od_ix (de_own 0 (pv 0)) de_int (fun _ _ => rfl)) (fun _ _ => rfl)) da_nil))) (dss_cons (ds_setix 0 (de_bin op_addD od_add (de_ix ix_seq od_ix (de_own 0 (pv 0)) de_int (fun _ _ => rfl)) de_int) (pv 0) de_int) (dss_cons (ds_if (dt_cmp op_ge od_ge (de_var 3 (pv 3)) (de_bin op_pow od_pow de_int de_int) (nomark _)) (dss_cons (ds_setix 0 (de_bin op_fdivW od_div (de_var 3 (pv 3)) (de_var 1 (pv 1))) (pv 0) de_int) (dss_one (ds_ret (de_bin op_mod od_mod (de_callTy call_int1 ca_int (by rfl) z_int bt_int (da_cons (de_var 3 (pv 3)) da_nil)) (de_var 1 (pv 1)))))) dss_nil) (dss_one (ds_setix 0 (de_bin op_mod od_mod (de_callTy call_int1 ca_int (by rfl) z_int bt_int (da_cons (de_bin op_addD od_add (de_bin op_addD od_add (de_bin op_mulD od_mul (de_ix ix_seq od_ix (de_own 0 (pv 0)) de_int (fun _ _ => rfl)) de_int) (de_var 3 (pv 3))) de_int) da_nil)) de_int) (pv 0) de_int)))))) (dss_one (ds_setix 0 (de_bin op_mod od_mod (de_callTy call_int1 ca_int (by rfl) z_int bt_int (da_cons (de_bin op_addD od_add (de_bin op_mulD od_mul (de_ix ix_seq od_ix (de_own 0 (pv 0)) de_int (fun _ _ => rfl)) de_int) de_int) da_nil)) de_int) (pv 0) de_int))) (dss_one (ds_ret (de_bin op_mod od_mod (de_bin op_fdivW od_div (de_callTy call_int1 ca_int (by rfl) z_int bt_int (da_cons (de_bin op_mod od_mod (de_bin op_mulD od_mul (de_ix ix_seq od_ix (de_own 0 (pv 0)) de_int (fun _ _ => rfl)) de_int) de_int) da_nil)) de_int) (de_var 1 (pv 1)))))))
def F__law_next : Fm := runF b__law_next 2 2
/-! ### _law_fraction(draw, most): slots 0 draw 1 most -/
abbrev s__law_fraction : Stmt := topS 47
theorem sc__law_fraction : FnScope ["draw", "most"] ["draw", "most"] (defScope s__law_fraction) := ⟨rfl, rfl, rfl, by decide +kernel, rfl, by decide +kernel, by decide +kernel⟩
def b__law_fraction : Sf := (sRet (eF (oCall F__law_low (aCons (eF (oCallI F__law_next 0 0 (aCons (eOwn 0) (aCons (eVar 1) aNil)))) (aCons (eBin dIx (eF (oLst (aCons (eC (.int 1)) (aCons (eC (.int 1)) (aCons (eC (.int 2)) (aCons (eC (.int 3)) (aCons (eC (.int 4)) aNil))))))) (eF (oCallI F__law_next 0 0 (aCons (eOwn 0) (aCons (eC (.int 5)) aNil))))) aNil)))))
abbrev sg__law_fraction : Sg := ⟨[(.oL .sh), .sh], .sh⟩
abbrev ps__law_fraction : List Str := ["draw", "most"]
theorem c__law_fraction {P : Program} {w : World} {K : PySem.W.Frag} {mg : Str → Option Value} {base : Heap} {f : Addr} {fd : FuncData} {k : Nat} (D : Dfn K mg "_law_fraction" s__law_fraction ps__law_fraction f fd) {f__law_low : Addr} {fd__law_low : FuncData} (c__law_low : Cal P w K mg base f__law_low fd__law_low "_law_low" k ps__law_low sg__law_low F__law_low) {f__law_next : Addr} {fd__law_next : FuncData} (c__law_next : Cal P w K mg base f__law_next fd__law_next "_law_next" k ps__law_next sg__law_next F__law_next) :
    Cal P w K mg base f fd "_law_fraction" (k + 1) ps__law_fraction sg__law_fraction (runF (b__law_fraction) 2 0) := by
  unfold b__law_fraction 
  exact cal_ok (sg := sg__law_fraction) (τ' := [(.oL .sh), .no]) D sc__law_fraction ⟨[0], .sh, [(.oL .sh), .no], [], []⟩ 0 rfl rfl rfl rfl rfl rfl (.inl rfl) fun cdv A outer s H E hr => (dss_one (ds_ret (de_F (do_fn c__law_low hr 2 (by rfl) (da_cons (de_F (do_fnI c__law_next hr 0 0 2 (by rfl) (dai_io 0 (pv 0) (dai_cons (de_var 1 (pv 1)) dai_nil)))) (da_cons (de_ix ix_seq od_ix (de_F (do_lst (da_cons de_int (da_cons de_int (da_cons de_int (da_cons de_int (da_cons de_int da_nil))))))) (de_F (do_fnI c__law_next hr 0 0 2 (by rfl) (dai_io 0 (pv 0) (dai_cons de_int dai_nil)))) (fun _ _ => rfl)) da_nil))))))
def F__law_fraction : Fm := runF b__law_fraction 2 0
/-! ### _law_drift(draw): slots 0 draw 1 low -/
abbrev s__law_drift : Stmt := topS 48
theorem sc__law_drift : FnScope ["draw", "low"] ["draw"] (defScope s__law_drift) := ⟨rfl, rfl, rfl, by decide +kernel, rfl, by decide +kernel, by decide +kernel⟩
def b__law_drift : Sf := (sSeq (sAsg (eF (oCall F__law_low (aCons (eBin dAdd (eC (.int 1)) (eF (oCallI F__law_next 0 0 (aCons (eOwn 0) (aCons (eC (.int 6)) aNil))))) (aCons (eBin dAdd (eC (.int 4)) (eF (oCallI F__law_next 0 0 (aCons (eOwn 0) (aCons (eC (.int 3)) aNil))))) aNil)))) (gNm 1)) (sRet (eTup (aCons (eVar 1) (aCons (eF (oCall F__law_add (aCons (eVar 1) (aCons (eF (oCallI F__law_fraction 0 0 (aCons (eOwn 0) (aCons (eC (.int 3)) aNil)))) aNil)))) aNil)))))
abbrev sg__law_drift : Sg := ⟨[(.oL .sh)], .sh⟩
abbrev ps__law_drift : List Str := ["draw"]
theorem c__law_drift {P : Program} {w : World} {K : PySem.W.Frag} {mg : Str → Option Value} {base : Heap} {f : Addr} {fd : FuncData} {k : Nat} (D : Dfn K mg "_law_drift" s__law_drift ps__law_drift f fd) {f__law_low : Addr} {fd__law_low : FuncData} (c__law_low : Cal P w K mg base f__law_low fd__law_low "_law_low" k ps__law_low sg__law_low F__law_low) {f__law_next : Addr} {fd__law_next : FuncData} (c__law_next : Cal P w K mg base f__law_next fd__law_next "_law_next" k ps__law_next sg__law_next F__law_next) {f__law_add : Addr} {fd__law_add : FuncData} (c__law_add : Cal P w K mg base f__law_add fd__law_add "_law_add" k ps__law_add sg__law_add F__law_add) {f__law_fraction : Addr} {fd__law_fraction : FuncData} (c__law_fraction : Cal P w K mg base f__law_fraction fd__law_fraction "_law_fraction" k ps__law_fraction sg__law_fraction F__law_fraction) :
    Cal P w K mg base f fd "_law_drift" (k + 1) ps__law_drift sg__law_drift (runF (b__law_drift) 1 1) := by
  unfold b__law_drift 
  exact cal_ok (sg := sg__law_drift) (τ' := [(.oL .sh), .no]) D sc__law_drift ⟨[0], .sh, [(.oL .sh), .no], [], []⟩ 1 rfl rfl rfl rfl rfl rfl (.inl rfl) fun cdv A outer s H E hr => (dss_cons (ds_set 1 sc__law_drift.nd rfl (by first | exact .inl rfl | exact .inr rfl) (de_F (do_fn c__law_low hr 2 (by rfl) (da_cons (de_bin op_addD od_add de_int (de_F (do_fnI c__law_next hr 0 0 2 (by rfl) (dai_io 0 (pv 0) (dai_cons de_int dai_nil))))) (da_cons (de_bin op_addD od_add de_int (de_F (do_fnI c__law_next hr 0 0 2 (by rfl) (dai_io 0 (pv 0) (dai_cons de_int dai_nil))))) da_nil))))) (dss_one (ds_ret (de_tup (da_cons (de_var 1 (pv 1)) (da_cons (de_F (do_fn c__law_add hr 2 (by rfl) (da_cons (de_var 1 (pv 1)) (da_cons (de_F (do_fnI c__law_fraction hr 0 0 2 (by rfl) (dai_io 0 (pv 0) (dai_cons de_int dai_nil)))) da_nil)))) da_nil))))))
def F__law_drift : Fm := runF b__law_drift 1 1
/-! ### _law_less_by(one, two): slots 0 one 1 two -/
abbrev s__law_less_by : Stmt := topS 43
theorem sc__law_less_by : FnScope ["one", "two"] ["one", "two"] (defScope s__law_less_by) := ⟨rfl, rfl, rfl, by decide +kernel, rfl, by decide +kernel, by decide +kernel⟩
def b__law_less_by : Sf := (sRet (eF (oCall F__law_low (aCons (eBin dSub (eBin dMul (eBin dIx (eVar 0) (eC (.int 0))) (eBin dIx (eVar 1) (eC (.int 1)))) (eBin dMul (eBin dIx (eVar 1) (eC (.int 0))) (eBin dIx (eVar 0) (eC (.int 1))))) (aCons (eBin dMul (eBin dIx (eVar 0) (eC (.int 1))) (eBin dIx (eVar 1) (eC (.int 1)))) aNil)))))
abbrev sg__law_less_by : Sg := ⟨[.sh, .sh], .sh⟩
abbrev ps__law_less_by : List Str := ["one", "two"]
theorem c__law_less_by {P : Program} {w : World} {K : PySem.W.Frag} {mg : Str → Option Value} {base : Heap} {f : Addr} {fd : FuncData} {k : Nat} (D : Dfn K mg "_law_less_by" s__law_less_by ps__law_less_by f fd) {f__law_low : Addr} {fd__law_low : FuncData} (c__law_low : Cal P w K mg base f__law_low fd__law_low "_law_low" k ps__law_low sg__law_low F__law_low) :
    Cal P w K mg base f fd "_law_less_by" (k + 1) ps__law_less_by sg__law_less_by (runF (b__law_less_by) 2 0) := by
  unfold b__law_less_by 
  exact cal_ok (sg := sg__law_less_by) (τ' := [.no, .no]) D sc__law_less_by ⟨[], .sh, [.no, .no], [], []⟩ 0 rfl rfl rfl rfl rfl rfl (.inl rfl) fun cdv A outer s H E hr => (dss_one (ds_ret (de_F (do_fn c__law_low hr 2 (by rfl) (da_cons (de_bin op_sub od_sub (de_bin op_mulD od_mul (de_ix ix_seq od_ix (de_var 0 (pv 0)) de_int (fun _ _ => rfl)) (de_ix ix_seq od_ix (de_var 1 (pv 1)) de_int (fun _ _ => rfl))) (de_bin op_mulD od_mul (de_ix ix_seq od_ix (de_var 1 (pv 1)) de_int (fun _ _ => rfl)) (de_ix ix_seq od_ix (de_var 0 (pv 0)) de_int (fun _ _ => rfl)))) (da_cons (de_bin op_mulD od_mul (de_ix ix_seq od_ix (de_var 0 (pv 0)) de_int (fun _ _ => rfl)) (de_ix ix_seq od_ix (de_var 1 (pv 1)) de_int (fun _ _ => rfl))) da_nil))))))
def F__law_less_by : Fm := runF b__law_less_by 2 0
/-! ### _law_times(one, two): slots 0 one 1 two -/
abbrev s__law_times : Stmt := topS 44
theorem sc__law_times : FnScope ["one", "two"] ["one", "two"] (defScope s__law_times) := ⟨rfl, rfl, rfl, by decide +kernel, rfl, by decide +kernel, by decide +kernel⟩
def b__law_times : Sf := (sRet (eF (oCall F__law_low (aCons (eBin dMul (eBin dIx (eVar 0) (eC (.int 0))) (eBin dIx (eVar 1) (eC (.int 0)))) (aCons (eBin dMul (eBin dIx (eVar 0) (eC (.int 1))) (eBin dIx (eVar 1) (eC (.int 1)))) aNil)))))
abbrev sg__law_times : Sg := ⟨[.sh, .sh], .sh⟩
abbrev ps__law_times : List Str := ["one", "two"]
theorem c__law_times {P : Program} {w : World} {K : PySem.W.Frag} {mg : Str → Option Value} {base : Heap} {f : Addr} {fd : FuncData} {k : Nat} (D : Dfn K mg "_law_times" s__law_times ps__law_times f fd) {f__law_low : Addr} {fd__law_low : FuncData} (c__law_low : Cal P w K mg base f__law_low fd__law_low "_law_low" k ps__law_low sg__law_low F__law_low) :
    Cal P w K mg base f fd "_law_times" (k + 1) ps__law_times sg__law_times (runF (b__law_times) 2 0) := by
  unfold b__law_times 
  exact cal_ok (sg := sg__law_times) (τ' := [.no, .no]) D sc__law_times ⟨[], .sh, [.no, .no], [], []⟩ 0 rfl rfl rfl rfl rfl rfl (.inl rfl) fun cdv A outer s H E hr => (dss_one (ds_ret (de_F (do_fn c__law_low hr 2 (by rfl) (da_cons (de_bin op_mulD od_mul (de_ix ix_seq od_ix (de_var 0 (pv 0)) de_int (fun _ _ => rfl)) (de_ix ix_seq od_ix (de_var 1 (pv 1)) de_int (fun _ _ => rfl))) (da_cons (de_bin op_mulD od_mul (de_ix ix_seq od_ix (de_var 0 (pv 0)) de_int (fun _ _ => rfl)) (de_ix ix_seq od_ix (de_var 1 (pv 1)) de_int (fun _ _ => rfl))) da_nil))))))
def F__law_times : Fm := runF b__law_times 2 0
/-! ### _law_stamps(draw, drift, many): slots 0 draw 1 drift 2 many 3 k 4 mixed 5 stamp 6 found 7 reading 8 time 9 step 10 rate 11 wide 12 least 13 most 14 at -/
abbrev s__law_stamps : Stmt := topS 50
theorem sc__law_stamps : FnScope ["draw", "drift", "many", "k", "mixed", "stamp", "found", "reading", "time", "step", "rate", "wide", "least", "most", "at"] ["draw", "drift", "many"] (defScope s__law_stamps) := ⟨rfl, rfl, rfl, by decide +kernel, rfl, by decide +kernel, by decide +kernel⟩
def q1__law_stamps : Sf := (sSeq (sAsg (eF (oCallI F__law_next 0 0 (aCons (eOwn 0) (aCons (eC (.int 5)) aNil)))) (gNm 9)) (sSeq (sAsg (eBin dIx (eVar 1) (eF (oCallI F__law_next 0 0 (aCons (eOwn 0) (aCons (eC (.int 2)) aNil))))) (gNm 10)) (sSeq (sPar 8 7 (lCons (oE (eBin dAdd (eVar 8) (eVar 9))) (lCons (oE (eF (oCall F__law_add (aCons (eVar 7) (aCons (eF (oCall F__law_times (aCons (eVar 10) (aCons (eTup (aCons (eVar 9) (aCons (eC (.int 1)) aNil))) aNil)))) aNil))))) lNil))) (sSeq (sAsg (eF (oCallI F__law_fraction 0 0 (aCons (eOwn 0) (aCons (eC (.int 4)) aNil)))) (gNm 11)) (sSeq (sAsg (eIf (tBl (eBin dEq (eF (oCallI F__law_next 0 0 (aCons (eOwn 0) (aCons (eC (.int 2)) aNil)))) (eC (.int 0)))) (eF (oCall F__law_less_by (aCons (eVar 7) (aCons (eVar 11) aNil)))) (eVar 7)) (gNm 12)) (sSeq (sAsg (eF (oCall F__law_add (aCons (eVar 7) (aCons (eF (oCallI F__law_fraction 0 0 (aCons (eOwn 0) (aCons (eC (.int 4)) aNil)))) aNil)))) (gNm 13)) (sSeq (sIf (tBl (eBin dEq (eF (oCallI F__law_next 0 0 (aCons (eOwn 0) (aCons (eC (.int 12)) aNil)))) (eC (.int 0)))) (sPar 12 13 (lCons (oE (eF (oCall F__law_add (aCons (eVar 12) (aCons (eTup (aCons (eC (.int 1)) (aCons (eC (.int 1)) aNil))) aNil))))) (lCons (oE (eF (oCall F__law_add (aCons (eVar 13) (aCons (eTup (aCons (eC (.int 1)) (aCons (eC (.int 1)) aNil))) aNil))))) lNil))) sNil) (sApp 6 (eTup (aCons (eVar 8) (aCons (eVar 12) (aCons (eVar 13) aNil))))))))))))
def q2__law_stamps : Sf := (sSeq (sAsg (eF (oCallI F__law_next 0 0 (aCons (eOwn 0) (aCons (eBin dAdd (eCa (f1 lenD) (aCons (eVar 4) aNil)) (eC (.int 1))) aNil)))) (gNm 14)) (sAsg (eBin dAdd (eBin dAdd (eSl dSl (eVar 4) pNo (pSome (eVar 14))) (eF (oLst (aCons (eVar 5) aNil)))) (eSl dSl (eVar 4) (pSome (eVar 14)) pNo)) (gNm 4)))
def b__law_stamps : Sf := (sSeq (sPar3 6 7 8 (lCons (oLst aNil) (lCons (oE (eF (oCallI F__law_fraction 0 0 (aCons (eOwn 0) (aCons (eC (.int 9)) aNil))))) (lCons (oE (eF (oCallI F__law_next 0 0 (aCons (eOwn 0) (aCons (eC (.int 3)) aNil))))) lNil)))) (sSeq (sFor [3, 9, 10, 11, 12, 13] (TL.iRng1 (aCons (eVar 2) aNil)) (gNm 3) q1__law_stamps) (sSeq (sAsg (eF (oLst aNil)) (gNm 4)) (sSeq (sFor [5, 14] (iSeq (eVar 6)) (gNm 5) q2__law_stamps) (sRet (eCa (f1 tupleD) (aCons (eVar 4) aNil)))))))
abbrev sg__law_stamps : Sg := ⟨[(.oL .sh), .sh, .sh], .sh⟩
abbrev ps__law_stamps : List Str := ["draw", "drift", "many"]
theorem c__law_stamps {P : Program} {w : World} {K : PySem.W.Frag} {mg : Str → Option Value} {base : Heap} {f : Addr} {fd : FuncData} {k : Nat} (D : Dfn K mg "_law_stamps" s__law_stamps ps__law_stamps f fd) {f__law_fraction : Addr} {fd__law_fraction : FuncData} (c__law_fraction : Cal P w K mg base f__law_fraction fd__law_fraction "_law_fraction" k ps__law_fraction sg__law_fraction F__law_fraction) {f__law_next : Addr} {fd__law_next : FuncData} (c__law_next : Cal P w K mg base f__law_next fd__law_next "_law_next" k ps__law_next sg__law_next F__law_next) {f__law_add : Addr} {fd__law_add : FuncData} (c__law_add : Cal P w K mg base f__law_add fd__law_add "_law_add" k ps__law_add sg__law_add F__law_add) {f__law_times : Addr} {fd__law_times : FuncData} (c__law_times : Cal P w K mg base f__law_times fd__law_times "_law_times" k ps__law_times sg__law_times F__law_times) {f__law_less_by : Addr} {fd__law_less_by : FuncData} (c__law_less_by : Cal P w K mg base f__law_less_by fd__law_less_by "_law_less_by" k ps__law_less_by sg__law_less_by F__law_less_by) (z_range : mg "range" = none) (z_len : mg "len" = none) (z_tuple : mg "tuple" = none) :
    Cal P w K mg base f fd "_law_stamps" (k + 1) ps__law_stamps sg__law_stamps (runF (b__law_stamps) 3 12) := by
  unfold b__law_stamps q2__law_stamps q1__law_stamps
  exact cal_ok (sg := sg__law_stamps) (τ' := [(.oL .sh), .no, .no, .no, .no, .no, .no, .no, .no, .no, .no, .no, .no, .no, .no]) D sc__law_stamps ⟨[0], .sh, [(.oL .sh), .no, .no, .no, .no, .no, .no, .no, .no, .no, .no, .no, .no, .no, .no], [], []⟩ 12 rfl rfl rfl rfl rfl rfl (.inl rfl) fun cdv A outer s H E hr => (dss_cons (ds_par3 6 7 8 rfl sc__law_stamps.nd rfl rfl rfl rfl rfl rfl (dl_cons (do_lst da_nil) (dl_cons (do_E (de_F (do_fnI c__law_fraction hr 0 0 2 (by rfl) (dai_io 0 (pv 0) (dai_cons de_int dai_nil))))) (dl_cons (do_E (de_F (do_fnI c__law_next hr 0 0 2 (by rfl) (dai_io 0 (pv 0) (dai_cons de_int dai_nil))))) dl_nil))) rfl) (dss_cons (ds_for (tbk := [(.oL .sh), .sh, .sh, .no, .no, .no, (.oL .sh), .sh, .sh, .no, .no, .no, .no, .no, .no]) (tct := [(.oL .sh), .sh, .sh, .no, .no, .no, (.oL .sh), .sh, .sh, .no, .no, .no, .no, .no, .no]) [3, 9, 10, 11, 12, 13] PassesOwn.never rfl (di_range1 (by rfl) z_range (da_cons (de_var 2 (pv 2)) da_nil)) (dg_name 3 sc__law_stamps.nd rfl (by first | exact .inl rfl | exact .inr rfl)) (dss_cons (ds_set 9 sc__law_stamps.nd rfl (by first | exact .inl rfl | exact .inr rfl) (de_F (do_fnI c__law_next hr 0 0 2 (by rfl) (dai_io 0 (pv 0) (dai_cons de_int dai_nil))))) (dss_cons (ds_set 10 sc__law_stamps.nd rfl (by first | exact .inl rfl | exact .inr rfl) (de_ix ix_seq od_ix (de_var 1 (pv 1)) (de_F (do_fnI c__law_next hr 0 0 2 (by rfl) (dai_io 0 (pv 0) (dai_cons de_int dai_nil)))) (fun _ _ => rfl))) (dss_cons (ds_par 8 7 rfl sc__law_stamps.nd rfl rfl rfl rfl (dl_cons (do_E (de_bin op_addD od_add (de_var 8 (pv 8)) (de_var 9 (pv 9)))) (dl_cons (do_E (de_F (do_fn c__law_add hr 2 (by rfl) (da_cons (de_var 7 (pv 7)) (da_cons (de_F (do_fn c__law_times hr 2 (by rfl) (da_cons (de_var 10 (pv 10)) (da_cons (de_tup (da_cons (de_var 9 (pv 9)) (da_cons de_int da_nil))) da_nil)))) da_nil))))) dl_nil)) rfl) (dss_cons (ds_set 11 sc__law_stamps.nd rfl (by first | exact .inl rfl | exact .inr rfl) (de_F (do_fnI c__law_fraction hr 0 0 2 (by rfl) (dai_io 0 (pv 0) (dai_cons de_int dai_nil))))) (dss_cons (ds_set 12 sc__law_stamps.nd rfl (by first | exact .inl rfl | exact .inr rfl) (de_if (dt_cmp (op_eqD (hu64 hr)) od_eq (de_F (do_fnI c__law_next hr 0 0 2 (by rfl) (dai_io 0 (pv 0) (dai_cons de_int dai_nil)))) de_int (nomark _)) (de_F (do_fn c__law_less_by hr 2 (by rfl) (da_cons (de_var 7 (pv 7)) (da_cons (de_var 11 (pv 11)) da_nil)))) (de_var 7 (pv 7)))) (dss_cons (ds_set 13 sc__law_stamps.nd rfl (by first | exact .inl rfl | exact .inr rfl) (de_F (do_fn c__law_add hr 2 (by rfl) (da_cons (de_var 7 (pv 7)) (da_cons (de_F (do_fnI c__law_fraction hr 0 0 2 (by rfl) (dai_io 0 (pv 0) (dai_cons de_int dai_nil)))) da_nil))))) (dss_cons (ds_if (dt_cmp (op_eqD (hu64 hr)) od_eq (de_F (do_fnI c__law_next hr 0 0 2 (by rfl) (dai_io 0 (pv 0) (dai_cons de_int dai_nil)))) de_int (nomark _)) (dss_one (ds_par 12 13 rfl sc__law_stamps.nd rfl rfl rfl rfl (dl_cons (do_E (de_F (do_fn c__law_add hr 2 (by rfl) (da_cons (de_var 12 (pv 12)) (da_cons (de_tup (da_cons de_int (da_cons de_int da_nil))) da_nil))))) (dl_cons (do_E (de_F (do_fn c__law_add hr 2 (by rfl) (da_cons (de_var 13 (pv 13)) (da_cons (de_tup (da_cons de_int (da_cons de_int da_nil))) da_nil))))) dl_nil)) rfl)) dss_nil) (dss_one (ds_app 6 (pv 6) (de_tup (da_cons (de_var 8 (pv 8)) (da_cons (de_var 12 (pv 12)) (da_cons (de_var 13 (pv 13)) da_nil)))))))))))))) (dss_cons (ds_set 4 sc__law_stamps.nd rfl (by first | exact .inl rfl | exact .inr rfl) (de_F (do_lst da_nil))) (dss_frz 6 (dss_cons (ds_for (tbk := [(.oL .sh), .sh, .sh, .no, .sh, .no, .sh, .sh, .sh, .no, .no, .no, .no, .no, .no]) (tct := [(.oL .sh), .sh, .sh, .no, .sh, .no, .sh, .sh, .sh, .no, .no, .no, .no, .no, .no]) [5, 14] PassesOwn.never rfl (di_seq (de_var 6 (pv 6))) (dg_name 5 sc__law_stamps.nd rfl (by first | exact .inl rfl | exact .inr rfl)) (dss_cons (ds_set 14 sc__law_stamps.nd rfl (by first | exact .inl rfl | exact .inr rfl) (de_F (do_fnI c__law_next hr 0 0 2 (by rfl) (dai_io 0 (pv 0) (dai_cons (de_bin op_addD od_add (de_callB call_len ca_len (by rfl) z_len bt_len (da_cons (de_var 4 (pv 4)) da_nil)) de_int) dai_nil))))) (dss_one (ds_set 4 sc__law_stamps.nd rfl (by first | exact .inl rfl | exact .inr rfl) (de_bin op_addD od_add (de_bin op_addD od_add (de_slice sl_D sd_sl (de_var 4 (pv 4)) dp_no (dp_some (de_var 14 (pv 14)))) (de_F (do_lst (da_cons (de_var 5 (pv 5)) da_nil)))) (de_slice sl_D sd_sl (de_var 4 (pv 4)) (dp_some (de_var 14 (pv 14))) dp_no)))))) (dss_one (ds_ret (de_callTy call_tuple_of ca_tuple (by rfl) z_tuple bt_tuple (da_cons (de_var 4 (pv 4)) da_nil)))))))))
def F__law_stamps : Fm := runF b__law_stamps 3 12
/-! ### _law_below(one, two): slots 0 one 1 two -/
abbrev s__law_below : Stmt := topS 45
theorem sc__law_below : FnScope ["one", "two"] ["one", "two"] (defScope s__law_below) := ⟨rfl, rfl, rfl, by decide +kernel, rfl, by decide +kernel, by decide +kernel⟩
def b__law_below : Sf := (sRet (eBin dLt (eBin dMul (eBin dIx (eVar 0) (eC (.int 0))) (eBin dIx (eVar 1) (eC (.int 1)))) (eBin dMul (eBin dIx (eVar 1) (eC (.int 0))) (eBin dIx (eVar 0) (eC (.int 1))))))
abbrev sg__law_below : Sg := ⟨[.sh, .sh], .sh⟩
abbrev ps__law_below : List Str := ["one", "two"]
theorem c__law_below {P : Program} {w : World} {K : PySem.W.Frag} {mg : Str → Option Value} {base : Heap} {f : Addr} {fd : FuncData} {k : Nat} (D : Dfn K mg "_law_below" s__law_below ps__law_below f fd) :
    Cal P w K mg base f fd "_law_below" (k + 1) ps__law_below sg__law_below (runF (b__law_below) 2 0) := by
  unfold b__law_below 
  exact cal_ok (sg := sg__law_below) (τ' := [.no, .no]) D sc__law_below ⟨[], .sh, [.no, .no], [], []⟩ 0 rfl rfl rfl rfl rfl rfl (.inl rfl) fun cdv A outer s H E hr => (dss_one (ds_ret (de_cmp op_lt od_lt (de_bin op_mulD od_mul (de_ix ix_seq od_ix (de_var 0 (pv 0)) de_int (fun _ _ => rfl)) (de_ix ix_seq od_ix (de_var 1 (pv 1)) de_int (fun _ _ => rfl))) (de_bin op_mulD od_mul (de_ix ix_seq od_ix (de_var 1 (pv 1)) de_int (fun _ _ => rfl)) (de_ix ix_seq od_ix (de_var 0 (pv 0)) de_int (fun _ _ => rfl))) (nomark _))))
def F__law_below : Fm := runF b__law_below 2 0
/-! ### _law_ranges(drift, stamps, end): slots 0 drift 1 stamps 2 end 3 turn 4 low 5 high 6 time 7 least 8 most 9 more 10 less_v -/
abbrev s__law_ranges : Stmt := topS 52
theorem sc__law_ranges : FnScope ["drift", "stamps", "end", "turn", "low", "high", "time", "least", "most", "more", "less_v"] ["drift", "stamps", "end"] (defScope s__law_ranges) := ⟨rfl, rfl, rfl, by decide +kernel, rfl, by decide +kernel, by decide +kernel⟩
def q1__law_ranges : Sf := (sSeq (sSetIx 4 (eIf (tOr' (tBl (eBin dIs (eBin dIx (eOwn 4) (eVar 6)) (eC .non))) (tB (eF (oCall F__law_below (aCons (eBin dIx (eOwn 4) (eVar 6)) (aCons (eVar 7) aNil)))))) (eVar 7) (eBin dIx (eOwn 4) (eVar 6))) (eVar 6)) (sSetIx 5 (eIf (tOr' (tBl (eBin dIs (eBin dIx (eOwn 5) (eVar 6)) (eC .non))) (tB (eF (oCall F__law_below (aCons (eVar 8) (aCons (eBin dIx (eOwn 5) (eVar 6)) aNil)))))) (eVar 8) (eBin dIx (eOwn 5) (eVar 6))) (eVar 6)))
def q2__law_ranges : Sf := (sSeq (sIf (tBl (eBin dIsNot (eBin dIx (eOwn 4) (eVar 6)) (eC .non))) (sKl [9] (sSeq (sAsg (eF (oCall F__law_add (aCons (eBin dIx (eOwn 4) (eVar 6)) (aCons (eBin dIx (eVar 0) (eC (.int 0))) aNil)))) (gNm 9)) (sSetIx 4 (eIf (tOr' (tBl (eBin dIs (eBin dIx (eOwn 4) (eBin dAdd (eVar 6) (eC (.int 1)))) (eC .non))) (tB (eF (oCall F__law_below (aCons (eBin dIx (eOwn 4) (eBin dAdd (eVar 6) (eC (.int 1)))) (aCons (eVar 9) aNil)))))) (eVar 9) (eBin dIx (eOwn 4) (eBin dAdd (eVar 6) (eC (.int 1))))) (eBin dAdd (eVar 6) (eC (.int 1)))))) sNil) (sSeq (sIf (tBl (eBin dIsNot (eBin dIx (eOwn 5) (eVar 6)) (eC .non))) (sKl [9] (sSeq (sAsg (eF (oCall F__law_add (aCons (eBin dIx (eOwn 5) (eVar 6)) (aCons (eBin dIx (eVar 0) (eC (.int 1))) aNil)))) (gNm 9)) (sSetIx 5 (eIf (tOr' (tBl (eBin dIs (eBin dIx (eOwn 5) (eBin dAdd (eVar 6) (eC (.int 1)))) (eC .non))) (tB (eF (oCall F__law_below (aCons (eVar 9) (aCons (eBin dIx (eOwn 5) (eBin dAdd (eVar 6) (eC (.int 1)))) aNil)))))) (eVar 9) (eBin dIx (eOwn 5) (eBin dAdd (eVar 6) (eC (.int 1))))) (eBin dAdd (eVar 6) (eC (.int 1)))))) sNil) (sSeq (sIf (tBl (eBin dIsNot (eBin dIx (eOwn 4) (eBin dAdd (eVar 6) (eC (.int 1)))) (eC .non))) (sKl [10] (sSeq (sAsg (eF (oCall F__law_less_by (aCons (eBin dIx (eOwn 4) (eBin dAdd (eVar 6) (eC (.int 1)))) (aCons (eBin dIx (eVar 0) (eC (.int 1))) aNil)))) (gNm 10)) (sSetIx 4 (eIf (tOr' (tBl (eBin dIs (eBin dIx (eOwn 4) (eVar 6)) (eC .non))) (tB (eF (oCall F__law_below (aCons (eBin dIx (eOwn 4) (eVar 6)) (aCons (eVar 10) aNil)))))) (eVar 10) (eBin dIx (eOwn 4) (eVar 6))) (eVar 6)))) sNil) (sIf (tBl (eBin dIsNot (eBin dIx (eOwn 5) (eBin dAdd (eVar 6) (eC (.int 1)))) (eC .non))) (sKl [10] (sSeq (sAsg (eF (oCall F__law_less_by (aCons (eBin dIx (eOwn 5) (eBin dAdd (eVar 6) (eC (.int 1)))) (aCons (eBin dIx (eVar 0) (eC (.int 0))) aNil)))) (gNm 10)) (sSetIx 5 (eIf (tOr' (tBl (eBin dIs (eBin dIx (eOwn 5) (eVar 6)) (eC .non))) (tB (eF (oCall F__law_below (aCons (eVar 10) (aCons (eBin dIx (eOwn 5) (eVar 6)) aNil)))))) (eVar 10) (eBin dIx (eOwn 5) (eVar 6))) (eVar 6)))) sNil))))
def q3__law_ranges : Sf := (sFor [6, 9, 10] (iSeq (eBin dAdd (eF (oRg1 (aCons (eVar 2) aNil))) (eF (oRgDn (aCons (eBin dSub (eVar 2) (eC (.int 1))) (aCons (eUn dNeg (eC (.int 1))) (aCons (eUn dNeg (eC (.int 1))) aNil))))))) (gNm 6) q2__law_ranges)
def b__law_ranges : Sf := (sSeq (sPar 4 5 (lCons (eBinO dMulL (eF (oLst (aCons (eC .non) aNil))) (eBin dAdd (eVar 2) (eC (.int 1)))) (lCons (eBinO dMulL (eF (oLst (aCons (eC .non) aNil))) (eBin dAdd (eVar 2) (eC (.int 1)))) lNil))) (sSeq (sFor [6, 7, 8] (iSeq (eVar 1)) (gTp (gsCons (gNm 6) (gsCons (gNm 7) (gsCons (gNm 8) gsNil)))) q1__law_ranges) (sSeq (sFor [3, 6, 9, 10] (TL.iRng1 (aCons (eC (.int 2)) aNil)) (gNm 3) q3__law_ranges) (sRet (eTup (aCons (eVar 4) (aCons (eVar 5) aNil)))))))
abbrev sg__law_ranges : Sg := ⟨[.sh, .sh, .sh], .sh⟩
abbrev ps__law_ranges : List Str := ["drift", "stamps", "end"]
theorem c__law_ranges {P : Program} {w : World} {K : PySem.W.Frag} {mg : Str → Option Value} {base : Heap} {f : Addr} {fd : FuncData} {k : Nat} (D : Dfn K mg "_law_ranges" s__law_ranges ps__law_ranges f fd) {f__law_below : Addr} {fd__law_below : FuncData} (c__law_below : Cal P w K mg base f__law_below fd__law_below "_law_below" k ps__law_below sg__law_below F__law_below) {f__law_add : Addr} {fd__law_add : FuncData} (c__law_add : Cal P w K mg base f__law_add fd__law_add "_law_add" k ps__law_add sg__law_add F__law_add) {f__law_less_by : Addr} {fd__law_less_by : FuncData} (c__law_less_by : Cal P w K mg base f__law_less_by fd__law_less_by "_law_less_by" k ps__law_less_by sg__law_less_by F__law_less_by) (z_range : mg "range" = none) (z_list : mg "list" = none) :
    Cal P w K mg base f fd "_law_ranges" (k + 1) ps__law_ranges sg__law_ranges (runF (b__law_ranges) 3 8) := by
  unfold b__law_ranges q3__law_ranges q2__law_ranges q1__law_ranges
  exact cal_ok (sg := sg__law_ranges) (τ' := [.no, .no, .no, .no, .no, .no, .no, .no, .no, .no, .no]) D sc__law_ranges ⟨[], .sh, [.no, .no, .no, .no, .no, .no, .no, .no, .no, .no, .no], [], []⟩ 8 rfl rfl rfl rfl rfl rfl (.inl rfl) fun cdv A outer s H E hr => (dss_cons (ds_par 4 5 rfl sc__law_ranges.nd rfl rfl rfl rfl (dl_cons (do_bin op_rep oo_mul (de_F (do_lst (da_cons de_non da_nil))) (de_bin op_addD od_add (de_var 2 (pv 2)) de_int)) (dl_cons (do_bin op_rep oo_mul (de_F (do_lst (da_cons de_non da_nil))) (de_bin op_addD od_add (de_var 2 (pv 2)) de_int)) dl_nil)) rfl) (dss_cons (ds_for (tbk := [.sh, .sh, .sh, .no, (.oL .sh), (.oL .sh), .no, .no, .no, .no, .no]) (tct := [.sh, .sh, .sh, .no, (.oL .sh), (.oL .sh), .no, .no, .no, .no, .no]) [6, 7, 8] PassesOwn.never rfl (di_seq (de_var 1 (pv 1))) (dg_tup rfl (dgs_cons (dg_name 6 sc__law_ranges.nd rfl (by first | exact .inl rfl | exact .inr rfl)) (dgs_cons (dg_name 7 sc__law_ranges.nd rfl (by first | exact .inl rfl | exact .inr rfl)) (dgs_cons (dg_name 8 sc__law_ranges.nd rfl (by first | exact .inl rfl | exact .inr rfl)) dgs_nil))) (gsCons_len (gsCons_len (gsCons_len gsNil_len)))) (dss_cons (ds_setix 4 (de_if (dt_w (dw_or (dt_cmp op_isD od_is (de_ix ix_seq od_ix (de_own 4 (pv 4)) (de_var 6 (pv 6)) (fun _ _ => rfl)) de_non (nomark _)) (dw_or1 (dt_truth (de_F (do_fn c__law_below hr 2 (by rfl) (da_cons (de_ix ix_seq od_ix (de_own 4 (pv 4)) (de_var 6 (pv 6)) (fun _ _ => rfl)) (da_cons (de_var 7 (pv 7)) da_nil)))))))) (de_var 7 (pv 7)) (de_ix ix_seq od_ix (de_own 4 (pv 4)) (de_var 6 (pv 6)) (fun _ _ => rfl))) (pv 4) (de_var 6 (pv 6))) (dss_one (ds_setix 5 (de_if (dt_w (dw_or (dt_cmp op_isD od_is (de_ix ix_seq od_ix (de_own 5 (pv 5)) (de_var 6 (pv 6)) (fun _ _ => rfl)) de_non (nomark _)) (dw_or1 (dt_truth (de_F (do_fn c__law_below hr 2 (by rfl) (da_cons (de_var 8 (pv 8)) (da_cons (de_ix ix_seq od_ix (de_own 5 (pv 5)) (de_var 6 (pv 6)) (fun _ _ => rfl)) da_nil)))))))) (de_var 8 (pv 8)) (de_ix ix_seq od_ix (de_own 5 (pv 5)) (de_var 6 (pv 6)) (fun _ _ => rfl))) (pv 5) (de_var 6 (pv 6)))))) (dss_cons (ds_for (tbk := [.sh, .sh, .sh, .no, (.oL .sh), (.oL .sh), .no, .no, .no, .no, .no]) (tct := [.sh, .sh, .sh, .no, (.oL .sh), (.oL .sh), .no, .no, .no, .no, .no]) [3, 6, 9, 10] PassesOwn.never rfl (di_range1 (by rfl) z_range (da_cons de_int da_nil)) (dg_name 3 sc__law_ranges.nd rfl (by first | exact .inl rfl | exact .inr rfl)) (dss_one (ds_for (tbk := [.sh, .sh, .sh, .sh, (.oL .sh), (.oL .sh), .no, .no, .no, .no, .no]) (tct := [.sh, .sh, .sh, .sh, (.oL .sh), (.oL .sh), .no, .no, .no, .no, .no]) [6, 9, 10] PassesOwn.never rfl (di_seq (de_bin op_addD od_add (de_F (do_rg1 rfl (by rfl) z_list (by rfl) z_range (da_cons (de_var 2 (pv 2)) da_nil))) (de_F (do_rgDn rfl (by rfl) z_list (by rfl) z_range (da_cons (de_bin op_sub od_sub (de_var 2 (pv 2)) de_int) (da_cons (de_un un_neg ud_neg de_int) (da_cons (de_un un_neg ud_neg de_int) da_nil))))))) (dg_name 6 sc__law_ranges.nd rfl (by first | exact .inl rfl | exact .inr rfl)) (dss_cons (ds_if (dt_cmp op_isNotD od_isNot (de_ix ix_seq od_ix (de_own 4 (pv 4)) (de_var 6 (pv 6)) (fun _ _ => rfl)) de_non (nomark _)) (dss_kill [9] (dss_cons (ds_set 9 sc__law_ranges.nd rfl (by first | exact .inl rfl | exact .inr rfl) (de_F (do_fn c__law_add hr 2 (by rfl) (da_cons (de_ix ix_seq od_ix (de_own 4 (pv 4)) (de_var 6 (pv 6)) (fun _ _ => rfl)) (da_cons (de_ix ix_seq od_ix (de_var 0 (pv 0)) de_int (fun _ _ => rfl)) da_nil))))) (dss_one (ds_setix 4 (de_if (dt_w (dw_or (dt_cmp op_isD od_is (de_ix ix_seq od_ix (de_own 4 (pv 4)) (de_bin op_addD od_add (de_var 6 (pv 6)) de_int) (fun _ _ => rfl)) de_non (nomark _)) (dw_or1 (dt_truth (de_F (do_fn c__law_below hr 2 (by rfl) (da_cons (de_ix ix_seq od_ix (de_own 4 (pv 4)) (de_bin op_addD od_add (de_var 6 (pv 6)) de_int) (fun _ _ => rfl)) (da_cons (de_var 9 (pv 9)) da_nil)))))))) (de_var 9 (pv 9)) (de_ix ix_seq od_ix (de_own 4 (pv 4)) (de_bin op_addD od_add (de_var 6 (pv 6)) de_int) (fun _ _ => rfl))) (pv 4) (de_bin op_addD od_add (de_var 6 (pv 6)) de_int))))) dss_nil) (dss_cons (ds_if (dt_cmp op_isNotD od_isNot (de_ix ix_seq od_ix (de_own 5 (pv 5)) (de_var 6 (pv 6)) (fun _ _ => rfl)) de_non (nomark _)) (dss_kill [9] (dss_cons (ds_set 9 sc__law_ranges.nd rfl (by first | exact .inl rfl | exact .inr rfl) (de_F (do_fn c__law_add hr 2 (by rfl) (da_cons (de_ix ix_seq od_ix (de_own 5 (pv 5)) (de_var 6 (pv 6)) (fun _ _ => rfl)) (da_cons (de_ix ix_seq od_ix (de_var 0 (pv 0)) de_int (fun _ _ => rfl)) da_nil))))) (dss_one (ds_setix 5 (de_if (dt_w (dw_or (dt_cmp op_isD od_is (de_ix ix_seq od_ix (de_own 5 (pv 5)) (de_bin op_addD od_add (de_var 6 (pv 6)) de_int) (fun _ _ => rfl)) de_non (nomark _)) (dw_or1 (dt_truth (de_F (do_fn c__law_below hr 2 (by rfl) (da_cons (de_var 9 (pv 9)) (da_cons (de_ix ix_seq od_ix (de_own 5 (pv 5)) (de_bin op_addD od_add (de_var 6 (pv 6)) de_int) (fun _ _ => rfl)) da_nil)))))))) (de_var 9 (pv 9)) (de_ix ix_seq od_ix (de_own 5 (pv 5)) (de_bin op_addD od_add (de_var 6 (pv 6)) de_int) (fun _ _ => rfl))) (pv 5) (de_bin op_addD od_add (de_var 6 (pv 6)) de_int))))) dss_nil) (dss_cons (ds_if (dt_cmp op_isNotD od_isNot (de_ix ix_seq od_ix (de_own 4 (pv 4)) (de_bin op_addD od_add (de_var 6 (pv 6)) de_int) (fun _ _ => rfl)) de_non (nomark _)) (dss_kill [10] (dss_cons (ds_set 10 sc__law_ranges.nd rfl (by first | exact .inl rfl | exact .inr rfl) (de_F (do_fn c__law_less_by hr 2 (by rfl) (da_cons (de_ix ix_seq od_ix (de_own 4 (pv 4)) (de_bin op_addD od_add (de_var 6 (pv 6)) de_int) (fun _ _ => rfl)) (da_cons (de_ix ix_seq od_ix (de_var 0 (pv 0)) de_int (fun _ _ => rfl)) da_nil))))) (dss_one (ds_setix 4 (de_if (dt_w (dw_or (dt_cmp op_isD od_is (de_ix ix_seq od_ix (de_own 4 (pv 4)) (de_var 6 (pv 6)) (fun _ _ => rfl)) de_non (nomark _)) (dw_or1 (dt_truth (de_F (do_fn c__law_below hr 2 (by rfl) (da_cons (de_ix ix_seq od_ix (de_own 4 (pv 4)) (de_var 6 (pv 6)) (fun _ _ => rfl)) (da_cons (de_var 10 (pv 10)) da_nil)))))))) (de_var 10 (pv 10)) (de_ix ix_seq od_ix (de_own 4 (pv 4)) (de_var 6 (pv 6)) (fun _ _ => rfl))) (pv 4) (de_var 6 (pv 6)))))) dss_nil) (dss_one (ds_if (dt_cmp op_isNotD od_isNot (de_ix ix_seq od_ix (de_own 5 (pv 5)) (de_bin op_addD od_add (de_var 6 (pv 6)) de_int) (fun _ _ => rfl)) de_non (nomark _)) (dss_kill [10] (dss_cons (ds_set 10 sc__law_ranges.nd rfl (by first | exact .inl rfl | exact .inr rfl) (de_F (do_fn c__law_less_by hr 2 (by rfl) (da_cons (de_ix ix_seq od_ix (de_own 5 (pv 5)) (de_bin op_addD od_add (de_var 6 (pv 6)) de_int) (fun _ _ => rfl)) (da_cons (de_ix ix_seq od_ix (de_var 0 (pv 0)) de_int (fun _ _ => rfl)) da_nil))))) (dss_one (ds_setix 5 (de_if (dt_w (dw_or (dt_cmp op_isD od_is (de_ix ix_seq od_ix (de_own 5 (pv 5)) (de_var 6 (pv 6)) (fun _ _ => rfl)) de_non (nomark _)) (dw_or1 (dt_truth (de_F (do_fn c__law_below hr 2 (by rfl) (da_cons (de_var 10 (pv 10)) (da_cons (de_ix ix_seq od_ix (de_own 5 (pv 5)) (de_var 6 (pv 6)) (fun _ _ => rfl)) da_nil)))))))) (de_var 10 (pv 10)) (de_ix ix_seq od_ix (de_own 5 (pv 5)) (de_var 6 (pv 6)) (fun _ _ => rfl))) (pv 5) (de_var 6 (pv 6)))))) dss_nil)))))))) (dss_frz 4 (dss_frz 5 (dss_one (ds_ret (de_tup (da_cons (de_var 4 (pv 4)) (da_cons (de_var 5 (pv 5)) da_nil))))))))))
def F__law_ranges : Fm := runF b__law_ranges 3 8
/-! ### _law_is_barred(drift, one, other): slots 0 drift 1 one 2 other 3 time -/
abbrev s__law_is_barred : Stmt := topS 49
theorem sc__law_is_barred : FnScope ["drift", "one", "other", "time"] ["drift", "one", "other"] (defScope s__law_is_barred) := ⟨rfl, rfl, rfl, by decide +kernel, rfl, by decide +kernel, by decide +kernel⟩
def b__law_is_barred : Sf := (sSeq (sIf (tBl (eBin dLt (eBin dIx (eVar 2) (eC (.int 0))) (eBin dIx (eVar 1) (eC (.int 0))))) (sPar 1 2 (lCons (oE (eVar 2)) (lCons (oE (eVar 1)) lNil))) sNil) (sSeq (sAsg (eTup (aCons (eBin dSub (eBin dIx (eVar 2) (eC (.int 0))) (eBin dIx (eVar 1) (eC (.int 0)))) (aCons (eC (.int 1)) aNil))) (gNm 3)) (sSeq (sIf (tB (eF (oCall F__law_below (aCons (eF (oCall F__law_add (aCons (eBin dIx (eVar 1) (eC (.int 2))) (aCons (eF (oCall F__law_times (aCons (eBin dIx (eVar 0) (eC (.int 1))) (aCons (eVar 3) aNil)))) aNil)))) (aCons (eBin dIx (eVar 2) (eC (.int 1))) aNil))))) (sRet (eC (.bl true))) sNil) (sRet (eF (oCall F__law_below (aCons (eBin dIx (eVar 2) (eC (.int 2))) (aCons (eF (oCall F__law_add (aCons (eBin dIx (eVar 1) (eC (.int 1))) (aCons (eF (oCall F__law_times (aCons (eBin dIx (eVar 0) (eC (.int 0))) (aCons (eVar 3) aNil)))) aNil)))) aNil))))))))
abbrev sg__law_is_barred : Sg := ⟨[.sh, .sh, .sh], .sh⟩
abbrev ps__law_is_barred : List Str := ["drift", "one", "other"]
theorem c__law_is_barred {P : Program} {w : World} {K : PySem.W.Frag} {mg : Str → Option Value} {base : Heap} {f : Addr} {fd : FuncData} {k : Nat} (D : Dfn K mg "_law_is_barred" s__law_is_barred ps__law_is_barred f fd) {f__law_below : Addr} {fd__law_below : FuncData} (c__law_below : Cal P w K mg base f__law_below fd__law_below "_law_below" k ps__law_below sg__law_below F__law_below) {f__law_add : Addr} {fd__law_add : FuncData} (c__law_add : Cal P w K mg base f__law_add fd__law_add "_law_add" k ps__law_add sg__law_add F__law_add) {f__law_times : Addr} {fd__law_times : FuncData} (c__law_times : Cal P w K mg base f__law_times fd__law_times "_law_times" k ps__law_times sg__law_times F__law_times) :
    Cal P w K mg base f fd "_law_is_barred" (k + 1) ps__law_is_barred sg__law_is_barred (runF (b__law_is_barred) 3 1) := by
  unfold b__law_is_barred 
  exact cal_ok (sg := sg__law_is_barred) (τ' := [.no, .no, .no, .no]) D sc__law_is_barred ⟨[], .sh, [.no, .no, .no, .no], [], []⟩ 1 rfl rfl rfl rfl rfl rfl (.inl rfl) fun cdv A outer s H E hr => (dss_cons (ds_if (dt_cmp op_lt od_lt (de_ix ix_seq od_ix (de_var 2 (pv 2)) de_int (fun _ _ => rfl)) (de_ix ix_seq od_ix (de_var 1 (pv 1)) de_int (fun _ _ => rfl)) (nomark _)) (dss_one (ds_par 1 2 rfl sc__law_is_barred.nd rfl rfl rfl rfl (dl_cons (do_E (de_var 2 (pv 2))) (dl_cons (do_E (de_var 1 (pv 1))) dl_nil)) rfl)) dss_nil) (dss_cons (ds_set 3 sc__law_is_barred.nd rfl (by first | exact .inl rfl | exact .inr rfl) (de_tup (da_cons (de_bin op_sub od_sub (de_ix ix_seq od_ix (de_var 2 (pv 2)) de_int (fun _ _ => rfl)) (de_ix ix_seq od_ix (de_var 1 (pv 1)) de_int (fun _ _ => rfl))) (da_cons de_int da_nil)))) (dss_cons (ds_if (dt_truth (de_F (do_fn c__law_below hr 2 (by rfl) (da_cons (de_F (do_fn c__law_add hr 2 (by rfl) (da_cons (de_ix ix_seq od_ix (de_var 1 (pv 1)) de_int (fun _ _ => rfl)) (da_cons (de_F (do_fn c__law_times hr 2 (by rfl) (da_cons (de_ix ix_seq od_ix (de_var 0 (pv 0)) de_int (fun _ _ => rfl)) (da_cons (de_var 3 (pv 3)) da_nil)))) da_nil)))) (da_cons (de_ix ix_seq od_ix (de_var 2 (pv 2)) de_int (fun _ _ => rfl)) da_nil))))) (dss_one (ds_ret de_bl)) dss_nil) (dss_one (ds_ret (de_F (do_fn c__law_below hr 2 (by rfl) (da_cons (de_ix ix_seq od_ix (de_var 2 (pv 2)) de_int (fun _ _ => rfl)) (da_cons (de_F (do_fn c__law_add hr 2 (by rfl) (da_cons (de_ix ix_seq od_ix (de_var 1 (pv 1)) de_int (fun _ _ => rfl)) (da_cons (de_F (do_fn c__law_times hr 2 (by rfl) (da_cons (de_ix ix_seq od_ix (de_var 0 (pv 0)) de_int (fun _ _ => rfl)) (da_cons (de_var 3 (pv 3)) da_nil)))) da_nil)))) da_nil)))))))))
def F__law_is_barred : Fm := runF b__law_is_barred 3 1
/-! ### _law_bars(drift, stamps): slots 0 drift 1 stamps 2 pairs 3 k 4 j -/
abbrev s__law_bars : Stmt := topS 51
theorem sc__law_bars : FnScope ["drift", "stamps", "pairs", "k", "j"] ["drift", "stamps"] (defScope s__law_bars) := ⟨rfl, rfl, rfl, by decide +kernel, rfl, by decide +kernel, by decide +kernel⟩
def t1__law_bars : Tf := (tB (eF (oCall F__law_is_barred (aCons (eVar 0) (aCons (eBin dIx (eVar 1) (eVar 3)) (aCons (eBin dIx (eVar 1) (eVar 4)) aNil))))))
def e2__law_bars : Of := (oE (eTup (aCons (eVar 3) (aCons (eVar 4) aNil))))
def q3__law_bars : Sf := (sAsg (eBin dAdd (eVar 2) (eF (oLc [4] (TL.iRng2 (aCons (eBin dAdd (eVar 3) (eC (.int 1))) (aCons (eCa (f1 lenD) (aCons (eVar 1) aNil)) aNil))) (gNm 4) t1__law_bars e2__law_bars))) (gNm 2))
def b__law_bars : Sf := (sSeq (sAsg (eF (oLst aNil)) (gNm 2)) (sSeq (sFor [3] (TL.iRng1 (aCons (eCa (f1 lenD) (aCons (eVar 1) aNil)) aNil)) (gNm 3) q3__law_bars) (sRet (eVar 2))))
abbrev sg__law_bars : Sg := ⟨[.sh, .sh], .sh⟩
abbrev ps__law_bars : List Str := ["drift", "stamps"]
theorem c__law_bars {P : Program} {w : World} {K : PySem.W.Frag} {mg : Str → Option Value} {base : Heap} {f : Addr} {fd : FuncData} {k : Nat} (D : Dfn K mg "_law_bars" s__law_bars ps__law_bars f fd) {f__law_is_barred : Addr} {fd__law_is_barred : FuncData} (c__law_is_barred : Cal P w K mg base f__law_is_barred fd__law_is_barred "_law_is_barred" k ps__law_is_barred sg__law_is_barred F__law_is_barred) (z_len : mg "len" = none) (z_range : mg "range" = none) :
    Cal P w K mg base f fd "_law_bars" (k + 1) ps__law_bars sg__law_bars (runF (b__law_bars) 2 3) := by
  unfold b__law_bars q3__law_bars e2__law_bars t1__law_bars
  exact cal_ok (sg := sg__law_bars) (τ' := [.no, .no, .no, .no, .no]) D sc__law_bars ⟨[], .sh, [.no, .no, .no, .no, .no], [], []⟩ 3 rfl rfl rfl rfl rfl rfl (.inl rfl) fun cdv A outer s H E hr => (dss_cons (ds_set 2 sc__law_bars.nd rfl (by first | exact .inl rfl | exact .inr rfl) (de_F (do_lst da_nil))) (dss_cons (ds_for (tbk := [.sh, .sh, .sh, .no, .no]) (tct := [.sh, .sh, .sh, .no, .no]) [3] PassesOwn.never rfl (di_range1 (by rfl) z_range (da_cons (de_callB call_len ca_len (by rfl) z_len bt_len (da_cons (de_var 1 (pv 1)) da_nil)) da_nil)) (dg_name 3 sc__law_bars.nd rfl (by first | exact .inl rfl | exact .inr rfl)) (dss_one (ds_set 2 sc__law_bars.nd rfl (by first | exact .inl rfl | exact .inr rfl) (de_bin op_addD od_add (de_var 2 (pv 2)) (de_F (do_lc (own := [("j", 4)]) rfl sc__law_bars.nd (di_range2 (by rfl) z_range (da_cons (de_bin op_addD od_add (de_var 3 (pv 3)) de_int) (da_cons (de_callB call_len ca_len (by rfl) z_len bt_len (da_cons (de_var 1 (pv 1)) da_nil)) da_nil))) (blkOk_by (by kernel_rfl)) (fun _ _ _ _ _ => (dg_name 4 sc__law_bars.nd rfl (by first | exact .inl rfl | exact .inr rfl))) (fun _ _ _ _ _ => (dts_one (dt_truth (de_F (do_fn c__law_is_barred hr 3 (by rfl) (da_cons (de_var 0 (pv 0)) (da_cons (de_ix ix_seq od_ix (de_var 1 (pv 1)) (de_var 3 (pv 3)) (fun _ _ => rfl)) (da_cons (de_ix ix_seq od_ix (de_var 1 (pv 1)) (de_var 4 (pv 4)) (fun _ _ => rfl)) da_nil)))))))) (fun _ _ _ _ _ => (do_E (de_tup (da_cons (de_var 3 (pv 3)) (da_cons (de_var 4 (pv 4)) da_nil))))))))))) (dss_one (ds_ret (de_var 2 (pv 2))))))
def F__law_bars : Fm := runF b__law_bars 2 3
/-! ### _law_station(draw, name): slots 0 draw 1 name 2 period -/
abbrev s__law_station : Stmt := topS 53
theorem sc__law_station : FnScope ["draw", "name", "period"] ["draw", "name"] (defScope s__law_station) := ⟨rfl, rfl, rfl, by decide +kernel, rfl, by decide +kernel, by decide +kernel⟩
def b__law_station : Sf := (sSeq (sAsg (eBin dAdd (eC (.int 1)) (eF (oCallI F__law_next 0 0 (aCons (eOwn 0) (aCons (eC (.int 12)) aNil))))) (gNm 2)) (sRet (eTup (aCons (eVar 1) (aCons (eVar 2) (aCons (eF (oCallI F__law_next 0 0 (aCons (eOwn 0) (aCons (eVar 2) aNil)))) (aCons (eF (oCallI F__law_next 0 0 (aCons (eOwn 0) (aCons (eBin dAdd (eVar 2) (eC (.int 1))) aNil)))) aNil)))))))
abbrev sg__law_station : Sg := ⟨[(.oL .sh), .sh], .sh⟩
abbrev ps__law_station : List Str := ["draw", "name"]
theorem c__law_station {P : Program} {w : World} {K : PySem.W.Frag} {mg : Str → Option Value} {base : Heap} {f : Addr} {fd : FuncData} {k : Nat} (D : Dfn K mg "_law_station" s__law_station ps__law_station f fd) {f__law_next : Addr} {fd__law_next : FuncData} (c__law_next : Cal P w K mg base f__law_next fd__law_next "_law_next" k ps__law_next sg__law_next F__law_next) :
    Cal P w K mg base f fd "_law_station" (k + 1) ps__law_station sg__law_station (runF (b__law_station) 2 1) := by
  unfold b__law_station 
  exact cal_ok (sg := sg__law_station) (τ' := [(.oL .sh), .no, .no]) D sc__law_station ⟨[0], .sh, [(.oL .sh), .no, .no], [], []⟩ 1 rfl rfl rfl rfl rfl rfl (.inl rfl) fun cdv A outer s H E hr => (dss_cons (ds_set 2 sc__law_station.nd rfl (by first | exact .inl rfl | exact .inr rfl) (de_bin op_addD od_add de_int (de_F (do_fnI c__law_next hr 0 0 2 (by rfl) (dai_io 0 (pv 0) (dai_cons de_int dai_nil)))))) (dss_one (ds_ret (de_tup (da_cons (de_var 1 (pv 1)) (da_cons (de_var 2 (pv 2)) (da_cons (de_F (do_fnI c__law_next hr 0 0 2 (by rfl) (dai_io 0 (pv 0) (dai_cons (de_var 2 (pv 2)) dai_nil)))) (da_cons (de_F (do_fnI c__law_next hr 0 0 2 (by rfl) (dai_io 0 (pv 0) (dai_cons (de_bin op_addD od_add (de_var 2 (pv 2)) de_int) dai_nil)))) da_nil))))))))
def F__law_station : Fm := runF b__law_station 2 1
/-! ### _law_probe(draw, name): slots 0 draw 1 name 2 period 3 delays 4 k 5 hides 6 dark -/
abbrev s__law_probe : Stmt := topS 54
theorem sc__law_probe : FnScope ["draw", "name", "period", "delays", "k", "hides", "dark"] ["draw", "name"] (defScope s__law_probe) := ⟨rfl, rfl, rfl, by decide +kernel, rfl, by decide +kernel, by decide +kernel⟩
def q1__law_probe : Sf := (sApp 3 (eCa (f2 max2D) (aCons (eC (.int 1)) (aCons (eBin dAdd (eBin dSub (eBin dIx (eOwn 3) (eUn dNeg (eC (.int 1)))) (eC (.int 1))) (eF (oCallI F__law_next 0 0 (aCons (eOwn 0) (aCons (eC (.int 3)) aNil))))) aNil))))
def q2__law_probe : Sf := (sApp 3 (eBin dSub (eBin dIx (eOwn 3) (eUn dNeg (eC (.int 1)))) (eC (.int 1))))
def b__law_probe : Sf := (sSeq (sAsg (eBin dAdd (eC (.int 1)) (eF (oCallI F__law_next 0 0 (aCons (eOwn 0) (aCons (eC (.int 10)) aNil))))) (gNm 2)) (sSeq (sPar 5 6 (lCons (oE (eF (oCallI F__law_next 0 0 (aCons (eOwn 0) (aCons (eVar 2) aNil))))) (lCons (oE (eF (oCallI F__law_next 0 0 (aCons (eOwn 0) (aCons (eBin dAdd (eBin dDiv (eBin dAdd (eVar 2) (eC (.int 1))) (eC (.int 2))) (eC (.int 1))) aNil))))) lNil))) (sSeq (sSetO 3 (oLst (aCons (eBin dAdd (eC (.int 1)) (eF (oCallI F__law_next 0 0 (aCons (eOwn 0) (aCons (eC (.int 6)) aNil))))) aNil))) (sSeq (sFor [4] (TL.iRng1 (aCons (eF (oCallI F__law_next 0 0 (aCons (eOwn 0) (aCons (eC (.int 4)) aNil)))) aNil)) (gNm 4) q1__law_probe) (sSeq (sWhile nT [] (tBl (eBin dLt (eBin dIx (eOwn 3) (eC (.int 0))) (eBin dSub (eBin dIx (eOwn 3) (eUn dNeg (eC (.int 1)))) (eC (.int 1))))) q2__law_probe) (sRet (eTup (aCons (eVar 1) (aCons (eVar 2) (aCons (eVar 5) (aCons (eCa (f2 min2D) (aCons (eVar 6) (aCons (eVar 2) aNil))) (aCons (eCa (f1 tupleD) (aCons (eSl dSl (eOwn 3) pNo (pSome (eC (.int 12)))) aNil)) aNil))))))))))))
abbrev sg__law_probe : Sg := ⟨[(.oL .sh), .sh], .sh⟩
abbrev ps__law_probe : List Str := ["draw", "name"]
theorem c__law_probe {P : Program} {w : World} {K : PySem.W.Frag} {mg : Str → Option Value} {base : Heap} {f : Addr} {fd : FuncData} {k : Nat} (D : Dfn K mg "_law_probe" s__law_probe ps__law_probe f fd) {f__law_next : Addr} {fd__law_next : FuncData} (c__law_next : Cal P w K mg base f__law_next fd__law_next "_law_next" k ps__law_next sg__law_next F__law_next) (z_range : mg "range" = none) (z_max : mg "max" = none) (z_min : mg "min" = none) (z_tuple : mg "tuple" = none) :
    Cal P w K mg base f fd "_law_probe" (k + 1) ps__law_probe sg__law_probe (runF (b__law_probe) 2 5) := by
  unfold b__law_probe q2__law_probe q1__law_probe
  exact cal_ok (sg := sg__law_probe) (τ' := [(.oL .sh), .no, .no, .no, .no, .no, .no]) D sc__law_probe ⟨[0], .sh, [(.oL .sh), .no, .no, .no, .no, .no, .no], [], []⟩ 5 rfl rfl rfl rfl rfl rfl (.inl rfl) fun cdv A outer s H E hr => (dss_cons (ds_set 2 sc__law_probe.nd rfl (by first | exact .inl rfl | exact .inr rfl) (de_bin op_addD od_add de_int (de_F (do_fnI c__law_next hr 0 0 2 (by rfl) (dai_io 0 (pv 0) (dai_cons de_int dai_nil)))))) (dss_cons (ds_par 5 6 rfl sc__law_probe.nd rfl rfl rfl rfl (dl_cons (do_E (de_F (do_fnI c__law_next hr 0 0 2 (by rfl) (dai_io 0 (pv 0) (dai_cons (de_var 2 (pv 2)) dai_nil))))) (dl_cons (do_E (de_F (do_fnI c__law_next hr 0 0 2 (by rfl) (dai_io 0 (pv 0) (dai_cons (de_bin op_addD od_add (de_bin op_fdivW od_div (de_bin op_addD od_add (de_var 2 (pv 2)) de_int) de_int) de_int) dai_nil))))) dl_nil)) rfl) (dss_cons (ds_setO 3 sc__law_probe.nd rfl (by first | exact .inl rfl | exact .inr rfl) (do_lst (da_cons (de_bin op_addD od_add de_int (de_F (do_fnI c__law_next hr 0 0 2 (by rfl) (dai_io 0 (pv 0) (dai_cons de_int dai_nil))))) da_nil))) (dss_cons (ds_for (tbk := [(.oL .sh), .sh, .sh, (.oL .sh), .no, .sh, .sh]) (tct := [(.oL .sh), .sh, .sh, (.oL .sh), .no, .sh, .sh]) [4] PassesOwn.never rfl (di_range1 (by rfl) z_range (da_cons (de_F (do_fnI c__law_next hr 0 0 2 (by rfl) (dai_io 0 (pv 0) (dai_cons de_int dai_nil)))) da_nil)) (dg_name 4 sc__law_probe.nd rfl (by first | exact .inl rfl | exact .inr rfl)) (dss_one (ds_app 3 (pv 3) (de_callB (call_max2 rfl) ca_max2 (by rfl) z_max bt_max (da_cons de_int (da_cons (de_bin op_addD od_add (de_bin op_sub od_sub (de_ix ix_seq od_ix (de_own 3 (pv 3)) (de_un un_neg ud_neg de_int) (fun _ _ => rfl)) de_int) (de_F (do_fnI c__law_next hr 0 0 2 (by rfl) (dai_io 0 (pv 0) (dai_cons de_int dai_nil))))) da_nil)))))) (dss_cons (ds_while (tbk := [(.oL .sh), .sh, .sh, (.oL .sh), .no, .sh, .sh]) (tct := [(.oL .sh), .sh, .sh, (.oL .sh), .no, .sh, .sh]) nT [] PassesOwn.never (dt_cmp op_lt od_lt (de_ix ix_seq od_ix (de_own 3 (pv 3)) de_int (fun _ _ => rfl)) (de_bin op_sub od_sub (de_ix ix_seq od_ix (de_own 3 (pv 3)) (de_un un_neg ud_neg de_int) (fun _ _ => rfl)) de_int) (nomark _)) (dss_one (ds_app 3 (pv 3) (de_bin op_sub od_sub (de_ix ix_seq od_ix (de_own 3 (pv 3)) (de_un un_neg ud_neg de_int) (fun _ _ => rfl)) de_int)))) (dss_one (ds_ret (de_tup (da_cons (de_var 1 (pv 1)) (da_cons (de_var 2 (pv 2)) (da_cons (de_var 5 (pv 5)) (da_cons (de_callB (call_min2 rfl) ca_min2 (by rfl) z_min bt_min (da_cons (de_var 6 (pv 6)) (da_cons (de_var 2 (pv 2)) da_nil))) (da_cons (de_callTy call_tuple_of ca_tuple (by rfl) z_tuple bt_tuple (da_cons (de_slice sl_D sd_sl (de_own 3 (pv 3)) dp_no (dp_some de_int)) da_nil)) da_nil)))))))))))))
def F__law_probe : Fm := runF b__law_probe 2 5
/-! ### _law_is_up(station, time): slots 0 station 1 time -/
abbrev s__law_is_up : Stmt := topS 55
theorem sc__law_is_up : FnScope ["station", "time"] ["station", "time"] (defScope s__law_is_up) := ⟨rfl, rfl, rfl, by decide +kernel, rfl, by decide +kernel, by decide +kernel⟩
def b__law_is_up : Sf := (sRet (eBin dLt (eBin dMod (eBin dSub (eVar 1) (eBin dIx (eVar 0) (eC (.int 2)))) (eBin dIx (eVar 0) (eC (.int 1)))) (eBin dIx (eVar 0) (eC (.int 3)))))
abbrev sg__law_is_up : Sg := ⟨[.sh, .sh], .sh⟩
abbrev ps__law_is_up : List Str := ["station", "time"]
theorem c__law_is_up {P : Program} {w : World} {K : PySem.W.Frag} {mg : Str → Option Value} {base : Heap} {f : Addr} {fd : FuncData} {k : Nat} (D : Dfn K mg "_law_is_up" s__law_is_up ps__law_is_up f fd) :
    Cal P w K mg base f fd "_law_is_up" (k + 1) ps__law_is_up sg__law_is_up (runF (b__law_is_up) 2 0) := by
  unfold b__law_is_up 
  exact cal_ok (sg := sg__law_is_up) (τ' := [.no, .no]) D sc__law_is_up ⟨[], .sh, [.no, .no], [], []⟩ 0 rfl rfl rfl rfl rfl rfl (.inl rfl) fun cdv A outer s H E hr => (dss_one (ds_ret (de_cmp op_lt od_lt (de_bin op_mod od_mod (de_bin op_sub od_sub (de_var 1 (pv 1)) (de_ix ix_seq od_ix (de_var 0 (pv 0)) de_int (fun _ _ => rfl))) (de_ix ix_seq od_ix (de_var 0 (pv 0)) de_int (fun _ _ => rfl))) (de_ix ix_seq od_ix (de_var 0 (pv 0)) de_int (fun _ _ => rfl)) (nomark _))))
def F__law_is_up : Fm := runF b__law_is_up 2 0
/-! ### _law_is_hidden(probe, time): slots 0 probe 1 time -/
abbrev s__law_is_hidden : Stmt := topS 56
theorem sc__law_is_hidden : FnScope ["probe", "time"] ["probe", "time"] (defScope s__law_is_hidden) := ⟨rfl, rfl, rfl, by decide +kernel, rfl, by decide +kernel, by decide +kernel⟩
def b__law_is_hidden : Sf := (sRet (eBin dLt (eBin dMod (eBin dSub (eVar 1) (eBin dIx (eVar 0) (eC (.int 2)))) (eBin dIx (eVar 0) (eC (.int 1)))) (eBin dIx (eVar 0) (eC (.int 3)))))
abbrev sg__law_is_hidden : Sg := ⟨[.sh, .sh], .sh⟩
abbrev ps__law_is_hidden : List Str := ["probe", "time"]
theorem c__law_is_hidden {P : Program} {w : World} {K : PySem.W.Frag} {mg : Str → Option Value} {base : Heap} {f : Addr} {fd : FuncData} {k : Nat} (D : Dfn K mg "_law_is_hidden" s__law_is_hidden ps__law_is_hidden f fd) :
    Cal P w K mg base f fd "_law_is_hidden" (k + 1) ps__law_is_hidden sg__law_is_hidden (runF (b__law_is_hidden) 2 0) := by
  unfold b__law_is_hidden 
  exact cal_ok (sg := sg__law_is_hidden) (τ' := [.no, .no]) D sc__law_is_hidden ⟨[], .sh, [.no, .no], [], []⟩ 0 rfl rfl rfl rfl rfl rfl (.inl rfl) fun cdv A outer s H E hr => (dss_one (ds_ret (de_cmp op_lt od_lt (de_bin op_mod od_mod (de_bin op_sub od_sub (de_var 1 (pv 1)) (de_ix ix_seq od_ix (de_var 0 (pv 0)) de_int (fun _ _ => rfl))) (de_ix ix_seq od_ix (de_var 0 (pv 0)) de_int (fun _ _ => rfl))) (de_ix ix_seq od_ix (de_var 0 (pv 0)) de_int (fun _ _ => rfl)) (nomark _))))
def F__law_is_hidden : Fm := runF b__law_is_hidden 2 0
/-! ### _law_arrival(probe, time): slots 0 probe 1 time -/
abbrev s__law_arrival : Stmt := topS 57
theorem sc__law_arrival : FnScope ["probe", "time"] ["probe", "time"] (defScope s__law_arrival) := ⟨rfl, rfl, rfl, by decide +kernel, rfl, by decide +kernel, by decide +kernel⟩
def b__law_arrival : Sf := (sRet (eBin dAdd (eVar 1) (eBin dIx (eBin dIx (eVar 0) (eC (.int 4))) (eBin dMod (eVar 1) (eCa (f1 lenD) (aCons (eBin dIx (eVar 0) (eC (.int 4))) aNil))))))
abbrev sg__law_arrival : Sg := ⟨[.sh, .sh], .sh⟩
abbrev ps__law_arrival : List Str := ["probe", "time"]
theorem c__law_arrival {P : Program} {w : World} {K : PySem.W.Frag} {mg : Str → Option Value} {base : Heap} {f : Addr} {fd : FuncData} {k : Nat} (D : Dfn K mg "_law_arrival" s__law_arrival ps__law_arrival f fd) (z_len : mg "len" = none) :
    Cal P w K mg base f fd "_law_arrival" (k + 1) ps__law_arrival sg__law_arrival (runF (b__law_arrival) 2 0) := by
  unfold b__law_arrival 
  exact cal_ok (sg := sg__law_arrival) (τ' := [.no, .no]) D sc__law_arrival ⟨[], .sh, [.no, .no], [], []⟩ 0 rfl rfl rfl rfl rfl rfl (.inl rfl) fun cdv A outer s H E hr => (dss_one (ds_ret (de_bin op_addD od_add (de_var 1 (pv 1)) (de_ix ix_seq od_ix (de_ix ix_seq od_ix (de_var 0 (pv 0)) de_int (fun _ _ => rfl)) (de_bin op_mod od_mod (de_var 1 (pv 1)) (de_callB call_len ca_len (by rfl) z_len bt_len (da_cons (de_ix ix_seq od_ix (de_var 0 (pv 0)) de_int (fun _ _ => rfl)) da_nil))) (fun _ _ => rfl)))))
def F__law_arrival : Fm := runF b__law_arrival 2 0
/-! ### _law_tells(station, probe, time): slots 0 station 1 probe 2 time -/
abbrev s__law_tells : Stmt := topS 59
theorem sc__law_tells : FnScope ["station", "probe", "time"] ["station", "probe", "time"] (defScope s__law_tells) := ⟨rfl, rfl, rfl, by decide +kernel, rfl, by decide +kernel, by decide +kernel⟩
def b__law_tells : Sf := (sRet (eAnd (eNot (eF (oCall F__law_is_hidden (aCons (eVar 1) (aCons (eVar 2) aNil))))) (eF (oCall F__law_is_up (aCons (eVar 0) (aCons (eF (oCall F__law_arrival (aCons (eVar 1) (aCons (eVar 2) aNil)))) aNil))))))
abbrev sg__law_tells : Sg := ⟨[.sh, .sh, .sh], .sh⟩
abbrev ps__law_tells : List Str := ["station", "probe", "time"]
theorem c__law_tells {P : Program} {w : World} {K : PySem.W.Frag} {mg : Str → Option Value} {base : Heap} {f : Addr} {fd : FuncData} {k : Nat} (D : Dfn K mg "_law_tells" s__law_tells ps__law_tells f fd) {f__law_is_hidden : Addr} {fd__law_is_hidden : FuncData} (c__law_is_hidden : Cal P w K mg base f__law_is_hidden fd__law_is_hidden "_law_is_hidden" k ps__law_is_hidden sg__law_is_hidden F__law_is_hidden) {f__law_is_up : Addr} {fd__law_is_up : FuncData} (c__law_is_up : Cal P w K mg base f__law_is_up fd__law_is_up "_law_is_up" k ps__law_is_up sg__law_is_up F__law_is_up) {f__law_arrival : Addr} {fd__law_arrival : FuncData} (c__law_arrival : Cal P w K mg base f__law_arrival fd__law_arrival "_law_arrival" k ps__law_arrival sg__law_arrival F__law_arrival) :
    Cal P w K mg base f fd "_law_tells" (k + 1) ps__law_tells sg__law_tells (runF (b__law_tells) 3 0) := by
  unfold b__law_tells 
  exact cal_ok (sg := sg__law_tells) (τ' := [.no, .no, .no]) D sc__law_tells ⟨[], .sh, [.no, .no, .no], [], []⟩ 0 rfl rfl rfl rfl rfl rfl (.inl rfl) fun cdv A outer s H E hr => (dss_one (ds_ret (de_and (de_not (de_F (do_fn c__law_is_hidden hr 2 (by rfl) (da_cons (de_var 1 (pv 1)) (da_cons (de_var 2 (pv 2)) da_nil))))) (de_one (de_F (do_fn c__law_is_up hr 2 (by rfl) (da_cons (de_var 0 (pv 0)) (da_cons (de_F (do_fn c__law_arrival hr 2 (by rfl) (da_cons (de_var 1 (pv 1)) (da_cons (de_var 2 (pv 2)) da_nil)))) da_nil))))))))
def F__law_tells : Fm := runF b__law_tells 3 0
/-! ### less(one, other): slots 0 one 1 other -/
abbrev s_less : Stmt := topS 7
theorem sc_less : FnScope ["one", "other"] ["one", "other"] (defScope s_less) := ⟨rfl, rfl, rfl, by decide +kernel, rfl, by decide +kernel, by decide +kernel⟩
def b_less : Sf := (sRet (eBin dLt (eBin dMul (eBin dIx (eVar 0) (eC (.int 0))) (eBin dIx (eVar 1) (eC (.int 1)))) (eBin dMul (eBin dIx (eVar 1) (eC (.int 0))) (eBin dIx (eVar 0) (eC (.int 1))))))
abbrev sg_less : Sg := ⟨[.sh, .sh], .sh⟩
abbrev ps_less : List Str := ["one", "other"]
theorem c_less {P : Program} {w : World} {K : PySem.W.Frag} {mg : Str → Option Value} {base : Heap} {f : Addr} {fd : FuncData} {k : Nat} (D : Dfn K mg "less" s_less ps_less f fd) :
    Cal P w K mg base f fd "less" (k + 1) ps_less sg_less (runF (b_less) 2 0) := by
  unfold b_less 
  exact cal_ok (sg := sg_less) (τ' := [.no, .no]) D sc_less ⟨[], .sh, [.no, .no], [], []⟩ 0 rfl rfl rfl rfl rfl rfl (.inl rfl) fun cdv A outer s H E hr => (dss_one (ds_ret (de_cmp op_lt od_lt (de_bin op_mulD od_mul (de_ix ix_seq od_ix (de_var 0 (pv 0)) de_int (fun _ _ => rfl)) (de_ix ix_seq od_ix (de_var 1 (pv 1)) de_int (fun _ _ => rfl))) (de_bin op_mulD od_mul (de_ix ix_seq od_ix (de_var 1 (pv 1)) de_int (fun _ _ => rfl)) (de_ix ix_seq od_ix (de_var 0 (pv 0)) de_int (fun _ _ => rfl))) (nomark _))))
def F_less : Fm := runF b_less 2 0
/-! ### greatest_of(values): slots 0 values 1 found 2 value -/
abbrev s_greatest_of : Stmt := topS 11
theorem sc_greatest_of : FnScope ["values", "found", "value"] ["values"] (defScope s_greatest_of) := ⟨rfl, rfl, rfl, by decide +kernel, rfl, by decide +kernel, by decide +kernel⟩
def q1_greatest_of : Sf := (sIf (tB (eF (oCall F_less (aCons (eVar 1) (aCons (eVar 2) aNil))))) (sAsg (eVar 2) (gNm 1)) sNil)
def b_greatest_of : Sf := (sSeq (sAsg (eBin dIx (eVar 0) (eC (.int 0))) (gNm 1)) (sSeq (sFor [2] (iSeq (eVar 0)) (gNm 2) q1_greatest_of) (sRet (eVar 1))))
abbrev sg_greatest_of : Sg := ⟨[.sh], .sh⟩
abbrev ps_greatest_of : List Str := ["values"]
theorem c_greatest_of {P : Program} {w : World} {K : PySem.W.Frag} {mg : Str → Option Value} {base : Heap} {f : Addr} {fd : FuncData} {k : Nat} (D : Dfn K mg "greatest_of" s_greatest_of ps_greatest_of f fd) {f_less : Addr} {fd_less : FuncData} (c_less : Cal P w K mg base f_less fd_less "less" k ps_less sg_less F_less) :
    Cal P w K mg base f fd "greatest_of" (k + 1) ps_greatest_of sg_greatest_of (runF (b_greatest_of) 1 2) := by
  unfold b_greatest_of q1_greatest_of
  exact cal_ok (sg := sg_greatest_of) (τ' := [.no, .no, .no]) D sc_greatest_of ⟨[], .sh, [.no, .no, .no], [], []⟩ 2 rfl rfl rfl rfl rfl rfl (.inl rfl) fun cdv A outer s H E hr => (dss_cons (ds_set 1 sc_greatest_of.nd rfl (by first | exact .inl rfl | exact .inr rfl) (de_ix ix_seq od_ix (de_var 0 (pv 0)) de_int (fun _ _ => rfl))) (dss_cons (ds_for (tbk := [.sh, .sh, .no]) (tct := [.sh, .sh, .no]) [2] PassesOwn.never rfl (di_seq (de_var 0 (pv 0))) (dg_name 2 sc_greatest_of.nd rfl (by first | exact .inl rfl | exact .inr rfl)) (dss_one (ds_if (dt_truth (de_F (do_fn c_less hr 2 (by rfl) (da_cons (de_var 1 (pv 1)) (da_cons (de_var 2 (pv 2)) da_nil))))) (dss_one (ds_set 1 sc_greatest_of.nd rfl (by first | exact .inl rfl | exact .inr rfl) (de_var 2 (pv 2)))) dss_nil))) (dss_one (ds_ret (de_var 1 (pv 1))))))
def F_greatest_of : Fm := runF b_greatest_of 1 2
/-! ### ratio(number, by): slots 0 number 1 by 2 common -/
abbrev s_ratio : Stmt := topS 2
theorem sc_ratio : FnScope ["number", "by", "common"] ["number", "by"] (defScope s_ratio) := ⟨rfl, rfl, rfl, by decide +kernel, rfl, by decide +kernel, by decide +kernel⟩
def b_ratio : Sf := (sSeq (sIf (tBl (eBin dLt (eVar 1) (eC (.int 0)))) (sPar 0 1 (lCons (oE (eUn dNeg (eVar 0))) (lCons (oE (eUn dNeg (eVar 1))) lNil))) sNil) (sSeq (sAsg (eCa (f2 gcdD) (aCons (eVar 0) (aCons (eVar 1) aNil))) (gNm 2)) (sRet (eTup (aCons (eBin dDiv (eVar 0) (eVar 2)) (aCons (eBin dDiv (eVar 1) (eVar 2)) aNil))))))
abbrev sg_ratio : Sg := ⟨[.sh, .sh], .sh⟩
abbrev ps_ratio : List Str := ["number", "by"]
theorem c_ratio {P : Program} {w : World} {K : PySem.W.Frag} {mg : Str → Option Value} {base : Heap} {f : Addr} {fd : FuncData} {k : Nat} (D : Dfn K mg "ratio" s_ratio ps_ratio f fd) (g_gcd : mg "gcd" = some (.builtin "math.gcd")) :
    Cal P w K mg base f fd "ratio" (k + 1) ps_ratio sg_ratio (runF (b_ratio) 2 1) := by
  unfold b_ratio 
  exact cal_ok (sg := sg_ratio) (τ' := [.no, .no, .no]) D sc_ratio ⟨[], .sh, [.no, .no, .no], [], []⟩ 1 rfl rfl rfl rfl rfl rfl (.inl rfl) fun cdv A outer s H E hr => (dss_cons (ds_if (dt_cmp op_lt od_lt (de_var 1 (pv 1)) de_int (nomark _)) (dss_one (ds_par 0 1 rfl sc_ratio.nd rfl rfl rfl rfl (dl_cons (do_E (de_un un_neg ud_neg (de_var 0 (pv 0)))) (dl_cons (do_E (de_un un_neg ud_neg (de_var 1 (pv 1)))) dl_nil)) rfl)) dss_nil) (dss_cons (ds_set 2 sc_ratio.nd rfl (by first | exact .inl rfl | exact .inr rfl) (de_callF cr_gcd ca_gcd (by rfl) g_gcd (da_cons (de_var 0 (pv 0)) (da_cons (de_var 1 (pv 1)) da_nil)))) (dss_one (ds_ret (de_tup (da_cons (de_bin op_fdivW od_div (de_var 0 (pv 0)) (de_var 2 (pv 2))) (da_cons (de_bin op_fdivW od_div (de_var 1 (pv 1)) (de_var 2 (pv 2))) da_nil)))))))
def F_ratio : Fm := runF b_ratio 2 1
/-! ### add(one, other): slots 0 one 1 other -/
abbrev s_add : Stmt := topS 3
theorem sc_add : FnScope ["one", "other"] ["one", "other"] (defScope s_add) := ⟨rfl, rfl, rfl, by decide +kernel, rfl, by decide +kernel, by decide +kernel⟩
def b_add : Sf := (sRet (eF (oCall F_ratio (aCons (eBin dAdd (eBin dMul (eBin dIx (eVar 0) (eC (.int 0))) (eBin dIx (eVar 1) (eC (.int 1)))) (eBin dMul (eBin dIx (eVar 1) (eC (.int 0))) (eBin dIx (eVar 0) (eC (.int 1))))) (aCons (eBin dMul (eBin dIx (eVar 0) (eC (.int 1))) (eBin dIx (eVar 1) (eC (.int 1)))) aNil)))))
abbrev sg_add : Sg := ⟨[.sh, .sh], .sh⟩
abbrev ps_add : List Str := ["one", "other"]
theorem c_add {P : Program} {w : World} {K : PySem.W.Frag} {mg : Str → Option Value} {base : Heap} {f : Addr} {fd : FuncData} {k : Nat} (D : Dfn K mg "add" s_add ps_add f fd) {f_ratio : Addr} {fd_ratio : FuncData} (c_ratio : Cal P w K mg base f_ratio fd_ratio "ratio" k ps_ratio sg_ratio F_ratio) :
    Cal P w K mg base f fd "add" (k + 1) ps_add sg_add (runF (b_add) 2 0) := by
  unfold b_add 
  exact cal_ok (sg := sg_add) (τ' := [.no, .no]) D sc_add ⟨[], .sh, [.no, .no], [], []⟩ 0 rfl rfl rfl rfl rfl rfl (.inl rfl) fun cdv A outer s H E hr => (dss_one (ds_ret (de_F (do_fn c_ratio hr 2 (by rfl) (da_cons (de_bin op_addD od_add (de_bin op_mulD od_mul (de_ix ix_seq od_ix (de_var 0 (pv 0)) de_int (fun _ _ => rfl)) (de_ix ix_seq od_ix (de_var 1 (pv 1)) de_int (fun _ _ => rfl))) (de_bin op_mulD od_mul (de_ix ix_seq od_ix (de_var 1 (pv 1)) de_int (fun _ _ => rfl)) (de_ix ix_seq od_ix (de_var 0 (pv 0)) de_int (fun _ _ => rfl)))) (da_cons (de_bin op_mulD od_mul (de_ix ix_seq od_ix (de_var 0 (pv 0)) de_int (fun _ _ => rfl)) (de_ix ix_seq od_ix (de_var 1 (pv 1)) de_int (fun _ _ => rfl))) da_nil))))))
def F_add : Fm := runF b_add 2 0
/-! ### multiply(one, other): slots 0 one 1 other -/
abbrev s_multiply : Stmt := topS 5
theorem sc_multiply : FnScope ["one", "other"] ["one", "other"] (defScope s_multiply) := ⟨rfl, rfl, rfl, by decide +kernel, rfl, by decide +kernel, by decide +kernel⟩
def b_multiply : Sf := (sRet (eF (oCall F_ratio (aCons (eBin dMul (eBin dIx (eVar 0) (eC (.int 0))) (eBin dIx (eVar 1) (eC (.int 0)))) (aCons (eBin dMul (eBin dIx (eVar 0) (eC (.int 1))) (eBin dIx (eVar 1) (eC (.int 1)))) aNil)))))
abbrev sg_multiply : Sg := ⟨[.sh, .sh], .sh⟩
abbrev ps_multiply : List Str := ["one", "other"]
theorem c_multiply {P : Program} {w : World} {K : PySem.W.Frag} {mg : Str → Option Value} {base : Heap} {f : Addr} {fd : FuncData} {k : Nat} (D : Dfn K mg "multiply" s_multiply ps_multiply f fd) {f_ratio : Addr} {fd_ratio : FuncData} (c_ratio : Cal P w K mg base f_ratio fd_ratio "ratio" k ps_ratio sg_ratio F_ratio) :
    Cal P w K mg base f fd "multiply" (k + 1) ps_multiply sg_multiply (runF (b_multiply) 2 0) := by
  unfold b_multiply 
  exact cal_ok (sg := sg_multiply) (τ' := [.no, .no]) D sc_multiply ⟨[], .sh, [.no, .no], [], []⟩ 0 rfl rfl rfl rfl rfl rfl (.inl rfl) fun cdv A outer s H E hr => (dss_one (ds_ret (de_F (do_fn c_ratio hr 2 (by rfl) (da_cons (de_bin op_mulD od_mul (de_ix ix_seq od_ix (de_var 0 (pv 0)) de_int (fun _ _ => rfl)) (de_ix ix_seq od_ix (de_var 1 (pv 1)) de_int (fun _ _ => rfl))) (da_cons (de_bin op_mulD od_mul (de_ix ix_seq od_ix (de_var 0 (pv 0)) de_int (fun _ _ => rfl)) (de_ix ix_seq od_ix (de_var 1 (pv 1)) de_int (fun _ _ => rfl))) da_nil))))))
def F_multiply : Fm := runF b_multiply 2 0
/-! ### grown(reading, rate, turns): slots 0 reading 1 rate 2 turns -/
abbrev s_grown : Stmt := topS 13
theorem sc_grown : FnScope ["reading", "rate", "turns"] ["reading", "rate", "turns"] (defScope s_grown) := ⟨rfl, rfl, rfl, by decide +kernel, rfl, by decide +kernel, by decide +kernel⟩
def b_grown : Sf := (sRet (eF (oCall F_add (aCons (eVar 0) (aCons (eF (oCall F_multiply (aCons (eVar 1) (aCons (eTup (aCons (eVar 2) (aCons (eC (.int 1)) aNil))) aNil)))) aNil)))))
abbrev sg_grown : Sg := ⟨[.sh, .sh, .sh], .sh⟩
abbrev ps_grown : List Str := ["reading", "rate", "turns"]
theorem c_grown {P : Program} {w : World} {K : PySem.W.Frag} {mg : Str → Option Value} {base : Heap} {f : Addr} {fd : FuncData} {k : Nat} (D : Dfn K mg "grown" s_grown ps_grown f fd) {f_add : Addr} {fd_add : FuncData} (c_add : Cal P w K mg base f_add fd_add "add" k ps_add sg_add F_add) {f_multiply : Addr} {fd_multiply : FuncData} (c_multiply : Cal P w K mg base f_multiply fd_multiply "multiply" k ps_multiply sg_multiply F_multiply) :
    Cal P w K mg base f fd "grown" (k + 1) ps_grown sg_grown (runF (b_grown) 3 0) := by
  unfold b_grown 
  exact cal_ok (sg := sg_grown) (τ' := [.no, .no, .no]) D sc_grown ⟨[], .sh, [.no, .no, .no], [], []⟩ 0 rfl rfl rfl rfl rfl rfl (.inl rfl) fun cdv A outer s H E hr => (dss_one (ds_ret (de_F (do_fn c_add hr 2 (by rfl) (da_cons (de_var 0 (pv 0)) (da_cons (de_F (do_fn c_multiply hr 2 (by rfl) (da_cons (de_var 1 (pv 1)) (da_cons (de_tup (da_cons (de_var 2 (pv 2)) (da_cons de_int da_nil))) da_nil)))) da_nil))))))
def F_grown : Fm := runF b_grown 3 0
/-! ### least_by(drift, stamp, time): slots 0 drift 1 stamp 2 time 3 turns -/
abbrev s_least_by : Stmt := topS 14
theorem sc_least_by : FnScope ["drift", "stamp", "time", "turns"] ["drift", "stamp", "time"] (defScope s_least_by) := ⟨rfl, rfl, rfl, by decide +kernel, rfl, by decide +kernel, by decide +kernel⟩
def b_least_by : Sf := (sSeq (sAsg (eBin dSub (eVar 2) (eBin dIx (eVar 1) (eC (.int 0)))) (gNm 3)) (sRet (eF (oCall F_grown (aCons (eBin dIx (eVar 1) (eC (.int 1))) (aCons (eIf (tBl (eBin dGe (eVar 3) (eC (.int 0)))) (eBin dIx (eVar 0) (eC (.int 0))) (eBin dIx (eVar 0) (eC (.int 1)))) (aCons (eVar 3) aNil)))))))
abbrev sg_least_by : Sg := ⟨[.sh, .sh, .sh], .sh⟩
abbrev ps_least_by : List Str := ["drift", "stamp", "time"]
theorem c_least_by {P : Program} {w : World} {K : PySem.W.Frag} {mg : Str → Option Value} {base : Heap} {f : Addr} {fd : FuncData} {k : Nat} (D : Dfn K mg "least_by" s_least_by ps_least_by f fd) {f_grown : Addr} {fd_grown : FuncData} (c_grown : Cal P w K mg base f_grown fd_grown "grown" k ps_grown sg_grown F_grown) :
    Cal P w K mg base f fd "least_by" (k + 1) ps_least_by sg_least_by (runF (b_least_by) 3 1) := by
  unfold b_least_by 
  exact cal_ok (sg := sg_least_by) (τ' := [.no, .no, .no, .no]) D sc_least_by ⟨[], .sh, [.no, .no, .no, .no], [], []⟩ 1 rfl rfl rfl rfl rfl rfl (.inl rfl) fun cdv A outer s H E hr => (dss_cons (ds_set 3 sc_least_by.nd rfl (by first | exact .inl rfl | exact .inr rfl) (de_bin op_sub od_sub (de_var 2 (pv 2)) (de_ix ix_seq od_ix (de_var 1 (pv 1)) de_int (fun _ _ => rfl)))) (dss_one (ds_ret (de_F (do_fn c_grown hr 3 (by rfl) (da_cons (de_ix ix_seq od_ix (de_var 1 (pv 1)) de_int (fun _ _ => rfl)) (da_cons (de_if (dt_cmp op_ge od_ge (de_var 3 (pv 3)) de_int (nomark _)) (de_ix ix_seq od_ix (de_var 0 (pv 0)) de_int (fun _ _ => rfl)) (de_ix ix_seq od_ix (de_var 0 (pv 0)) de_int (fun _ _ => rfl))) (da_cons (de_var 3 (pv 3)) da_nil))))))))
def F_least_by : Fm := runF b_least_by 3 1
/-! ### least_reading(drift, stamps, time): slots 0 drift 1 stamps 2 time 3 stamp -/
abbrev s_least_reading : Stmt := topS 16
theorem sc_least_reading : FnScope ["drift", "stamps", "time", "stamp"] ["drift", "stamps", "time"] (defScope s_least_reading) := ⟨rfl, rfl, rfl, by decide +kernel, rfl, by decide +kernel, by decide +kernel⟩
def e1_least_reading : Of := (oE (eF (oCall F_least_by (aCons (eVar 0) (aCons (eVar 3) (aCons (eVar 2) aNil))))))
def b_least_reading : Sf := (sRet (eF (oCall F_greatest_of (aCons (eF (oLc [3] (iSeq (eVar 1)) (gNm 3) tYesF e1_least_reading)) aNil))))
abbrev sg_least_reading : Sg := ⟨[.sh, .sh, .sh], .sh⟩
abbrev ps_least_reading : List Str := ["drift", "stamps", "time"]
theorem c_least_reading {P : Program} {w : World} {K : PySem.W.Frag} {mg : Str → Option Value} {base : Heap} {f : Addr} {fd : FuncData} {k : Nat} (D : Dfn K mg "least_reading" s_least_reading ps_least_reading f fd) {f_greatest_of : Addr} {fd_greatest_of : FuncData} (c_greatest_of : Cal P w K mg base f_greatest_of fd_greatest_of "greatest_of" k ps_greatest_of sg_greatest_of F_greatest_of) {f_least_by : Addr} {fd_least_by : FuncData} (c_least_by : Cal P w K mg base f_least_by fd_least_by "least_by" k ps_least_by sg_least_by F_least_by) :
    Cal P w K mg base f fd "least_reading" (k + 1) ps_least_reading sg_least_reading (runF (b_least_reading) 3 1) := by
  unfold b_least_reading e1_least_reading
  exact cal_ok (sg := sg_least_reading) (τ' := [.no, .no, .no, .no]) D sc_least_reading ⟨[], .sh, [.no, .no, .no, .no], [], []⟩ 1 rfl rfl rfl rfl rfl rfl (.inl rfl) fun cdv A outer s H E hr => (dss_one (ds_ret (de_F (do_fn c_greatest_of hr 1 (by rfl) (da_cons (de_F (do_lc (own := [("stamp", 3)]) rfl sc_least_reading.nd (di_seq (de_var 1 (pv 1))) (blkOk_by (by kernel_rfl)) (fun _ _ _ _ _ => (dg_name 3 sc_least_reading.nd rfl (by first | exact .inl rfl | exact .inr rfl))) (fun _ _ _ _ _ => dts_nil) (fun _ _ _ _ _ => (do_E (de_F (do_fn c_least_by hr 3 (by rfl) (da_cons (de_var 0 (pv 0)) (da_cons (de_var 3 (pv 3)) (da_cons (de_var 2 (pv 2)) da_nil))))))))) da_nil)))))
def F_least_reading : Fm := runF b_least_reading 3 1
/-! ### least_of(values): slots 0 values 1 found 2 value -/
abbrev s_least_of : Stmt := topS 10
theorem sc_least_of : FnScope ["values", "found", "value"] ["values"] (defScope s_least_of) := ⟨rfl, rfl, rfl, by decide +kernel, rfl, by decide +kernel, by decide +kernel⟩
def q1_least_of : Sf := (sIf (tB (eF (oCall F_less (aCons (eVar 2) (aCons (eVar 1) aNil))))) (sAsg (eVar 2) (gNm 1)) sNil)
def b_least_of : Sf := (sSeq (sAsg (eBin dIx (eVar 0) (eC (.int 0))) (gNm 1)) (sSeq (sFor [2] (iSeq (eVar 0)) (gNm 2) q1_least_of) (sRet (eVar 1))))
abbrev sg_least_of : Sg := ⟨[.sh], .sh⟩
abbrev ps_least_of : List Str := ["values"]
theorem c_least_of {P : Program} {w : World} {K : PySem.W.Frag} {mg : Str → Option Value} {base : Heap} {f : Addr} {fd : FuncData} {k : Nat} (D : Dfn K mg "least_of" s_least_of ps_least_of f fd) {f_less : Addr} {fd_less : FuncData} (c_less : Cal P w K mg base f_less fd_less "less" k ps_less sg_less F_less) :
    Cal P w K mg base f fd "least_of" (k + 1) ps_least_of sg_least_of (runF (b_least_of) 1 2) := by
  unfold b_least_of q1_least_of
  exact cal_ok (sg := sg_least_of) (τ' := [.no, .no, .no]) D sc_least_of ⟨[], .sh, [.no, .no, .no], [], []⟩ 2 rfl rfl rfl rfl rfl rfl (.inl rfl) fun cdv A outer s H E hr => (dss_cons (ds_set 1 sc_least_of.nd rfl (by first | exact .inl rfl | exact .inr rfl) (de_ix ix_seq od_ix (de_var 0 (pv 0)) de_int (fun _ _ => rfl))) (dss_cons (ds_for (tbk := [.sh, .sh, .no]) (tct := [.sh, .sh, .no]) [2] PassesOwn.never rfl (di_seq (de_var 0 (pv 0))) (dg_name 2 sc_least_of.nd rfl (by first | exact .inl rfl | exact .inr rfl)) (dss_one (ds_if (dt_truth (de_F (do_fn c_less hr 2 (by rfl) (da_cons (de_var 2 (pv 2)) (da_cons (de_var 1 (pv 1)) da_nil))))) (dss_one (ds_set 1 sc_least_of.nd rfl (by first | exact .inl rfl | exact .inr rfl) (de_var 2 (pv 2)))) dss_nil))) (dss_one (ds_ret (de_var 1 (pv 1))))))
def F_least_of : Fm := runF b_least_of 1 2
/-! ### greatest_by(drift, stamp, time): slots 0 drift 1 stamp 2 time 3 turns -/
abbrev s_greatest_by : Stmt := topS 15
theorem sc_greatest_by : FnScope ["drift", "stamp", "time", "turns"] ["drift", "stamp", "time"] (defScope s_greatest_by) := ⟨rfl, rfl, rfl, by decide +kernel, rfl, by decide +kernel, by decide +kernel⟩
def b_greatest_by : Sf := (sSeq (sAsg (eBin dSub (eVar 2) (eBin dIx (eVar 1) (eC (.int 0)))) (gNm 3)) (sRet (eF (oCall F_grown (aCons (eBin dIx (eVar 1) (eC (.int 2))) (aCons (eIf (tBl (eBin dGe (eVar 3) (eC (.int 0)))) (eBin dIx (eVar 0) (eC (.int 1))) (eBin dIx (eVar 0) (eC (.int 0)))) (aCons (eVar 3) aNil)))))))
abbrev sg_greatest_by : Sg := ⟨[.sh, .sh, .sh], .sh⟩
abbrev ps_greatest_by : List Str := ["drift", "stamp", "time"]
theorem c_greatest_by {P : Program} {w : World} {K : PySem.W.Frag} {mg : Str → Option Value} {base : Heap} {f : Addr} {fd : FuncData} {k : Nat} (D : Dfn K mg "greatest_by" s_greatest_by ps_greatest_by f fd) {f_grown : Addr} {fd_grown : FuncData} (c_grown : Cal P w K mg base f_grown fd_grown "grown" k ps_grown sg_grown F_grown) :
    Cal P w K mg base f fd "greatest_by" (k + 1) ps_greatest_by sg_greatest_by (runF (b_greatest_by) 3 1) := by
  unfold b_greatest_by 
  exact cal_ok (sg := sg_greatest_by) (τ' := [.no, .no, .no, .no]) D sc_greatest_by ⟨[], .sh, [.no, .no, .no, .no], [], []⟩ 1 rfl rfl rfl rfl rfl rfl (.inl rfl) fun cdv A outer s H E hr => (dss_cons (ds_set 3 sc_greatest_by.nd rfl (by first | exact .inl rfl | exact .inr rfl) (de_bin op_sub od_sub (de_var 2 (pv 2)) (de_ix ix_seq od_ix (de_var 1 (pv 1)) de_int (fun _ _ => rfl)))) (dss_one (ds_ret (de_F (do_fn c_grown hr 3 (by rfl) (da_cons (de_ix ix_seq od_ix (de_var 1 (pv 1)) de_int (fun _ _ => rfl)) (da_cons (de_if (dt_cmp op_ge od_ge (de_var 3 (pv 3)) de_int (nomark _)) (de_ix ix_seq od_ix (de_var 0 (pv 0)) de_int (fun _ _ => rfl)) (de_ix ix_seq od_ix (de_var 0 (pv 0)) de_int (fun _ _ => rfl))) (da_cons (de_var 3 (pv 3)) da_nil))))))))
def F_greatest_by : Fm := runF b_greatest_by 3 1
/-! ### greatest_reading(drift, stamps, time): slots 0 drift 1 stamps 2 time 3 stamp -/
abbrev s_greatest_reading : Stmt := topS 17
theorem sc_greatest_reading : FnScope ["drift", "stamps", "time", "stamp"] ["drift", "stamps", "time"] (defScope s_greatest_reading) := ⟨rfl, rfl, rfl, by decide +kernel, rfl, by decide +kernel, by decide +kernel⟩
def e1_greatest_reading : Of := (oE (eF (oCall F_greatest_by (aCons (eVar 0) (aCons (eVar 3) (aCons (eVar 2) aNil))))))
def b_greatest_reading : Sf := (sRet (eF (oCall F_least_of (aCons (eF (oLc [3] (iSeq (eVar 1)) (gNm 3) tYesF e1_greatest_reading)) aNil))))
abbrev sg_greatest_reading : Sg := ⟨[.sh, .sh, .sh], .sh⟩
abbrev ps_greatest_reading : List Str := ["drift", "stamps", "time"]
theorem c_greatest_reading {P : Program} {w : World} {K : PySem.W.Frag} {mg : Str → Option Value} {base : Heap} {f : Addr} {fd : FuncData} {k : Nat} (D : Dfn K mg "greatest_reading" s_greatest_reading ps_greatest_reading f fd) {f_least_of : Addr} {fd_least_of : FuncData} (c_least_of : Cal P w K mg base f_least_of fd_least_of "least_of" k ps_least_of sg_least_of F_least_of) {f_greatest_by : Addr} {fd_greatest_by : FuncData} (c_greatest_by : Cal P w K mg base f_greatest_by fd_greatest_by "greatest_by" k ps_greatest_by sg_greatest_by F_greatest_by) :
    Cal P w K mg base f fd "greatest_reading" (k + 1) ps_greatest_reading sg_greatest_reading (runF (b_greatest_reading) 3 1) := by
  unfold b_greatest_reading e1_greatest_reading
  exact cal_ok (sg := sg_greatest_reading) (τ' := [.no, .no, .no, .no]) D sc_greatest_reading ⟨[], .sh, [.no, .no, .no, .no], [], []⟩ 1 rfl rfl rfl rfl rfl rfl (.inl rfl) fun cdv A outer s H E hr => (dss_one (ds_ret (de_F (do_fn c_least_of hr 1 (by rfl) (da_cons (de_F (do_lc (own := [("stamp", 3)]) rfl sc_greatest_reading.nd (di_seq (de_var 1 (pv 1))) (blkOk_by (by kernel_rfl)) (fun _ _ _ _ _ => (dg_name 3 sc_greatest_reading.nd rfl (by first | exact .inl rfl | exact .inr rfl))) (fun _ _ _ _ _ => dts_nil) (fun _ _ _ _ _ => (do_E (de_F (do_fn c_greatest_by hr 3 (by rfl) (da_cons (de_var 0 (pv 0)) (da_cons (de_var 3 (pv 3)) (da_cons (de_var 2 (pv 2)) da_nil))))))))) da_nil)))))
def F_greatest_reading : Fm := runF b_greatest_reading 3 1
/-! ### sure_readings(drift, stamps, a, b): slots 0 drift 1 stamps 2 a 3 b 4 most 5 above -/
abbrev s_sure_readings : Stmt := topS 22
theorem sc_sure_readings : FnScope ["drift", "stamps", "a", "b", "most", "above"] ["drift", "stamps", "a", "b"] (defScope s_sure_readings) := ⟨rfl, rfl, rfl, by decide +kernel, rfl, by decide +kernel, by decide +kernel⟩
def b_sure_readings : Sf := (sSeq (sAsg (eF (oCall F_least_reading (aCons (eVar 0) (aCons (eVar 1) (aCons (eVar 3) aNil))))) (gNm 4)) (sSeq (sIf (tBl (eBin dEq (eVar 2) (eC (.int 0)))) (sRet (eTup (aCons (eC .non) (aCons (eVar 4) aNil)))) sNil) (sSeq (sAsg (eF (oCall F_greatest_reading (aCons (eVar 0) (aCons (eVar 1) (aCons (eBin dSub (eVar 2) (eC (.int 1))) aNil))))) (gNm 5)) (sRet (eIf (tB (eF (oCall F_less (aCons (eVar 5) (aCons (eVar 4) aNil))))) (eTup (aCons (eVar 5) (aCons (eVar 4) aNil))) (eC .non))))))
abbrev sg_sure_readings : Sg := ⟨[.sh, .sh, .sh, .sh], .sh⟩
abbrev ps_sure_readings : List Str := ["drift", "stamps", "a", "b"]
theorem c_sure_readings {P : Program} {w : World} {K : PySem.W.Frag} {mg : Str → Option Value} {base : Heap} {f : Addr} {fd : FuncData} {k : Nat} (D : Dfn K mg "sure_readings" s_sure_readings ps_sure_readings f fd) {f_least_reading : Addr} {fd_least_reading : FuncData} (c_least_reading : Cal P w K mg base f_least_reading fd_least_reading "least_reading" k ps_least_reading sg_least_reading F_least_reading) {f_greatest_reading : Addr} {fd_greatest_reading : FuncData} (c_greatest_reading : Cal P w K mg base f_greatest_reading fd_greatest_reading "greatest_reading" k ps_greatest_reading sg_greatest_reading F_greatest_reading) {f_less : Addr} {fd_less : FuncData} (c_less : Cal P w K mg base f_less fd_less "less" k ps_less sg_less F_less) :
    Cal P w K mg base f fd "sure_readings" (k + 1) ps_sure_readings sg_sure_readings (runF (b_sure_readings) 4 2) := by
  unfold b_sure_readings 
  exact cal_ok (sg := sg_sure_readings) (τ' := [.no, .no, .no, .no, .no, .no]) D sc_sure_readings ⟨[], .sh, [.no, .no, .no, .no, .no, .no], [], []⟩ 2 rfl rfl rfl rfl rfl rfl (.inl rfl) fun cdv A outer s H E hr => (dss_cons (ds_set 4 sc_sure_readings.nd rfl (by first | exact .inl rfl | exact .inr rfl) (de_F (do_fn c_least_reading hr 3 (by rfl) (da_cons (de_var 0 (pv 0)) (da_cons (de_var 1 (pv 1)) (da_cons (de_var 3 (pv 3)) da_nil)))))) (dss_cons (ds_if (dt_cmp (op_eqD (hu64 hr)) od_eq (de_var 2 (pv 2)) de_int (nomark _)) (dss_one (ds_ret (de_tup (da_cons de_non (da_cons (de_var 4 (pv 4)) da_nil))))) dss_nil) (dss_cons (ds_set 5 sc_sure_readings.nd rfl (by first | exact .inl rfl | exact .inr rfl) (de_F (do_fn c_greatest_reading hr 3 (by rfl) (da_cons (de_var 0 (pv 0)) (da_cons (de_var 1 (pv 1)) (da_cons (de_bin op_sub od_sub (de_var 2 (pv 2)) de_int) da_nil)))))) (dss_one (ds_ret (de_if (dt_truth (de_F (do_fn c_less hr 2 (by rfl) (da_cons (de_var 5 (pv 5)) (da_cons (de_var 4 (pv 4)) da_nil))))) (de_tup (da_cons (de_var 5 (pv 5)) (da_cons (de_var 4 (pv 4)) da_nil))) de_non))))))
def F_sure_readings : Fm := runF b_sure_readings 4 2
/-! ### _law_same(actual, due): slots 0 actual 1 due 2 k -/
abbrev s__law_same : Stmt := topS 40
theorem sc__law_same : FnScope ["actual", "due", "k"] ["actual", "due"] (defScope s__law_same) := ⟨rfl, rfl, rfl, by decide +kernel, rfl, by decide +kernel, by decide +kernel⟩
def e1__law_same (G__law_same : Fm) : Of := (oE (eF (oCall G__law_same (aCons (eBin dIx (eVar 0) (eVar 2)) (aCons (eBin dIx (eVar 1) (eVar 2)) aNil)))))
def b__law_same (G__law_same : Fm) : Sf := (sSeq (sIf (tB (eIsLT (eVar 1))) (sSeq (sIf (tOr' (tBl (eBin dNe (eIsI .list (eVar 1)) (eIsI .list (eVar 0)))) (tBl (eBin dNe (eIsI .tuple (eVar 1)) (eIsI .tuple (eVar 0))))) (sRet (eC (.bl false))) sNil) (sSeq (sIf (tBl (eBin dNe (eCa (f1 lenD) (aCons (eVar 0) aNil)) (eCa (f1 lenD) (aCons (eVar 1) aNil)))) (sRet (eC (.bl false))) sNil) (sRet (eCa (f1 allD) (aCons (eF (oLc [2] (TL.iRng1 (aCons (eCa (f1 lenD) (aCons (eVar 1) aNil)) aNil)) (gNm 2) tYesF (e1__law_same G__law_same))) aNil))))) sNil) (sSeq (sIf (tBl (eBin dIs (eVar 1) (eC .non))) (sRet (eBin dIs (eVar 0) (eC .non))) sNil) (sSeq (sIf (tBl (eBin dNe (eIsI .bool (eVar 1)) (eIsI .bool (eVar 0)))) (sRet (eC (.bl false))) sNil) (sSeq (sIf (tB (eIsI .str (eVar 1))) (sRet (eAnd (eIsI .str (eVar 0)) (eBin dEq (eVar 0) (eVar 1)))) sNil) (sRet (eAnd (eIsI .int (eVar 0)) (eBin dEq (eVar 0) (eVar 1))))))))
abbrev sg__law_same : Sg := ⟨[.sh, .sh], .sh⟩
abbrev ps__law_same : List Str := ["actual", "due"]
theorem c__law_same {P : Program} {w : World} {K : PySem.W.Frag} {mg : Str → Option Value} {base : Heap} {f : Addr} {fd : FuncData} {k : Nat} {G__law_same : Fm} (D : Dfn K mg "_law_same" s__law_same ps__law_same f fd) {f__law_same : Addr} {fd__law_same : FuncData} (c__law_same : Cal P w K mg base f__law_same fd__law_same "_law_same" k ps__law_same sg__law_same G__law_same) (z_isinstance : mg "isinstance" = none) (z_list : mg "list" = none) (z_tuple : mg "tuple" = none) (z_len : mg "len" = none) (z_range : mg "range" = none) (z_all : mg "all" = none) (z_bool : mg "bool" = none) (z_str : mg "str" = none) (z_int : mg "int" = none) :
    Cal P w K mg base f fd "_law_same" (k + 1) ps__law_same sg__law_same (runF (b__law_same G__law_same) 2 1) := by
  unfold b__law_same e1__law_same
  exact cal_ok (sg := sg__law_same) (τ' := [.no, .no, .no]) D sc__law_same ⟨[], .sh, [.no, .no, .no], [], []⟩ 1 rfl rfl rfl rfl rfl rfl (.inl rfl) fun cdv A outer s H E hr => (dss_cons (ds_if (dt_truth (de_isLT (by rfl) z_isinstance bt_isinstance (by rfl) z_list bt_list (by rfl) z_tuple bt_tuple (de_var 1 (pv 1)))) (dss_cons (ds_if (dt_w (dw_or (dt_cmp (op_neD (hu64 hr)) od_ne (de_isI .list (by rfl) z_isinstance bt_isinstance (by rfl) z_list bt_list (de_var 1 (pv 1))) (de_isI .list (by rfl) z_isinstance bt_isinstance (by rfl) z_list bt_list (de_var 0 (pv 0))) (nomark _)) (dw_or1 (dt_cmp (op_neD (hu64 hr)) od_ne (de_isI .tuple (by rfl) z_isinstance bt_isinstance (by rfl) z_tuple bt_tuple (de_var 1 (pv 1))) (de_isI .tuple (by rfl) z_isinstance bt_isinstance (by rfl) z_tuple bt_tuple (de_var 0 (pv 0))) (nomark _))))) (dss_one (ds_ret de_bl)) dss_nil) (dss_cons (ds_if (dt_cmp (op_neD (hu64 hr)) od_ne (de_callB call_len ca_len (by rfl) z_len bt_len (da_cons (de_var 0 (pv 0)) da_nil)) (de_callB call_len ca_len (by rfl) z_len bt_len (da_cons (de_var 1 (pv 1)) da_nil)) (nomark _)) (dss_one (ds_ret de_bl)) dss_nil) (dss_one (ds_ret (de_callB (cr_all rfl) ca_all (by rfl) z_all bt_all (da_cons (de_F (do_lc (own := [("k", 2)]) rfl sc__law_same.nd (di_range1 (by rfl) z_range (da_cons (de_callB call_len ca_len (by rfl) z_len bt_len (da_cons (de_var 1 (pv 1)) da_nil)) da_nil)) (blkOk_by (by kernel_rfl)) (fun _ _ _ _ _ => (dg_name 2 sc__law_same.nd rfl (by first | exact .inl rfl | exact .inr rfl))) (fun _ _ _ _ _ => dts_nil) (fun _ _ _ _ _ => (do_E (de_F (do_fn c__law_same hr 2 (by rfl) (da_cons (de_ix ix_seq od_ix (de_var 0 (pv 0)) (de_var 2 (pv 2)) (fun _ _ => rfl)) (da_cons (de_ix ix_seq od_ix (de_var 1 (pv 1)) (de_var 2 (pv 2)) (fun _ _ => rfl)) da_nil)))))))) da_nil)))))) dss_nil) (dss_cons (ds_if (dt_cmp op_isD od_is (de_var 1 (pv 1)) de_non (nomark _)) (dss_one (ds_ret (de_cmp op_isD od_is (de_var 0 (pv 0)) de_non (nomark _)))) dss_nil) (dss_cons (ds_if (dt_cmp (op_neD (hu64 hr)) od_ne (de_isI .bool (by rfl) z_isinstance bt_isinstance (by rfl) z_bool bt_bool (de_var 1 (pv 1))) (de_isI .bool (by rfl) z_isinstance bt_isinstance (by rfl) z_bool bt_bool (de_var 0 (pv 0))) (nomark _)) (dss_one (ds_ret de_bl)) dss_nil) (dss_cons (ds_if (dt_truth (de_isI .str (by rfl) z_isinstance bt_isinstance (by rfl) z_str bt_str (de_var 1 (pv 1)))) (dss_one (ds_ret (de_and (de_isI .str (by rfl) z_isinstance bt_isinstance (by rfl) z_str bt_str (de_var 0 (pv 0))) (de_one (de_cmp (op_eqD (hu64 hr)) od_eq (de_var 0 (pv 0)) (de_var 1 (pv 1)) (nomark _)))))) dss_nil) (dss_one (ds_ret (de_and (de_isI .int (by rfl) z_isinstance bt_isinstance (by rfl) z_int bt_int (de_var 0 (pv 0))) (de_one (de_cmp (op_eqD (hu64 hr)) od_eq (de_var 0 (pv 0)) (de_var 1 (pv 1)) (nomark _))))))))))
def R__law_same : Nat → Fm
  | 0 => fun _ => none
  | r + 1 => runF (b__law_same (R__law_same r)) 2 1
def F__law_same : Fm := R__law_same 8
/-! ### subtract(one, other): slots 0 one 1 other -/
abbrev s_subtract : Stmt := topS 4
theorem sc_subtract : FnScope ["one", "other"] ["one", "other"] (defScope s_subtract) := ⟨rfl, rfl, rfl, by decide +kernel, rfl, by decide +kernel, by decide +kernel⟩
def b_subtract : Sf := (sRet (eF (oCall F_ratio (aCons (eBin dSub (eBin dMul (eBin dIx (eVar 0) (eC (.int 0))) (eBin dIx (eVar 1) (eC (.int 1)))) (eBin dMul (eBin dIx (eVar 1) (eC (.int 0))) (eBin dIx (eVar 0) (eC (.int 1))))) (aCons (eBin dMul (eBin dIx (eVar 0) (eC (.int 1))) (eBin dIx (eVar 1) (eC (.int 1)))) aNil)))))
abbrev sg_subtract : Sg := ⟨[.sh, .sh], .sh⟩
abbrev ps_subtract : List Str := ["one", "other"]
theorem c_subtract {P : Program} {w : World} {K : PySem.W.Frag} {mg : Str → Option Value} {base : Heap} {f : Addr} {fd : FuncData} {k : Nat} (D : Dfn K mg "subtract" s_subtract ps_subtract f fd) {f_ratio : Addr} {fd_ratio : FuncData} (c_ratio : Cal P w K mg base f_ratio fd_ratio "ratio" k ps_ratio sg_ratio F_ratio) :
    Cal P w K mg base f fd "subtract" (k + 1) ps_subtract sg_subtract (runF (b_subtract) 2 0) := by
  unfold b_subtract 
  exact cal_ok (sg := sg_subtract) (τ' := [.no, .no]) D sc_subtract ⟨[], .sh, [.no, .no], [], []⟩ 0 rfl rfl rfl rfl rfl rfl (.inl rfl) fun cdv A outer s H E hr => (dss_one (ds_ret (de_F (do_fn c_ratio hr 2 (by rfl) (da_cons (de_bin op_sub od_sub (de_bin op_mulD od_mul (de_ix ix_seq od_ix (de_var 0 (pv 0)) de_int (fun _ _ => rfl)) (de_ix ix_seq od_ix (de_var 1 (pv 1)) de_int (fun _ _ => rfl))) (de_bin op_mulD od_mul (de_ix ix_seq od_ix (de_var 1 (pv 1)) de_int (fun _ _ => rfl)) (de_ix ix_seq od_ix (de_var 0 (pv 0)) de_int (fun _ _ => rfl)))) (da_cons (de_bin op_mulD od_mul (de_ix ix_seq od_ix (de_var 0 (pv 0)) de_int (fun _ _ => rfl)) (de_ix ix_seq od_ix (de_var 1 (pv 1)) de_int (fun _ _ => rfl))) da_nil))))))
def F_subtract : Fm := runF b_subtract 2 0
/-! ### floor_of(value): slots 0 value -/
abbrev s_floor_of : Stmt := topS 8
theorem sc_floor_of : FnScope ["value"] ["value"] (defScope s_floor_of) := ⟨rfl, rfl, rfl, by decide +kernel, rfl, by decide +kernel, by decide +kernel⟩
def b_floor_of : Sf := (sRet (eBin dDiv (eBin dIx (eVar 0) (eC (.int 0))) (eBin dIx (eVar 0) (eC (.int 1)))))
abbrev sg_floor_of : Sg := ⟨[.sh], .sh⟩
abbrev ps_floor_of : List Str := ["value"]
theorem c_floor_of {P : Program} {w : World} {K : PySem.W.Frag} {mg : Str → Option Value} {base : Heap} {f : Addr} {fd : FuncData} {k : Nat} (D : Dfn K mg "floor_of" s_floor_of ps_floor_of f fd) :
    Cal P w K mg base f fd "floor_of" (k + 1) ps_floor_of sg_floor_of (runF (b_floor_of) 1 0) := by
  unfold b_floor_of 
  exact cal_ok (sg := sg_floor_of) (τ' := [.no]) D sc_floor_of ⟨[], .sh, [.no], [], []⟩ 0 rfl rfl rfl rfl rfl rfl (.inl rfl) fun cdv A outer s H E hr => (dss_one (ds_ret (de_bin op_fdivW od_div (de_ix ix_seq od_ix (de_var 0 (pv 0)) de_int (fun _ _ => rfl)) (de_ix ix_seq od_ix (de_var 0 (pv 0)) de_int (fun _ _ => rfl)))))
def F_floor_of : Fm := runF b_floor_of 1 0
/-! ### divide(one, other): slots 0 one 1 other -/
abbrev s_divide : Stmt := topS 6
theorem sc_divide : FnScope ["one", "other"] ["one", "other"] (defScope s_divide) := ⟨rfl, rfl, rfl, by decide +kernel, rfl, by decide +kernel, by decide +kernel⟩
def b_divide : Sf := (sRet (eF (oCall F_ratio (aCons (eBin dMul (eBin dIx (eVar 0) (eC (.int 0))) (eBin dIx (eVar 1) (eC (.int 1)))) (aCons (eBin dMul (eBin dIx (eVar 0) (eC (.int 1))) (eBin dIx (eVar 1) (eC (.int 0)))) aNil)))))
abbrev sg_divide : Sg := ⟨[.sh, .sh], .sh⟩
abbrev ps_divide : List Str := ["one", "other"]
theorem c_divide {P : Program} {w : World} {K : PySem.W.Frag} {mg : Str → Option Value} {base : Heap} {f : Addr} {fd : FuncData} {k : Nat} (D : Dfn K mg "divide" s_divide ps_divide f fd) {f_ratio : Addr} {fd_ratio : FuncData} (c_ratio : Cal P w K mg base f_ratio fd_ratio "ratio" k ps_ratio sg_ratio F_ratio) :
    Cal P w K mg base f fd "divide" (k + 1) ps_divide sg_divide (runF (b_divide) 2 0) := by
  unfold b_divide 
  exact cal_ok (sg := sg_divide) (τ' := [.no, .no]) D sc_divide ⟨[], .sh, [.no, .no], [], []⟩ 0 rfl rfl rfl rfl rfl rfl (.inl rfl) fun cdv A outer s H E hr => (dss_one (ds_ret (de_F (do_fn c_ratio hr 2 (by rfl) (da_cons (de_bin op_mulD od_mul (de_ix ix_seq od_ix (de_var 0 (pv 0)) de_int (fun _ _ => rfl)) (de_ix ix_seq od_ix (de_var 1 (pv 1)) de_int (fun _ _ => rfl))) (da_cons (de_bin op_mulD od_mul (de_ix ix_seq od_ix (de_var 0 (pv 0)) de_int (fun _ _ => rfl)) (de_ix ix_seq od_ix (de_var 1 (pv 1)) de_int (fun _ _ => rfl))) da_nil))))))
def F_divide : Fm := runF b_divide 2 0
/-! ### last_with(drift, stamp, reading): slots 0 drift 1 stamp 2 reading 3 apart 4 rate 5 time 6 least 7 _ -/
abbrev s_last_with : Stmt := topS 20
theorem sc_last_with : FnScope ["drift", "stamp", "reading", "apart", "rate", "time", "least", "_"] ["drift", "stamp", "reading"] (defScope s_last_with) := ⟨rfl, rfl, rfl, by decide +kernel, rfl, by decide +kernel, by decide +kernel⟩
def b_last_with : Sf := (sSeq (sAsg (eVar 1) (gTp (gsCons (gNm 5) (gsCons (gNm 6) (gsCons (gNm 7) gsNil))))) (sSeq (sAsg (eF (oCall F_subtract (aCons (eVar 2) (aCons (eVar 6) aNil)))) (gNm 3)) (sSeq (sAsg (eIf (tB (eF (oCall F_less (aCons (eVar 3) (aCons (eTup (aCons (eC (.int 0)) (aCons (eC (.int 1)) aNil))) aNil))))) (eBin dIx (eVar 0) (eC (.int 1))) (eBin dIx (eVar 0) (eC (.int 0)))) (gNm 4)) (sRet (eBin dAdd (eVar 5) (eF (oCall F_floor_of (aCons (eF (oCall F_divide (aCons (eVar 3) (aCons (eVar 4) aNil)))) aNil))))))))
abbrev sg_last_with : Sg := ⟨[.sh, .sh, .sh], .sh⟩
abbrev ps_last_with : List Str := ["drift", "stamp", "reading"]
theorem c_last_with {P : Program} {w : World} {K : PySem.W.Frag} {mg : Str → Option Value} {base : Heap} {f : Addr} {fd : FuncData} {k : Nat} (D : Dfn K mg "last_with" s_last_with ps_last_with f fd) {f_subtract : Addr} {fd_subtract : FuncData} (c_subtract : Cal P w K mg base f_subtract fd_subtract "subtract" k ps_subtract sg_subtract F_subtract) {f_less : Addr} {fd_less : FuncData} (c_less : Cal P w K mg base f_less fd_less "less" k ps_less sg_less F_less) {f_floor_of : Addr} {fd_floor_of : FuncData} (c_floor_of : Cal P w K mg base f_floor_of fd_floor_of "floor_of" k ps_floor_of sg_floor_of F_floor_of) {f_divide : Addr} {fd_divide : FuncData} (c_divide : Cal P w K mg base f_divide fd_divide "divide" k ps_divide sg_divide F_divide) :
    Cal P w K mg base f fd "last_with" (k + 1) ps_last_with sg_last_with (runF (b_last_with) 3 5) := by
  unfold b_last_with 
  exact cal_ok (sg := sg_last_with) (τ' := [.no, .no, .no, .no, .no, .no, .no, .no]) D sc_last_with ⟨[], .sh, [.no, .no, .no, .no, .no, .no, .no, .no], [], []⟩ 5 rfl rfl rfl rfl rfl rfl (.inl rfl) fun cdv A outer s H E hr => (dss_cons (ds_asg (de_var 1 (pv 1)) (dg_tup rfl (dgs_cons (dg_name 5 sc_last_with.nd rfl (by first | exact .inl rfl | exact .inr rfl)) (dgs_cons (dg_name 6 sc_last_with.nd rfl (by first | exact .inl rfl | exact .inr rfl)) (dgs_cons (dg_name 7 sc_last_with.nd rfl (by first | exact .inl rfl | exact .inr rfl)) dgs_nil))) (gsCons_len (gsCons_len (gsCons_len gsNil_len))))) (dss_cons (ds_set 3 sc_last_with.nd rfl (by first | exact .inl rfl | exact .inr rfl) (de_F (do_fn c_subtract hr 2 (by rfl) (da_cons (de_var 2 (pv 2)) (da_cons (de_var 6 (pv 6)) da_nil))))) (dss_cons (ds_set 4 sc_last_with.nd rfl (by first | exact .inl rfl | exact .inr rfl) (de_if (dt_truth (de_F (do_fn c_less hr 2 (by rfl) (da_cons (de_var 3 (pv 3)) (da_cons (de_tup (da_cons de_int (da_cons de_int da_nil))) da_nil))))) (de_ix ix_seq od_ix (de_var 0 (pv 0)) de_int (fun _ _ => rfl)) (de_ix ix_seq od_ix (de_var 0 (pv 0)) de_int (fun _ _ => rfl)))) (dss_one (ds_ret (de_bin op_addD od_add (de_var 5 (pv 5)) (de_F (do_fn c_floor_of hr 1 (by rfl) (da_cons (de_F (do_fn c_divide hr 2 (by rfl) (da_cons (de_var 3 (pv 3)) (da_cons (de_var 4 (pv 4)) da_nil)))) da_nil)))))))))
def F_last_with : Fm := runF b_last_with 3 5
/-! ### ceiling_of(value): slots 0 value -/
abbrev s_ceiling_of : Stmt := topS 9
theorem sc_ceiling_of : FnScope ["value"] ["value"] (defScope s_ceiling_of) := ⟨rfl, rfl, rfl, by decide +kernel, rfl, by decide +kernel, by decide +kernel⟩
def b_ceiling_of : Sf := (sRet (eUn dNeg (eBin dDiv (eUn dNeg (eBin dIx (eVar 0) (eC (.int 0)))) (eBin dIx (eVar 0) (eC (.int 1))))))
abbrev sg_ceiling_of : Sg := ⟨[.sh], .sh⟩
abbrev ps_ceiling_of : List Str := ["value"]
theorem c_ceiling_of {P : Program} {w : World} {K : PySem.W.Frag} {mg : Str → Option Value} {base : Heap} {f : Addr} {fd : FuncData} {k : Nat} (D : Dfn K mg "ceiling_of" s_ceiling_of ps_ceiling_of f fd) :
    Cal P w K mg base f fd "ceiling_of" (k + 1) ps_ceiling_of sg_ceiling_of (runF (b_ceiling_of) 1 0) := by
  unfold b_ceiling_of 
  exact cal_ok (sg := sg_ceiling_of) (τ' := [.no]) D sc_ceiling_of ⟨[], .sh, [.no], [], []⟩ 0 rfl rfl rfl rfl rfl rfl (.inl rfl) fun cdv A outer s H E hr => (dss_one (ds_ret (de_un un_neg ud_neg (de_bin op_fdivW od_div (de_un un_neg ud_neg (de_ix ix_seq od_ix (de_var 0 (pv 0)) de_int (fun _ _ => rfl))) (de_ix ix_seq od_ix (de_var 0 (pv 0)) de_int (fun _ _ => rfl))))))
def F_ceiling_of : Fm := runF b_ceiling_of 1 0
/-! ### first_with(drift, stamp, reading): slots 0 drift 1 stamp 2 reading 3 apart 4 rate 5 time 6 _ 7 most -/
abbrev s_first_with : Stmt := topS 19
theorem sc_first_with : FnScope ["drift", "stamp", "reading", "apart", "rate", "time", "_", "most"] ["drift", "stamp", "reading"] (defScope s_first_with) := ⟨rfl, rfl, rfl, by decide +kernel, rfl, by decide +kernel, by decide +kernel⟩
def b_first_with : Sf := (sSeq (sAsg (eVar 1) (gTp (gsCons (gNm 5) (gsCons (gNm 6) (gsCons (gNm 7) gsNil))))) (sSeq (sAsg (eF (oCall F_subtract (aCons (eVar 2) (aCons (eVar 7) aNil)))) (gNm 3)) (sSeq (sAsg (eIf (tB (eF (oCall F_less (aCons (eTup (aCons (eC (.int 0)) (aCons (eC (.int 1)) aNil))) (aCons (eVar 3) aNil))))) (eBin dIx (eVar 0) (eC (.int 1))) (eBin dIx (eVar 0) (eC (.int 0)))) (gNm 4)) (sRet (eBin dAdd (eVar 5) (eF (oCall F_ceiling_of (aCons (eF (oCall F_divide (aCons (eVar 3) (aCons (eVar 4) aNil)))) aNil))))))))
abbrev sg_first_with : Sg := ⟨[.sh, .sh, .sh], .sh⟩
abbrev ps_first_with : List Str := ["drift", "stamp", "reading"]
theorem c_first_with {P : Program} {w : World} {K : PySem.W.Frag} {mg : Str → Option Value} {base : Heap} {f : Addr} {fd : FuncData} {k : Nat} (D : Dfn K mg "first_with" s_first_with ps_first_with f fd) {f_subtract : Addr} {fd_subtract : FuncData} (c_subtract : Cal P w K mg base f_subtract fd_subtract "subtract" k ps_subtract sg_subtract F_subtract) {f_less : Addr} {fd_less : FuncData} (c_less : Cal P w K mg base f_less fd_less "less" k ps_less sg_less F_less) {f_ceiling_of : Addr} {fd_ceiling_of : FuncData} (c_ceiling_of : Cal P w K mg base f_ceiling_of fd_ceiling_of "ceiling_of" k ps_ceiling_of sg_ceiling_of F_ceiling_of) {f_divide : Addr} {fd_divide : FuncData} (c_divide : Cal P w K mg base f_divide fd_divide "divide" k ps_divide sg_divide F_divide) :
    Cal P w K mg base f fd "first_with" (k + 1) ps_first_with sg_first_with (runF (b_first_with) 3 5) := by
  unfold b_first_with 
  exact cal_ok (sg := sg_first_with) (τ' := [.no, .no, .no, .no, .no, .no, .no, .no]) D sc_first_with ⟨[], .sh, [.no, .no, .no, .no, .no, .no, .no, .no], [], []⟩ 5 rfl rfl rfl rfl rfl rfl (.inl rfl) fun cdv A outer s H E hr => (dss_cons (ds_asg (de_var 1 (pv 1)) (dg_tup rfl (dgs_cons (dg_name 5 sc_first_with.nd rfl (by first | exact .inl rfl | exact .inr rfl)) (dgs_cons (dg_name 6 sc_first_with.nd rfl (by first | exact .inl rfl | exact .inr rfl)) (dgs_cons (dg_name 7 sc_first_with.nd rfl (by first | exact .inl rfl | exact .inr rfl)) dgs_nil))) (gsCons_len (gsCons_len (gsCons_len gsNil_len))))) (dss_cons (ds_set 3 sc_first_with.nd rfl (by first | exact .inl rfl | exact .inr rfl) (de_F (do_fn c_subtract hr 2 (by rfl) (da_cons (de_var 2 (pv 2)) (da_cons (de_var 7 (pv 7)) da_nil))))) (dss_cons (ds_set 4 sc_first_with.nd rfl (by first | exact .inl rfl | exact .inr rfl) (de_if (dt_truth (de_F (do_fn c_less hr 2 (by rfl) (da_cons (de_tup (da_cons de_int (da_cons de_int da_nil))) (da_cons (de_var 3 (pv 3)) da_nil))))) (de_ix ix_seq od_ix (de_var 0 (pv 0)) de_int (fun _ _ => rfl)) (de_ix ix_seq od_ix (de_var 0 (pv 0)) de_int (fun _ _ => rfl)))) (dss_one (ds_ret (de_bin op_addD od_add (de_var 5 (pv 5)) (de_F (do_fn c_ceiling_of hr 1 (by rfl) (da_cons (de_F (do_fn c_divide hr 2 (by rfl) (da_cons (de_var 3 (pv 3)) (da_cons (de_var 4 (pv 4)) da_nil)))) da_nil)))))))))
def F_first_with : Fm := runF b_first_with 3 5
/-! ### times_of(drift, stamps, reading): slots 0 drift 1 stamps 2 reading 3 first 4 last 5 stamp -/
abbrev s_times_of : Stmt := topS 21
theorem sc_times_of : FnScope ["drift", "stamps", "reading", "first", "last", "stamp"] ["drift", "stamps", "reading"] (defScope s_times_of) := ⟨rfl, rfl, rfl, by decide +kernel, rfl, by decide +kernel, by decide +kernel⟩
def e1_times_of : Of := (oE (eF (oCall F_first_with (aCons (eVar 0) (aCons (eVar 5) (aCons (eVar 2) aNil))))))
def e2_times_of : Of := (oE (eF (oCall F_last_with (aCons (eVar 0) (aCons (eVar 5) (aCons (eVar 2) aNil))))))
def b_times_of : Sf := (sSeq (sAsg (eCa (f1 maxD) (aCons (eBin dAdd (eF (oLst (aCons (eC (.int 0)) aNil))) (eF (oLc [5] (iSeq (eVar 1)) (gNm 5) tYesF e1_times_of))) aNil)) (gNm 3)) (sSeq (sAsg (eCa (f1 minD) (aCons (eF (oLc [5] (iSeq (eVar 1)) (gNm 5) tYesF e2_times_of)) aNil)) (gNm 4)) (sRet (eIf (tBl (eBin dLe (eVar 3) (eVar 4))) (eTup (aCons (eVar 3) (aCons (eVar 4) aNil))) (eC .non)))))
abbrev sg_times_of : Sg := ⟨[.sh, .sh, .sh], .sh⟩
abbrev ps_times_of : List Str := ["drift", "stamps", "reading"]
theorem c_times_of {P : Program} {w : World} {K : PySem.W.Frag} {mg : Str → Option Value} {base : Heap} {f : Addr} {fd : FuncData} {k : Nat} (D : Dfn K mg "times_of" s_times_of ps_times_of f fd) {f_first_with : Addr} {fd_first_with : FuncData} (c_first_with : Cal P w K mg base f_first_with fd_first_with "first_with" k ps_first_with sg_first_with F_first_with) {f_last_with : Addr} {fd_last_with : FuncData} (c_last_with : Cal P w K mg base f_last_with fd_last_with "last_with" k ps_last_with sg_last_with F_last_with) (z_max : mg "max" = none) (z_min : mg "min" = none) :
    Cal P w K mg base f fd "times_of" (k + 1) ps_times_of sg_times_of (runF (b_times_of) 3 3) := by
  unfold b_times_of e2_times_of e1_times_of
  exact cal_ok (sg := sg_times_of) (τ' := [.no, .no, .no, .no, .no, .no]) D sc_times_of ⟨[], .sh, [.no, .no, .no, .no, .no, .no], [], []⟩ 3 rfl rfl rfl rfl rfl rfl (.inl rfl) fun cdv A outer s H E hr => (dss_cons (ds_set 3 sc_times_of.nd rfl (by first | exact .inl rfl | exact .inr rfl) (de_callB (cr_max rfl) ca_max (by rfl) z_max bt_max (da_cons (de_bin op_addD od_add (de_F (do_lst (da_cons de_int da_nil))) (de_F (do_lc (own := [("stamp", 5)]) rfl sc_times_of.nd (di_seq (de_var 1 (pv 1))) (blkOk_by (by kernel_rfl)) (fun _ _ _ _ _ => (dg_name 5 sc_times_of.nd rfl (by first | exact .inl rfl | exact .inr rfl))) (fun _ _ _ _ _ => dts_nil) (fun _ _ _ _ _ => (do_E (de_F (do_fn c_first_with hr 3 (by rfl) (da_cons (de_var 0 (pv 0)) (da_cons (de_var 5 (pv 5)) (da_cons (de_var 2 (pv 2)) da_nil)))))))))) da_nil))) (dss_cons (ds_set 4 sc_times_of.nd rfl (by first | exact .inl rfl | exact .inr rfl) (de_callB (cr_min rfl) ca_min (by rfl) z_min bt_min (da_cons (de_F (do_lc (own := [("stamp", 5)]) rfl sc_times_of.nd (di_seq (de_var 1 (pv 1))) (blkOk_by (by kernel_rfl)) (fun _ _ _ _ _ => (dg_name 5 sc_times_of.nd rfl (by first | exact .inl rfl | exact .inr rfl))) (fun _ _ _ _ _ => dts_nil) (fun _ _ _ _ _ => (do_E (de_F (do_fn c_last_with hr 3 (by rfl) (da_cons (de_var 0 (pv 0)) (da_cons (de_var 5 (pv 5)) (da_cons (de_var 2 (pv 2)) da_nil))))))))) da_nil))) (dss_one (ds_ret (de_if (dt_cmp op_le od_le (de_var 3 (pv 3)) (de_var 4 (pv 4)) (nomark _)) (de_tup (da_cons (de_var 3 (pv 3)) (da_cons (de_var 4 (pv 4)) da_nil))) de_non)))))
def F_times_of : Fm := runF b_times_of 3 3
/-! ### flag_at(calendar, time): slots 0 calendar 1 time 2 head 3 turn -/
abbrev s_flag_at : Stmt := topS 24
theorem sc_flag_at : FnScope ["calendar", "time", "head", "turn"] ["calendar", "time"] (defScope s_flag_at) := ⟨rfl, rfl, rfl, by decide +kernel, rfl, by decide +kernel, by decide +kernel⟩
def b_flag_at : Sf := (sSeq (sAsg (eVar 0) (gTp (gsCons (gNm 2) (gsCons (gNm 3) gsNil)))) (sSeq (sIf (tBl (eBin dLt (eVar 1) (eCa (f1 lenD) (aCons (eVar 2) aNil)))) (sRet (eBin dIx (eVar 2) (eVar 1))) sNil) (sRet (eBin dIx (eVar 3) (eBin dMod (eBin dSub (eVar 1) (eCa (f1 lenD) (aCons (eVar 2) aNil))) (eCa (f1 lenD) (aCons (eVar 3) aNil)))))))
abbrev sg_flag_at : Sg := ⟨[.sh, .sh], .sh⟩
abbrev ps_flag_at : List Str := ["calendar", "time"]
theorem c_flag_at {P : Program} {w : World} {K : PySem.W.Frag} {mg : Str → Option Value} {base : Heap} {f : Addr} {fd : FuncData} {k : Nat} (D : Dfn K mg "flag_at" s_flag_at ps_flag_at f fd) (z_len : mg "len" = none) :
    Cal P w K mg base f fd "flag_at" (k + 1) ps_flag_at sg_flag_at (runF (b_flag_at) 2 2) := by
  unfold b_flag_at 
  exact cal_ok (sg := sg_flag_at) (τ' := [.no, .no, .no, .no]) D sc_flag_at ⟨[], .sh, [.no, .no, .no, .no], [], []⟩ 2 rfl rfl rfl rfl rfl rfl (.inl rfl) fun cdv A outer s H E hr => (dss_cons (ds_asg (de_var 0 (pv 0)) (dg_tup rfl (dgs_cons (dg_name 2 sc_flag_at.nd rfl (by first | exact .inl rfl | exact .inr rfl)) (dgs_cons (dg_name 3 sc_flag_at.nd rfl (by first | exact .inl rfl | exact .inr rfl)) dgs_nil)) (gsCons_len (gsCons_len gsNil_len)))) (dss_cons (ds_if (dt_cmp op_lt od_lt (de_var 1 (pv 1)) (de_callB call_len ca_len (by rfl) z_len bt_len (da_cons (de_var 2 (pv 2)) da_nil)) (nomark _)) (dss_one (ds_ret (de_ix ix_seq od_ix (de_var 2 (pv 2)) (de_var 1 (pv 1)) (fun _ _ => rfl)))) dss_nil) (dss_one (ds_ret (de_ix ix_seq od_ix (de_var 3 (pv 3)) (de_bin op_mod od_mod (de_bin op_sub od_sub (de_var 1 (pv 1)) (de_callB call_len ca_len (by rfl) z_len bt_len (da_cons (de_var 2 (pv 2)) da_nil))) (de_callB call_len ca_len (by rfl) z_len bt_len (da_cons (de_var 3 (pv 3)) da_nil))) (fun _ _ => rfl))))))
def F_flag_at : Fm := runF b_flag_at 2 2
/-! ### spans(calendar, first, last): slots 0 calendar 1 first 2 last 3 found 4 time -/
abbrev s_spans : Stmt := topS 29
theorem sc_spans : FnScope ["calendar", "first", "last", "found", "time"] ["calendar", "first", "last"] (defScope s_spans) := ⟨rfl, rfl, rfl, by decide +kernel, rfl, by decide +kernel, by decide +kernel⟩
def q1_spans : Sf := (sSeq (sIf (tBl (eBin dEq (eF (oCall F_flag_at (aCons (eVar 0) (aCons (eVar 4) aNil)))) (eC (.int 0)))) (sKb [4] sCont) sNil) (sIf (tAnd' (tB (eOwn 3)) (tBl (eBin dEq (eBin dIx (eBin dIx (eOwn 3) (eUn dNeg (eC (.int 1)))) (eC (.int 1))) (eBin dSub (eVar 4) (eC (.int 1)))))) (sSetIx 3 (eTup (aCons (eBin dIx (eBin dIx (eOwn 3) (eUn dNeg (eC (.int 1)))) (eC (.int 0))) (aCons (eVar 4) aNil))) (eUn dNeg (eC (.int 1)))) (sApp 3 (eTup (aCons (eVar 4) (aCons (eVar 4) aNil))))))
def b_spans : Sf := (sSeq (sSetO 3 (oLst aNil)) (sSeq (sFor [4] (TL.iRng2 (aCons (eVar 1) (aCons (eBin dAdd (eVar 2) (eC (.int 1))) aNil))) (gNm 4) q1_spans) (sRet (eVar 3))))
abbrev sg_spans : Sg := ⟨[.sh, .sh, .sh], .sh⟩
abbrev ps_spans : List Str := ["calendar", "first", "last"]
theorem c_spans {P : Program} {w : World} {K : PySem.W.Frag} {mg : Str → Option Value} {base : Heap} {f : Addr} {fd : FuncData} {k : Nat} (D : Dfn K mg "spans" s_spans ps_spans f fd) {f_flag_at : Addr} {fd_flag_at : FuncData} (c_flag_at : Cal P w K mg base f_flag_at fd_flag_at "flag_at" k ps_flag_at sg_flag_at F_flag_at) (z_range : mg "range" = none) :
    Cal P w K mg base f fd "spans" (k + 1) ps_spans sg_spans (runF (b_spans) 3 2) := by
  unfold b_spans q1_spans
  exact cal_ok (sg := sg_spans) (τ' := [.no, .no, .no, .no, .no]) D sc_spans ⟨[], .sh, [.no, .no, .no, .no, .no], [], []⟩ 2 rfl rfl rfl rfl rfl rfl (.inl rfl) fun cdv A outer s H E hr => (dss_cons (ds_setO 3 sc_spans.nd rfl (by first | exact .inl rfl | exact .inr rfl) (do_lst da_nil)) (dss_cons (ds_for (tbk := [.sh, .sh, .sh, (.oL .sh), .no]) (tct := [.sh, .sh, .sh, (.oL .sh), .no]) [4] PassesOwn.never rfl (di_range2 (by rfl) z_range (da_cons (de_var 1 (pv 1)) (da_cons (de_bin op_addD od_add (de_var 2 (pv 2)) de_int) da_nil))) (dg_name 4 sc_spans.nd rfl (by first | exact .inl rfl | exact .inr rfl)) (dss_cons (ds_if (dt_cmp (op_eqD (hu64 hr)) od_eq (de_F (do_fn c_flag_at hr 2 (by rfl) (da_cons (de_var 0 (pv 0)) (da_cons (de_var 4 (pv 4)) da_nil)))) de_int (nomark _)) (dss_killB [4] (dss_one ds_cont)) dss_nil) (dss_one (ds_if (dt_w (dw_and (dt_truth (de_own 3 (pv 3))) (dw_and1 (dt_cmp (op_eqD (hu64 hr)) od_eq (de_ix ix_seq od_ix (de_ix ix_seq od_ix (de_own 3 (pv 3)) (de_un un_neg ud_neg de_int) (fun _ _ => rfl)) de_int (fun _ _ => rfl)) (de_bin op_sub od_sub (de_var 4 (pv 4)) de_int) (nomark _))))) (dss_one (ds_setix 3 (de_tup (da_cons (de_ix ix_seq od_ix (de_ix ix_seq od_ix (de_own 3 (pv 3)) (de_un un_neg ud_neg de_int) (fun _ _ => rfl)) de_int (fun _ _ => rfl)) (da_cons (de_var 4 (pv 4)) da_nil))) (pv 3) (de_un un_neg ud_neg de_int))) (dss_one (ds_app 3 (pv 3) (de_tup (da_cons (de_var 4 (pv 4)) (da_cons (de_var 4 (pv 4)) da_nil))))))))) (dss_frz 3 (dss_one (ds_ret (de_var 3 (pv 3)))))))
def F_spans : Fm := runF b_spans 3 2
/-! ### readings(drift, stamps, time): slots 0 drift 1 stamps 2 time -/
abbrev s_readings : Stmt := topS 18
theorem sc_readings : FnScope ["drift", "stamps", "time"] ["drift", "stamps", "time"] (defScope s_readings) := ⟨rfl, rfl, rfl, by decide +kernel, rfl, by decide +kernel, by decide +kernel⟩
def b_readings : Sf := (sRet (eTup (aCons (eF (oCall F_least_reading (aCons (eVar 0) (aCons (eVar 1) (aCons (eVar 2) aNil))))) (aCons (eF (oCall F_greatest_reading (aCons (eVar 0) (aCons (eVar 1) (aCons (eVar 2) aNil))))) aNil))))
abbrev sg_readings : Sg := ⟨[.sh, .sh, .sh], .sh⟩
abbrev ps_readings : List Str := ["drift", "stamps", "time"]
theorem c_readings {P : Program} {w : World} {K : PySem.W.Frag} {mg : Str → Option Value} {base : Heap} {f : Addr} {fd : FuncData} {k : Nat} (D : Dfn K mg "readings" s_readings ps_readings f fd) {f_least_reading : Addr} {fd_least_reading : FuncData} (c_least_reading : Cal P w K mg base f_least_reading fd_least_reading "least_reading" k ps_least_reading sg_least_reading F_least_reading) {f_greatest_reading : Addr} {fd_greatest_reading : FuncData} (c_greatest_reading : Cal P w K mg base f_greatest_reading fd_greatest_reading "greatest_reading" k ps_greatest_reading sg_greatest_reading F_greatest_reading) :
    Cal P w K mg base f fd "readings" (k + 1) ps_readings sg_readings (runF (b_readings) 3 0) := by
  unfold b_readings 
  exact cal_ok (sg := sg_readings) (τ' := [.no, .no, .no]) D sc_readings ⟨[], .sh, [.no, .no, .no], [], []⟩ 0 rfl rfl rfl rfl rfl rfl (.inl rfl) fun cdv A outer s H E hr => (dss_one (ds_ret (de_tup (da_cons (de_F (do_fn c_least_reading hr 3 (by rfl) (da_cons (de_var 0 (pv 0)) (da_cons (de_var 1 (pv 1)) (da_cons (de_var 2 (pv 2)) da_nil))))) (da_cons (de_F (do_fn c_greatest_reading hr 3 (by rfl) (da_cons (de_var 0 (pv 0)) (da_cons (de_var 1 (pv 1)) (da_cons (de_var 2 (pv 2)) da_nil))))) da_nil)))))
def F_readings : Fm := runF b_readings 3 0
/-! ### least_turn(turn): slots 0 turn 1 long -/
abbrev s_least_turn : Stmt := topS 26
theorem sc_least_turn : FnScope ["turn", "long"] ["turn"] (defScope s_least_turn) := ⟨rfl, rfl, rfl, by decide +kernel, rfl, by decide +kernel, by decide +kernel⟩
def q1_least_turn : Sf := (sIf (tAnd' (tBl (eBin dEq (eBin dMod (eCa (f1 lenD) (aCons (eVar 0) aNil)) (eVar 1)) (eC (.int 0)))) (tBl (eBin dEq (eVar 0) (eBin dMul (eSl dSl (eVar 0) pNo (pSome (eVar 1))) (eBin dDiv (eCa (f1 lenD) (aCons (eVar 0) aNil)) (eVar 1)))))) (sRet (eSl dSl (eVar 0) pNo (pSome (eVar 1)))) sNil)
def b_least_turn : Sf := (sSeq (sFor [1] (TL.iRng2 (aCons (eC (.int 1)) (aCons (eCa (f1 lenD) (aCons (eVar 0) aNil)) aNil))) (gNm 1) q1_least_turn) (sRet (eVar 0)))
abbrev sg_least_turn : Sg := ⟨[.sh], .sh⟩
abbrev ps_least_turn : List Str := ["turn"]
theorem c_least_turn {P : Program} {w : World} {K : PySem.W.Frag} {mg : Str → Option Value} {base : Heap} {f : Addr} {fd : FuncData} {k : Nat} (D : Dfn K mg "least_turn" s_least_turn ps_least_turn f fd) (z_len : mg "len" = none) (z_range : mg "range" = none) :
    Cal P w K mg base f fd "least_turn" (k + 1) ps_least_turn sg_least_turn (runF (b_least_turn) 1 1) := by
  unfold b_least_turn q1_least_turn
  exact cal_ok (sg := sg_least_turn) (τ' := [.no, .no]) D sc_least_turn ⟨[], .sh, [.no, .no], [], []⟩ 1 rfl rfl rfl rfl rfl rfl (.inl rfl) fun cdv A outer s H E hr => (dss_cons (ds_for (tbk := [.sh, .no]) (tct := [.sh, .no]) [1] PassesOwn.never rfl (di_range2 (by rfl) z_range (da_cons de_int (da_cons (de_callB call_len ca_len (by rfl) z_len bt_len (da_cons (de_var 0 (pv 0)) da_nil)) da_nil))) (dg_name 1 sc_least_turn.nd rfl (by first | exact .inl rfl | exact .inr rfl)) (dss_one (ds_if (dt_w (dw_and (dt_cmp (op_eqD (hu64 hr)) od_eq (de_bin op_mod od_mod (de_callB call_len ca_len (by rfl) z_len bt_len (da_cons (de_var 0 (pv 0)) da_nil)) (de_var 1 (pv 1))) de_int (nomark _)) (dw_and1 (dt_cmp (op_eqD (hu64 hr)) od_eq (de_var 0 (pv 0)) (de_bin op_mulD od_mul (de_slice sl_D sd_sl (de_var 0 (pv 0)) dp_no (dp_some (de_var 1 (pv 1)))) (de_bin op_fdivW od_div (de_callB call_len ca_len (by rfl) z_len bt_len (da_cons (de_var 0 (pv 0)) da_nil)) (de_var 1 (pv 1)))) (nomark _))))) (dss_one (ds_ret (de_slice sl_D sd_sl (de_var 0 (pv 0)) dp_no (dp_some (de_var 1 (pv 1)))))) dss_nil))) (dss_one (ds_ret (de_var 0 (pv 0)))))
def F_least_turn : Fm := runF b_least_turn 1 1
/-! ### calendar_of(head, turn): slots 0 head 1 turn 2 last 3 moved -/
abbrev s_calendar_of : Stmt := topS 27
theorem sc_calendar_of : FnScope ["head", "turn", "last", "moved"] ["head", "turn"] (defScope s_calendar_of) := ⟨rfl, rfl, rfl, by decide +kernel, rfl, by decide +kernel, by decide +kernel⟩
def q1_calendar_of : Sf := (sAsg (eBin dSub (eVar 2) (eC (.int 1))) (gNm 2))
def b_calendar_of : Sf := (sSeq (sAsg (eF (oCall F_least_turn (aCons (eVar 1) aNil))) (gNm 1)) (sSeq (sAsg (eCa (f1 lenD) (aCons (eVar 0) aNil)) (gNm 2)) (sSeq (sWhile nT [] (tAnd' (tBl (eBin dGt (eVar 2) (eC (.int 0)))) (tBl (eBin dEq (eBin dIx (eVar 0) (eBin dSub (eVar 2) (eC (.int 1)))) (eBin dIx (eVar 1) (eBin dMod (eBin dSub (eBin dSub (eVar 2) (eCa (f1 lenD) (aCons (eVar 0) aNil))) (eC (.int 1))) (eCa (f1 lenD) (aCons (eVar 1) aNil))))))) q1_calendar_of) (sSeq (sAsg (eBin dMod (eBin dSub (eVar 2) (eCa (f1 lenD) (aCons (eVar 0) aNil))) (eCa (f1 lenD) (aCons (eVar 1) aNil))) (gNm 3)) (sRet (eTup (aCons (eSl dSl (eVar 0) pNo (pSome (eVar 2))) (aCons (eBin dAdd (eSl dSl (eVar 1) (pSome (eVar 3)) pNo) (eSl dSl (eVar 1) pNo (pSome (eVar 3)))) aNil))))))))
abbrev sg_calendar_of : Sg := ⟨[.sh, .sh], .sh⟩
abbrev ps_calendar_of : List Str := ["head", "turn"]
theorem c_calendar_of {P : Program} {w : World} {K : PySem.W.Frag} {mg : Str → Option Value} {base : Heap} {f : Addr} {fd : FuncData} {k : Nat} (D : Dfn K mg "calendar_of" s_calendar_of ps_calendar_of f fd) {f_least_turn : Addr} {fd_least_turn : FuncData} (c_least_turn : Cal P w K mg base f_least_turn fd_least_turn "least_turn" k ps_least_turn sg_least_turn F_least_turn) (z_len : mg "len" = none) :
    Cal P w K mg base f fd "calendar_of" (k + 1) ps_calendar_of sg_calendar_of (runF (b_calendar_of) 2 2) := by
  unfold b_calendar_of q1_calendar_of
  exact cal_ok (sg := sg_calendar_of) (τ' := [.no, .no, .no, .no]) D sc_calendar_of ⟨[], .sh, [.no, .no, .no, .no], [], []⟩ 2 rfl rfl rfl rfl rfl rfl (.inl rfl) fun cdv A outer s H E hr => (dss_cons (ds_set 1 sc_calendar_of.nd rfl (by first | exact .inl rfl | exact .inr rfl) (de_F (do_fn c_least_turn hr 1 (by rfl) (da_cons (de_var 1 (pv 1)) da_nil)))) (dss_cons (ds_set 2 sc_calendar_of.nd rfl (by first | exact .inl rfl | exact .inr rfl) (de_callB call_len ca_len (by rfl) z_len bt_len (da_cons (de_var 0 (pv 0)) da_nil))) (dss_cons (ds_while (tbk := [.sh, .sh, .sh, .no]) (tct := [.sh, .sh, .sh, .no]) nT [] PassesOwn.never (dt_w (dw_and (dt_cmp op_gt od_gt (de_var 2 (pv 2)) de_int (nomark _)) (dw_and1 (dt_cmp (op_eqD (hu64 hr)) od_eq (de_ix ix_seq od_ix (de_var 0 (pv 0)) (de_bin op_sub od_sub (de_var 2 (pv 2)) de_int) (fun _ _ => rfl)) (de_ix ix_seq od_ix (de_var 1 (pv 1)) (de_bin op_mod od_mod (de_bin op_sub od_sub (de_bin op_sub od_sub (de_var 2 (pv 2)) (de_callB call_len ca_len (by rfl) z_len bt_len (da_cons (de_var 0 (pv 0)) da_nil))) de_int) (de_callB call_len ca_len (by rfl) z_len bt_len (da_cons (de_var 1 (pv 1)) da_nil))) (fun _ _ => rfl)) (nomark _))))) (dss_one (ds_set 2 sc_calendar_of.nd rfl (by first | exact .inl rfl | exact .inr rfl) (de_bin op_sub od_sub (de_var 2 (pv 2)) de_int)))) (dss_cons (ds_set 3 sc_calendar_of.nd rfl (by first | exact .inl rfl | exact .inr rfl) (de_bin op_mod od_mod (de_bin op_sub od_sub (de_var 2 (pv 2)) (de_callB call_len ca_len (by rfl) z_len bt_len (da_cons (de_var 0 (pv 0)) da_nil))) (de_callB call_len ca_len (by rfl) z_len bt_len (da_cons (de_var 1 (pv 1)) da_nil)))) (dss_one (ds_ret (de_tup (da_cons (de_slice sl_D sd_sl (de_var 0 (pv 0)) dp_no (dp_some (de_var 2 (pv 2)))) (da_cons (de_bin op_addD od_add (de_slice sl_D sd_sl (de_var 1 (pv 1)) (dp_some (de_var 3 (pv 3))) dp_no) (de_slice sl_D sd_sl (de_var 1 (pv 1)) dp_no (dp_some (de_var 3 (pv 3))))) da_nil)))))))))
def F_calendar_of : Fm := runF b_calendar_of 2 2
/-! ### round_times(period, first, long): slots 0 period 1 first 2 long 3 turn 4 time -/
abbrev s_round_times : Stmt := topS 31
theorem sc_round_times : FnScope ["period", "first", "long", "turn", "time"] ["period", "first", "long"] (defScope s_round_times) := ⟨rfl, rfl, rfl, by decide +kernel, rfl, by decide +kernel, by decide +kernel⟩
def e1_round_times : Of := (oE (eIf (tBl (eBin dLt (eBin dMod (eBin dSub (eVar 4) (eVar 1)) (eVar 0)) (eVar 2))) (eC (.int 1)) (eC (.int 0))))
def b_round_times : Sf := (sSeq (sAsg (eCa (f1 tupleD) (aCons (eF (oLc [4] (TL.iRng1 (aCons (eVar 0) aNil)) (gNm 4) tYesF e1_round_times)) aNil)) (gNm 3)) (sRet (eF (oCall F_calendar_of (aCons (eTup aNil) (aCons (eVar 3) aNil))))))
abbrev sg_round_times : Sg := ⟨[.sh, .sh, .sh], .sh⟩
abbrev ps_round_times : List Str := ["period", "first", "long"]
theorem c_round_times {P : Program} {w : World} {K : PySem.W.Frag} {mg : Str → Option Value} {base : Heap} {f : Addr} {fd : FuncData} {k : Nat} (D : Dfn K mg "round_times" s_round_times ps_round_times f fd) {f_calendar_of : Addr} {fd_calendar_of : FuncData} (c_calendar_of : Cal P w K mg base f_calendar_of fd_calendar_of "calendar_of" k ps_calendar_of sg_calendar_of F_calendar_of) (z_range : mg "range" = none) (z_tuple : mg "tuple" = none) :
    Cal P w K mg base f fd "round_times" (k + 1) ps_round_times sg_round_times (runF (b_round_times) 3 2) := by
  unfold b_round_times e1_round_times
  exact cal_ok (sg := sg_round_times) (τ' := [.no, .no, .no, .no, .no]) D sc_round_times ⟨[], .sh, [.no, .no, .no, .no, .no], [], []⟩ 2 rfl rfl rfl rfl rfl rfl (.inl rfl) fun cdv A outer s H E hr => (dss_cons (ds_set 3 sc_round_times.nd rfl (by first | exact .inl rfl | exact .inr rfl) (de_callTy call_tuple_of ca_tuple (by rfl) z_tuple bt_tuple (da_cons (de_F (do_lc (own := [("time", 4)]) rfl sc_round_times.nd (di_range1 (by rfl) z_range (da_cons (de_var 0 (pv 0)) da_nil)) (blkOk_by (by kernel_rfl)) (fun _ _ _ _ _ => (dg_name 4 sc_round_times.nd rfl (by first | exact .inl rfl | exact .inr rfl))) (fun _ _ _ _ _ => dts_nil) (fun _ _ _ _ _ => (do_E (de_if (dt_cmp op_lt od_lt (de_bin op_mod od_mod (de_bin op_sub od_sub (de_var 4 (pv 4)) (de_var 1 (pv 1))) (de_var 0 (pv 0))) (de_var 2 (pv 2)) (nomark _)) de_int de_int))))) da_nil))) (dss_one (ds_ret (de_F (do_fn c_calendar_of hr 2 (by rfl) (da_cons (de_tup da_nil) (da_cons (de_var 3 (pv 3)) da_nil)))))))
def F_round_times : Fm := runF b_round_times 3 2
/-! ### up_times(station): slots 0 station 1 _ 2 period 3 rises 4 long -/
abbrev s_up_times : Stmt := topS 32
theorem sc_up_times : FnScope ["station", "_", "period", "rises", "long"] ["station"] (defScope s_up_times) := ⟨rfl, rfl, rfl, by decide +kernel, rfl, by decide +kernel, by decide +kernel⟩
def b_up_times : Sf := (sSeq (sAsg (eVar 0) (gTp (gsCons (gNm 1) (gsCons (gNm 2) (gsCons (gNm 3) (gsCons (gNm 4) gsNil)))))) (sRet (eF (oCall F_round_times (aCons (eVar 2) (aCons (eVar 3) (aCons (eVar 4) aNil)))))))
abbrev sg_up_times : Sg := ⟨[.sh], .sh⟩
abbrev ps_up_times : List Str := ["station"]
theorem c_up_times {P : Program} {w : World} {K : PySem.W.Frag} {mg : Str → Option Value} {base : Heap} {f : Addr} {fd : FuncData} {k : Nat} (D : Dfn K mg "up_times" s_up_times ps_up_times f fd) {f_round_times : Addr} {fd_round_times : FuncData} (c_round_times : Cal P w K mg base f_round_times fd_round_times "round_times" k ps_round_times sg_round_times F_round_times) :
    Cal P w K mg base f fd "up_times" (k + 1) ps_up_times sg_up_times (runF (b_up_times) 1 4) := by
  unfold b_up_times 
  exact cal_ok (sg := sg_up_times) (τ' := [.no, .no, .no, .no, .no]) D sc_up_times ⟨[], .sh, [.no, .no, .no, .no, .no], [], []⟩ 4 rfl rfl rfl rfl rfl rfl (.inl rfl) fun cdv A outer s H E hr => (dss_cons (ds_asg (de_var 0 (pv 0)) (dg_tup rfl (dgs_cons (dg_name 1 sc_up_times.nd rfl (by first | exact .inl rfl | exact .inr rfl)) (dgs_cons (dg_name 2 sc_up_times.nd rfl (by first | exact .inl rfl | exact .inr rfl)) (dgs_cons (dg_name 3 sc_up_times.nd rfl (by first | exact .inl rfl | exact .inr rfl)) (dgs_cons (dg_name 4 sc_up_times.nd rfl (by first | exact .inl rfl | exact .inr rfl)) dgs_nil)))) (gsCons_len (gsCons_len (gsCons_len (gsCons_len gsNil_len)))))) (dss_one (ds_ret (de_F (do_fn c_round_times hr 3 (by rfl) (da_cons (de_var 2 (pv 2)) (da_cons (de_var 3 (pv 3)) (da_cons (de_var 4 (pv 4)) da_nil))))))))
def F_up_times : Fm := runF b_up_times 1 4
/-! ### hidden_times(probe): slots 0 probe 1 _ 2 period 3 hides 4 dark -/
abbrev s_hidden_times : Stmt := topS 33
theorem sc_hidden_times : FnScope ["probe", "_", "period", "hides", "dark"] ["probe"] (defScope s_hidden_times) := ⟨rfl, rfl, rfl, by decide +kernel, rfl, by decide +kernel, by decide +kernel⟩
def b_hidden_times : Sf := (sSeq (sAsg (eVar 0) (gTp (gsCons (gNm 1) (gsCons (gNm 2) (gsCons (gNm 3) (gsCons (gNm 4) (gsCons (gNm 1) gsNil))))))) (sRet (eF (oCall F_round_times (aCons (eVar 2) (aCons (eVar 3) (aCons (eVar 4) aNil)))))))
abbrev sg_hidden_times : Sg := ⟨[.sh], .sh⟩
abbrev ps_hidden_times : List Str := ["probe"]
theorem c_hidden_times {P : Program} {w : World} {K : PySem.W.Frag} {mg : Str → Option Value} {base : Heap} {f : Addr} {fd : FuncData} {k : Nat} (D : Dfn K mg "hidden_times" s_hidden_times ps_hidden_times f fd) {f_round_times : Addr} {fd_round_times : FuncData} (c_round_times : Cal P w K mg base f_round_times fd_round_times "round_times" k ps_round_times sg_round_times F_round_times) :
    Cal P w K mg base f fd "hidden_times" (k + 1) ps_hidden_times sg_hidden_times (runF (b_hidden_times) 1 4) := by
  unfold b_hidden_times 
  exact cal_ok (sg := sg_hidden_times) (τ' := [.no, .no, .no, .no, .no]) D sc_hidden_times ⟨[], .sh, [.no, .no, .no, .no, .no], [], []⟩ 4 rfl rfl rfl rfl rfl rfl (.inl rfl) fun cdv A outer s H E hr => (dss_cons (ds_asg (de_var 0 (pv 0)) (dg_tup rfl (dgs_cons (dg_name 1 sc_hidden_times.nd rfl (by first | exact .inl rfl | exact .inr rfl)) (dgs_cons (dg_name 2 sc_hidden_times.nd rfl (by first | exact .inl rfl | exact .inr rfl)) (dgs_cons (dg_name 3 sc_hidden_times.nd rfl (by first | exact .inl rfl | exact .inr rfl)) (dgs_cons (dg_name 4 sc_hidden_times.nd rfl (by first | exact .inl rfl | exact .inr rfl)) (dgs_cons (dg_name 1 sc_hidden_times.nd rfl (by first | exact .inl rfl | exact .inr rfl)) dgs_nil))))) (gsCons_len (gsCons_len (gsCons_len (gsCons_len (gsCons_len gsNil_len))))))) (dss_one (ds_ret (de_F (do_fn c_round_times hr 3 (by rfl) (da_cons (de_var 2 (pv 2)) (da_cons (de_var 3 (pv 3)) (da_cons (de_var 4 (pv 4)) da_nil))))))))
def F_hidden_times : Fm := runF b_hidden_times 1 4
/-! ### sight_turn(station, probe): slots 0 station 1 probe -/
abbrev s_sight_turn : Stmt := topS 35
theorem sc_sight_turn : FnScope ["station", "probe"] ["station", "probe"] (defScope s_sight_turn) := ⟨rfl, rfl, rfl, by decide +kernel, rfl, by decide +kernel, by decide +kernel⟩
def b_sight_turn : Sf := (sRet (eCa lcm3D (aCons (eBin dIx (eVar 0) (eC (.int 1))) (aCons (eBin dIx (eVar 1) (eC (.int 1))) (aCons (eCa (f1 lenD) (aCons (eBin dIx (eVar 1) (eC (.int 4))) aNil)) aNil)))))
abbrev sg_sight_turn : Sg := ⟨[.sh, .sh], .sh⟩
abbrev ps_sight_turn : List Str := ["station", "probe"]
theorem c_sight_turn {P : Program} {w : World} {K : PySem.W.Frag} {mg : Str → Option Value} {base : Heap} {f : Addr} {fd : FuncData} {k : Nat} (D : Dfn K mg "sight_turn" s_sight_turn ps_sight_turn f fd) (z_len : mg "len" = none) (g_lcm : mg "lcm" = some (.builtin "math.lcm")) :
    Cal P w K mg base f fd "sight_turn" (k + 1) ps_sight_turn sg_sight_turn (runF (b_sight_turn) 2 0) := by
  unfold b_sight_turn 
  exact cal_ok (sg := sg_sight_turn) (τ' := [.no, .no]) D sc_sight_turn ⟨[], .sh, [.no, .no], [], []⟩ 0 rfl rfl rfl rfl rfl rfl (.inl rfl) fun cdv A outer s H E hr => (dss_one (ds_ret (de_callF cr_lcm3 ca_lcm3 (by rfl) g_lcm (da_cons (de_ix ix_seq od_ix (de_var 0 (pv 0)) de_int (fun _ _ => rfl)) (da_cons (de_ix ix_seq od_ix (de_var 1 (pv 1)) de_int (fun _ _ => rfl)) (da_cons (de_callB call_len ca_len (by rfl) z_len bt_len (da_cons (de_ix ix_seq od_ix (de_var 1 (pv 1)) de_int (fun _ _ => rfl)) da_nil)) da_nil))))))
def F_sight_turn : Fm := runF b_sight_turn 2 0
/-! ### holds(calendar, time): slots 0 calendar 1 time -/
abbrev s_holds : Stmt := topS 28
theorem sc_holds : FnScope ["calendar", "time"] ["calendar", "time"] (defScope s_holds) := ⟨rfl, rfl, rfl, by decide +kernel, rfl, by decide +kernel, by decide +kernel⟩
def b_holds : Sf := (sRet (eBin dEq (eF (oCall F_flag_at (aCons (eVar 0) (aCons (eVar 1) aNil)))) (eC (.int 1))))
abbrev sg_holds : Sg := ⟨[.sh, .sh], .sh⟩
abbrev ps_holds : List Str := ["calendar", "time"]
theorem c_holds {P : Program} {w : World} {K : PySem.W.Frag} {mg : Str → Option Value} {base : Heap} {f : Addr} {fd : FuncData} {k : Nat} (D : Dfn K mg "holds" s_holds ps_holds f fd) {f_flag_at : Addr} {fd_flag_at : FuncData} (c_flag_at : Cal P w K mg base f_flag_at fd_flag_at "flag_at" k ps_flag_at sg_flag_at F_flag_at) :
    Cal P w K mg base f fd "holds" (k + 1) ps_holds sg_holds (runF (b_holds) 2 0) := by
  unfold b_holds 
  exact cal_ok (sg := sg_holds) (τ' := [.no, .no]) D sc_holds ⟨[], .sh, [.no, .no], [], []⟩ 0 rfl rfl rfl rfl rfl rfl (.inl rfl) fun cdv A outer s H E hr => (dss_one (ds_ret (de_cmp (op_eqD (hu64 hr)) od_eq (de_F (do_fn c_flag_at hr 2 (by rfl) (da_cons (de_var 0 (pv 0)) (da_cons (de_var 1 (pv 1)) da_nil)))) de_int (nomark _))))
def F_holds : Fm := runF b_holds 2 0
/-! ### arrival(probe, time): slots 0 probe 1 time 2 delays -/
abbrev s_arrival : Stmt := topS 34
theorem sc_arrival : FnScope ["probe", "time", "delays"] ["probe", "time"] (defScope s_arrival) := ⟨rfl, rfl, rfl, by decide +kernel, rfl, by decide +kernel, by decide +kernel⟩
def b_arrival : Sf := (sSeq (sAsg (eBin dIx (eVar 0) (eC (.int 4))) (gNm 2)) (sRet (eBin dAdd (eVar 1) (eBin dIx (eVar 2) (eBin dMod (eVar 1) (eCa (f1 lenD) (aCons (eVar 2) aNil)))))))
abbrev sg_arrival : Sg := ⟨[.sh, .sh], .sh⟩
abbrev ps_arrival : List Str := ["probe", "time"]
theorem c_arrival {P : Program} {w : World} {K : PySem.W.Frag} {mg : Str → Option Value} {base : Heap} {f : Addr} {fd : FuncData} {k : Nat} (D : Dfn K mg "arrival" s_arrival ps_arrival f fd) (z_len : mg "len" = none) :
    Cal P w K mg base f fd "arrival" (k + 1) ps_arrival sg_arrival (runF (b_arrival) 2 1) := by
  unfold b_arrival 
  exact cal_ok (sg := sg_arrival) (τ' := [.no, .no, .no]) D sc_arrival ⟨[], .sh, [.no, .no, .no], [], []⟩ 1 rfl rfl rfl rfl rfl rfl (.inl rfl) fun cdv A outer s H E hr => (dss_cons (ds_set 2 sc_arrival.nd rfl (by first | exact .inl rfl | exact .inr rfl) (de_ix ix_seq od_ix (de_var 0 (pv 0)) de_int (fun _ _ => rfl))) (dss_one (ds_ret (de_bin op_addD od_add (de_var 1 (pv 1)) (de_ix ix_seq od_ix (de_var 2 (pv 2)) (de_bin op_mod od_mod (de_var 1 (pv 1)) (de_callB call_len ca_len (by rfl) z_len bt_len (da_cons (de_var 2 (pv 2)) da_nil))) (fun _ _ => rfl))))))
def F_arrival : Fm := runF b_arrival 2 1
/-! ### tells(station, probe): slots 0 station 1 probe 2 flags 3 time 4 up 5 hidden -/
abbrev s_tells : Stmt := topS 36
theorem sc_tells : FnScope ["station", "probe", "flags", "time", "up", "hidden"] ["station", "probe"] (defScope s_tells) := ⟨rfl, rfl, rfl, by decide +kernel, rfl, by decide +kernel, by decide +kernel⟩
def q1_tells : Sf := (sApp 2 (eIf (tAnd' (tNot' (tB (eF (oCall F_holds (aCons (eVar 5) (aCons (eVar 3) aNil)))))) (tB (eF (oCall F_holds (aCons (eVar 4) (aCons (eF (oCall F_arrival (aCons (eVar 1) (aCons (eVar 3) aNil)))) aNil)))))) (eC (.int 1)) (eC (.int 0))))
def b_tells : Sf := (sSeq (sPar 4 5 (lCons (oE (eF (oCall F_up_times (aCons (eVar 0) aNil)))) (lCons (oE (eF (oCall F_hidden_times (aCons (eVar 1) aNil)))) lNil))) (sSeq (sSetO 2 (oLst aNil)) (sSeq (sFor [3] (TL.iRng1 (aCons (eF (oCall F_sight_turn (aCons (eVar 0) (aCons (eVar 1) aNil)))) aNil)) (gNm 3) q1_tells) (sRet (eF (oCall F_calendar_of (aCons (eTup aNil) (aCons (eCa (f1 tupleD) (aCons (eOwn 2) aNil)) aNil))))))))
abbrev sg_tells : Sg := ⟨[.sh, .sh], .sh⟩
abbrev ps_tells : List Str := ["station", "probe"]
theorem c_tells {P : Program} {w : World} {K : PySem.W.Frag} {mg : Str → Option Value} {base : Heap} {f : Addr} {fd : FuncData} {k : Nat} (D : Dfn K mg "tells" s_tells ps_tells f fd) {f_up_times : Addr} {fd_up_times : FuncData} (c_up_times : Cal P w K mg base f_up_times fd_up_times "up_times" k ps_up_times sg_up_times F_up_times) {f_hidden_times : Addr} {fd_hidden_times : FuncData} (c_hidden_times : Cal P w K mg base f_hidden_times fd_hidden_times "hidden_times" k ps_hidden_times sg_hidden_times F_hidden_times) {f_sight_turn : Addr} {fd_sight_turn : FuncData} (c_sight_turn : Cal P w K mg base f_sight_turn fd_sight_turn "sight_turn" k ps_sight_turn sg_sight_turn F_sight_turn) {f_holds : Addr} {fd_holds : FuncData} (c_holds : Cal P w K mg base f_holds fd_holds "holds" k ps_holds sg_holds F_holds) {f_arrival : Addr} {fd_arrival : FuncData} (c_arrival : Cal P w K mg base f_arrival fd_arrival "arrival" k ps_arrival sg_arrival F_arrival) {f_calendar_of : Addr} {fd_calendar_of : FuncData} (c_calendar_of : Cal P w K mg base f_calendar_of fd_calendar_of "calendar_of" k ps_calendar_of sg_calendar_of F_calendar_of) (z_range : mg "range" = none) (z_tuple : mg "tuple" = none) :
    Cal P w K mg base f fd "tells" (k + 1) ps_tells sg_tells (runF (b_tells) 2 4) := by
  unfold b_tells q1_tells
  exact cal_ok (sg := sg_tells) (τ' := [.no, .no, .no, .no, .no, .no]) D sc_tells ⟨[], .sh, [.no, .no, .no, .no, .no, .no], [], []⟩ 4 rfl rfl rfl rfl rfl rfl (.inl rfl) fun cdv A outer s H E hr => (dss_cons (ds_par 4 5 rfl sc_tells.nd rfl rfl rfl rfl (dl_cons (do_E (de_F (do_fn c_up_times hr 1 (by rfl) (da_cons (de_var 0 (pv 0)) da_nil)))) (dl_cons (do_E (de_F (do_fn c_hidden_times hr 1 (by rfl) (da_cons (de_var 1 (pv 1)) da_nil)))) dl_nil)) rfl) (dss_cons (ds_setO 2 sc_tells.nd rfl (by first | exact .inl rfl | exact .inr rfl) (do_lst da_nil)) (dss_cons (ds_for (tbk := [.sh, .sh, (.oL .sh), .no, .sh, .sh]) (tct := [.sh, .sh, (.oL .sh), .no, .sh, .sh]) [3] PassesOwn.never rfl (di_range1 (by rfl) z_range (da_cons (de_F (do_fn c_sight_turn hr 2 (by rfl) (da_cons (de_var 0 (pv 0)) (da_cons (de_var 1 (pv 1)) da_nil)))) da_nil)) (dg_name 3 sc_tells.nd rfl (by first | exact .inl rfl | exact .inr rfl)) (dss_one (ds_app 2 (pv 2) (de_if (dt_w (dw_and (dt_not (dt_truth (de_F (do_fn c_holds hr 2 (by rfl) (da_cons (de_var 5 (pv 5)) (da_cons (de_var 3 (pv 3)) da_nil)))))) (dw_and1 (dt_truth (de_F (do_fn c_holds hr 2 (by rfl) (da_cons (de_var 4 (pv 4)) (da_cons (de_F (do_fn c_arrival hr 2 (by rfl) (da_cons (de_var 1 (pv 1)) (da_cons (de_var 3 (pv 3)) da_nil)))) da_nil)))))))) de_int de_int)))) (dss_one (ds_ret (de_F (do_fn c_calendar_of hr 2 (by rfl) (da_cons (de_tup da_nil) (da_cons (de_callTy call_tuple_of ca_tuple (by rfl) z_tuple bt_tuple (da_cons (de_own 2 (pv 2)) da_nil)) da_nil)))))))))
def F_tells : Fm := runF b_tells 2 4
/-! ### law(script): slots 0 script 1 draw 2 drift 3 stamps 4 due 5 time 6 station 7 probe 8 low 9 high 10 a 11 b 12 told 13 reading 14 slow 15 fast 16 when -/
abbrev s_law : Stmt := topS 60
theorem sc_law : FnScope ["script", "draw", "drift", "stamps", "due", "time", "station", "probe", "low", "high", "a", "b", "told", "reading", "slow", "fast", "when"] ["script"] (defScope s_law) := ⟨rfl, rfl, rfl, by decide +kernel, rfl, by decide +kernel, by decide +kernel⟩
def q1_law : Sf := (sIf (tB (eF (oCall F__law_tells (aCons (eVar 6) (aCons (eVar 7) (aCons (eVar 5) aNil)))))) (sAsg (eIf (tAnd' (tB (eVar 4)) (tBl (eBin dEq (eBin dIx (eBin dIx (eVar 4) (eUn dNeg (eC (.int 1)))) (eC (.int 1))) (eBin dSub (eVar 5) (eC (.int 1)))))) (eBin dAdd (eSl dSl (eVar 4) pNo (pSome (eUn dNeg (eC (.int 1))))) (eF (oLst (aCons (eTup (aCons (eBin dIx (eBin dIx (eVar 4) (eUn dNeg (eC (.int 1)))) (eC (.int 0))) (aCons (eVar 5) aNil))) aNil)))) (eBin dAdd (eVar 4) (eF (oLst (aCons (eTup (aCons (eVar 5) (aCons (eVar 5) aNil))) aNil))))) (gNm 4)) sNil)
def t2_law : Tf := (tNot' (tB (eF (oCall F__law_below (aCons (eBin dIx (eVar 8) (eVar 5)) (aCons (eVar 13) aNil))))))
def e3_law : Of := (oE (eVar 5))
def t4_law : Tf := (tNot' (tB (eF (oCall F__law_below (aCons (eBin dIx (eVar 9) (eVar 5)) (aCons (eVar 13) aNil))))))
def e5_law : Of := (oE (eVar 5))
def q6_law : Sf := (sSeq (sAsg (eF (oCall F_sure_readings (aCons (eVar 2) (aCons (eVar 3) (aCons (eVar 10) (aCons (eVar 11) aNil)))))) (gNm 12)) (sIf (tBl (eBin dIsNot (eVar 12) (eC .non))) (sKl [13, 14, 15, 16] (sSeq (sAsg (eBin dIx (eVar 12) (eC (.int 1))) (gNm 13)) (sSeq (sSetO 14 (oLc [5] (TL.iRng1 (aCons (eC (.int 61)) aNil)) (gNm 5) t2_law e3_law)) (sSeq (sSetO 15 (oLc [5] (TL.iRng1 (aCons (eC (.int 61)) aNil)) (gNm 5) t4_law e5_law)) (sSeq (sIf (tOr' (tBl (eBin dEq (eVar 14) (eF (oLst aNil)))) (tNot' (tBl (eChain3 dLe dLe dLe (eVar 10) (eBin dIx (eVar 15) (eC (.int 0))) (eBin dIx (eVar 14) (eC (.int 0))) (eVar 11))))) (sRet (eC (.bl false))) sNil) (sSeq (sAsg (eF (oCall F_times_of (aCons (eVar 2) (aCons (eVar 3) (aCons (eVar 13) aNil))))) (gNm 16)) (sSeq (sIf (tAnd' (tBl (eBin dIsNot (eVar 16) (eC .non))) (tBl (eBin dLt (eBin dIx (eVar 16) (eC (.int 0))) (eVar 10)))) (sRet (eC (.bl false))) sNil) (sIf (tNot' (tB (eF (oCall F__law_same (aCons (eBin dIx (eF (oCall F_readings (aCons (eVar 2) (aCons (eVar 3) (aCons (eVar 11) aNil))))) (eC (.int 0))) (aCons (eVar 13) aNil)))))) (sRet (eC (.bl false))) sNil)))))))) sNil))
def p10_law : Sf := (sRet (eC (.bl true)))
def p9_law : Sf := (sSeq (sFor [10, 11, 12, 13, 14, 15, 16] (iSeq (eVar 4)) (gTp (gsCons (gNm 10) (gsCons (gNm 11) gsNil))) q6_law) p10_law)
def p8_law : Sf := (sSeq (sIf (tOr' (tNot' (tB (eF (oCall F__law_same (aCons (eF (oCall F_spans (aCons (eF (oCall F_tells (aCons (eVar 6) (aCons (eVar 7) aNil)))) (aCons (eC (.int 0)) (aCons (eC (.int 30)) aNil))))) (aCons (eVar 4) aNil)))))) (tNot' (tB (eF (oCall F__law_same (aCons (eF (oCall F_readings (aCons (eVar 2) (aCons (eVar 3) (aCons (eC (.int 7)) aNil))))) (aCons (eTup (aCons (eBin dIx (eVar 8) (eC (.int 7))) (aCons (eBin dIx (eVar 9) (eC (.int 7))) aNil))) aNil))))))) (sRet (eC (.bl false))) sNil) p9_law)
def p7_law : Sf := (sSeq (sFor [5] (TL.iRng1 (aCons (eC (.int 31)) aNil)) (gNm 5) q1_law) p8_law)
def p6_law : Sf := (sSeq (sAsg (eF (oLst aNil)) (gNm 4)) p7_law)
def p5_law : Sf := (sSeq (sAsg (eF (oCall F__law_ranges (aCons (eVar 2) (aCons (eVar 3) (aCons (eC (.int 60)) aNil))))) (gTp (gsCons (gNm 8) (gsCons (gNm 9) gsNil)))) p6_law)
def p4_law : Sf := (sSeq (sPar 6 7 (lCons (oE (eF (oCallI F__law_station 1 0 (aCons (eOwn 1) (aCons (eC (.str "base")) aNil))))) (lCons (oE (eF (oCallI F__law_probe 1 0 (aCons (eOwn 1) (aCons (eC (.str "far")) aNil))))) lNil))) p5_law)
def p3_law : Sf := (sSeq (sAsg (eIf (tB (eF (oCall F__law_bars (aCons (eVar 2) (aCons (eVar 3) aNil))))) (eSl dSl (eVar 3) pNo (pSome (eC (.int 1)))) (eVar 3)) (gNm 3)) p4_law)
def p2_law : Sf := (sSeq (sAsg (eF (oCallI F__law_stamps 1 0 (aCons (eOwn 1) (aCons (eVar 2) (aCons (eBin dAdd (eC (.int 1)) (eF (oCallI F__law_next 1 0 (aCons (eOwn 1) (aCons (eC (.int 4)) aNil))))) aNil))))) (gNm 3)) p3_law)
def b_law : Sf := (sSeq (sSetO 1 (oCall F__law_draw (aCons (eVar 0) aNil))) (sSeq (sAsg (eF (oCallI F__law_drift 1 0 (aCons (eOwn 1) aNil))) (gNm 2)) p2_law))
abbrev sg_law : Sg := ⟨[.sh], .sh⟩
abbrev ps_law : List Str := ["script"]
theorem c_law {P : Program} {w : World} {K : PySem.W.Frag} {mg : Str → Option Value} {base : Heap} {f : Addr} {fd : FuncData} {k : Nat} (D : Dfn K mg "law" s_law ps_law f fd) {f__law_draw : Addr} {fd__law_draw : FuncData} (c__law_draw : Cal P w K mg base f__law_draw fd__law_draw "_law_draw" k ps__law_draw sg__law_draw F__law_draw) {f__law_drift : Addr} {fd__law_drift : FuncData} (c__law_drift : Cal P w K mg base f__law_drift fd__law_drift "_law_drift" k ps__law_drift sg__law_drift F__law_drift) {f__law_stamps : Addr} {fd__law_stamps : FuncData} (c__law_stamps : Cal P w K mg base f__law_stamps fd__law_stamps "_law_stamps" k ps__law_stamps sg__law_stamps F__law_stamps) {f__law_next : Addr} {fd__law_next : FuncData} (c__law_next : Cal P w K mg base f__law_next fd__law_next "_law_next" k ps__law_next sg__law_next F__law_next) {f__law_bars : Addr} {fd__law_bars : FuncData} (c__law_bars : Cal P w K mg base f__law_bars fd__law_bars "_law_bars" k ps__law_bars sg__law_bars F__law_bars) {f__law_station : Addr} {fd__law_station : FuncData} (c__law_station : Cal P w K mg base f__law_station fd__law_station "_law_station" k ps__law_station sg__law_station F__law_station) {f__law_probe : Addr} {fd__law_probe : FuncData} (c__law_probe : Cal P w K mg base f__law_probe fd__law_probe "_law_probe" k ps__law_probe sg__law_probe F__law_probe) {f__law_ranges : Addr} {fd__law_ranges : FuncData} (c__law_ranges : Cal P w K mg base f__law_ranges fd__law_ranges "_law_ranges" k ps__law_ranges sg__law_ranges F__law_ranges) {f__law_tells : Addr} {fd__law_tells : FuncData} (c__law_tells : Cal P w K mg base f__law_tells fd__law_tells "_law_tells" k ps__law_tells sg__law_tells F__law_tells) {f__law_same : Addr} {fd__law_same : FuncData} (c__law_same : Cal P w K mg base f__law_same fd__law_same "_law_same" k ps__law_same sg__law_same F__law_same) {f_spans : Addr} {fd_spans : FuncData} (c_spans : Cal P w K mg base f_spans fd_spans "spans" k ps_spans sg_spans F_spans) {f_tells : Addr} {fd_tells : FuncData} (c_tells : Cal P w K mg base f_tells fd_tells "tells" k ps_tells sg_tells F_tells) {f_readings : Addr} {fd_readings : FuncData} (c_readings : Cal P w K mg base f_readings fd_readings "readings" k ps_readings sg_readings F_readings) {f_sure_readings : Addr} {fd_sure_readings : FuncData} (c_sure_readings : Cal P w K mg base f_sure_readings fd_sure_readings "sure_readings" k ps_sure_readings sg_sure_readings F_sure_readings) {f__law_below : Addr} {fd__law_below : FuncData} (c__law_below : Cal P w K mg base f__law_below fd__law_below "_law_below" k ps__law_below sg__law_below F__law_below) {f_times_of : Addr} {fd_times_of : FuncData} (c_times_of : Cal P w K mg base f_times_of fd_times_of "times_of" k ps_times_of sg_times_of F_times_of) (z_range : mg "range" = none) :
    Cal P w K mg base f fd "law" (k + 1) ps_law sg_law (runF (b_law) 1 16) := by
  unfold b_law p2_law p3_law p4_law p5_law p6_law p7_law p8_law p9_law p10_law q6_law e5_law t4_law e3_law t2_law q1_law
  exact cal_ok (sg := sg_law) (τ' := [.no, .no, .no, .no, .no, .no, .no, .no, .no, .no, .no, .no, .no, .no, .no, .no, .no]) D sc_law ⟨[], .sh, [.no, .no, .no, .no, .no, .no, .no, .no, .no, .no, .no, .no, .no, .no, .no, .no, .no], [], []⟩ 16 rfl rfl rfl rfl rfl rfl (.inl rfl) fun cdv A outer s H E hr => (dss_cons (ds_setO 1 sc_law.nd rfl (by first | exact .inl rfl | exact .inr rfl) (do_fn c__law_draw hr 1 (by rfl) (da_cons (de_var 0 (pv 0)) da_nil))) (dss_cons (ds_set 2 sc_law.nd rfl (by first | exact .inl rfl | exact .inr rfl) (de_F (do_fnI c__law_drift hr 1 0 1 (by rfl) (dai_io 1 (pv 1) dai_nil)))) (dss_cons (ds_set 3 sc_law.nd rfl (by first | exact .inl rfl | exact .inr rfl) (de_F (do_fnI c__law_stamps hr 1 0 3 (by rfl) (dai_io 1 (pv 1) (dai_cons (de_var 2 (pv 2)) (dai_cons (de_bin op_addD od_add de_int (de_F (do_fnI c__law_next hr 1 0 2 (by rfl) (dai_io 1 (pv 1) (dai_cons de_int dai_nil))))) dai_nil)))))) (dss_cons (ds_set 3 sc_law.nd rfl (by first | exact .inl rfl | exact .inr rfl) (de_if (dt_truth (de_F (do_fn c__law_bars hr 2 (by rfl) (da_cons (de_var 2 (pv 2)) (da_cons (de_var 3 (pv 3)) da_nil))))) (de_slice sl_D sd_sl (de_var 3 (pv 3)) dp_no (dp_some de_int)) (de_var 3 (pv 3)))) (dss_cons (ds_par 6 7 rfl sc_law.nd rfl rfl rfl rfl (dl_cons (do_E (de_F (do_fnI c__law_station hr 1 0 2 (by rfl) (dai_io 1 (pv 1) (dai_cons de_str dai_nil))))) (dl_cons (do_E (de_F (do_fnI c__law_probe hr 1 0 2 (by rfl) (dai_io 1 (pv 1) (dai_cons de_str dai_nil))))) dl_nil)) rfl) (dss_cons (ds_asg (de_F (do_fn c__law_ranges hr 3 (by rfl) (da_cons (de_var 2 (pv 2)) (da_cons (de_var 3 (pv 3)) (da_cons de_int da_nil))))) (dg_tup rfl (dgs_cons (dg_name 8 sc_law.nd rfl (by first | exact .inl rfl | exact .inr rfl)) (dgs_cons (dg_name 9 sc_law.nd rfl (by first | exact .inl rfl | exact .inr rfl)) dgs_nil)) (gsCons_len (gsCons_len gsNil_len)))) (dss_cons (ds_set 4 sc_law.nd rfl (by first | exact .inl rfl | exact .inr rfl) (de_F (do_lst da_nil))) (dss_cons (ds_for (tbk := [.sh, (.oL .sh), .sh, .sh, .sh, .no, .sh, .sh, .sh, .sh, .no, .no, .no, .no, .no, .no, .no]) (tct := [.sh, (.oL .sh), .sh, .sh, .sh, .no, .sh, .sh, .sh, .sh, .no, .no, .no, .no, .no, .no, .no]) [5] PassesOwn.never rfl (di_range1 (by rfl) z_range (da_cons de_int da_nil)) (dg_name 5 sc_law.nd rfl (by first | exact .inl rfl | exact .inr rfl)) (dss_one (ds_if (dt_truth (de_F (do_fn c__law_tells hr 3 (by rfl) (da_cons (de_var 6 (pv 6)) (da_cons (de_var 7 (pv 7)) (da_cons (de_var 5 (pv 5)) da_nil)))))) (dss_one (ds_set 4 sc_law.nd rfl (by first | exact .inl rfl | exact .inr rfl) (de_if (dt_w (dw_and (dt_truth (de_var 4 (pv 4))) (dw_and1 (dt_cmp (op_eqD (hu64 hr)) od_eq (de_ix ix_seq od_ix (de_ix ix_seq od_ix (de_var 4 (pv 4)) (de_un un_neg ud_neg de_int) (fun _ _ => rfl)) de_int (fun _ _ => rfl)) (de_bin op_sub od_sub (de_var 5 (pv 5)) de_int) (nomark _))))) (de_bin op_addD od_add (de_slice sl_D sd_sl (de_var 4 (pv 4)) dp_no (dp_some (de_un un_neg ud_neg de_int))) (de_F (do_lst (da_cons (de_tup (da_cons (de_ix ix_seq od_ix (de_ix ix_seq od_ix (de_var 4 (pv 4)) (de_un un_neg ud_neg de_int) (fun _ _ => rfl)) de_int (fun _ _ => rfl)) (da_cons (de_var 5 (pv 5)) da_nil))) da_nil)))) (de_bin op_addD od_add (de_var 4 (pv 4)) (de_F (do_lst (da_cons (de_tup (da_cons (de_var 5 (pv 5)) (da_cons (de_var 5 (pv 5)) da_nil))) da_nil))))))) dss_nil))) (dss_cons (ds_if (dt_w (dw_or (dt_not (dt_truth (de_F (do_fn c__law_same hr 2 (by rfl) (da_cons (de_F (do_fn c_spans hr 3 (by rfl) (da_cons (de_F (do_fn c_tells hr 2 (by rfl) (da_cons (de_var 6 (pv 6)) (da_cons (de_var 7 (pv 7)) da_nil)))) (da_cons de_int (da_cons de_int da_nil))))) (da_cons (de_var 4 (pv 4)) da_nil)))))) (dw_or1 (dt_not (dt_truth (de_F (do_fn c__law_same hr 2 (by rfl) (da_cons (de_F (do_fn c_readings hr 3 (by rfl) (da_cons (de_var 2 (pv 2)) (da_cons (de_var 3 (pv 3)) (da_cons de_int da_nil))))) (da_cons (de_tup (da_cons (de_ix ix_seq od_ix (de_var 8 (pv 8)) de_int (fun _ _ => rfl)) (da_cons (de_ix ix_seq od_ix (de_var 9 (pv 9)) de_int (fun _ _ => rfl)) da_nil))) da_nil))))))))) (dss_one (ds_ret de_bl)) dss_nil) (dss_cons (ds_for (tbk := [.sh, (.oL .sh), .sh, .sh, .sh, .no, .sh, .sh, .sh, .sh, .no, .no, .no, .no, .no, .no, .no]) (tct := [.sh, (.oL .sh), .sh, .sh, .sh, .no, .sh, .sh, .sh, .sh, .no, .no, .no, .no, .no, .no, .no]) [10, 11, 12, 13, 14, 15, 16] PassesOwn.never rfl (di_seq (de_var 4 (pv 4))) (dg_tup rfl (dgs_cons (dg_name 10 sc_law.nd rfl (by first | exact .inl rfl | exact .inr rfl)) (dgs_cons (dg_name 11 sc_law.nd rfl (by first | exact .inl rfl | exact .inr rfl)) dgs_nil)) (gsCons_len (gsCons_len gsNil_len))) (dss_cons (ds_set 12 sc_law.nd rfl (by first | exact .inl rfl | exact .inr rfl) (de_F (do_fn c_sure_readings hr 4 (by rfl) (da_cons (de_var 2 (pv 2)) (da_cons (de_var 3 (pv 3)) (da_cons (de_var 10 (pv 10)) (da_cons (de_var 11 (pv 11)) da_nil))))))) (dss_one (ds_if (dt_cmp op_isNotD od_isNot (de_var 12 (pv 12)) de_non (nomark _)) (dss_kill [13, 14, 15, 16] (dss_cons (ds_set 13 sc_law.nd rfl (by first | exact .inl rfl | exact .inr rfl) (de_ix ix_seq od_ix (de_var 12 (pv 12)) de_int (fun _ _ => rfl))) (dss_cons (ds_frzA 14 (by first | exact (ds_setLc (own := [("time", 5)]) 14 rfl sc_law.nd rfl rfl rfl (di_range1 (by rfl) z_range (da_cons de_int da_nil)) (blkOk_by (by kernel_rfl)) (fun _ _ _ _ _ => (dg_name 5 sc_law.nd rfl (by first | exact .inl rfl | exact .inr rfl))) (fun _ _ _ _ _ => (dts_one (dt_not (dt_truth (de_F (do_fn c__law_below hr 2 (by rfl) (da_cons (de_ix ix_seq od_ix (de_var 8 (pv 8)) (de_var 5 (pv 5)) (fun _ _ => rfl)) (da_cons (de_var 13 (pv 13)) da_nil)))))))) (fun _ _ _ _ _ => (do_E (de_var 5 (pv 5))))) | exact (ds_setO 14 sc_law.nd rfl (by first | exact .inl rfl | exact .inr rfl) (do_lc (own := [("time", 5)]) rfl sc_law.nd (di_range1 (by rfl) z_range (da_cons de_int da_nil)) (blkOk_by (by kernel_rfl)) (fun _ _ _ _ _ => (dg_name 5 sc_law.nd rfl (by first | exact .inl rfl | exact .inr rfl))) (fun _ _ _ _ _ => (dts_one (dt_not (dt_truth (de_F (do_fn c__law_below hr 2 (by rfl) (da_cons (de_ix ix_seq od_ix (de_var 8 (pv 8)) (de_var 5 (pv 5)) (fun _ _ => rfl)) (da_cons (de_var 13 (pv 13)) da_nil)))))))) (fun _ _ _ _ _ => (do_E (de_var 5 (pv 5)))))))) (dss_cons (ds_frzA 15 (by first | exact (ds_setLc (own := [("time", 5)]) 15 rfl sc_law.nd rfl rfl rfl (di_range1 (by rfl) z_range (da_cons de_int da_nil)) (blkOk_by (by kernel_rfl)) (fun _ _ _ _ _ => (dg_name 5 sc_law.nd rfl (by first | exact .inl rfl | exact .inr rfl))) (fun _ _ _ _ _ => (dts_one (dt_not (dt_truth (de_F (do_fn c__law_below hr 2 (by rfl) (da_cons (de_ix ix_seq od_ix (de_var 9 (pv 9)) (de_var 5 (pv 5)) (fun _ _ => rfl)) (da_cons (de_var 13 (pv 13)) da_nil)))))))) (fun _ _ _ _ _ => (do_E (de_var 5 (pv 5))))) | exact (ds_setO 15 sc_law.nd rfl (by first | exact .inl rfl | exact .inr rfl) (do_lc (own := [("time", 5)]) rfl sc_law.nd (di_range1 (by rfl) z_range (da_cons de_int da_nil)) (blkOk_by (by kernel_rfl)) (fun _ _ _ _ _ => (dg_name 5 sc_law.nd rfl (by first | exact .inl rfl | exact .inr rfl))) (fun _ _ _ _ _ => (dts_one (dt_not (dt_truth (de_F (do_fn c__law_below hr 2 (by rfl) (da_cons (de_ix ix_seq od_ix (de_var 9 (pv 9)) (de_var 5 (pv 5)) (fun _ _ => rfl)) (da_cons (de_var 13 (pv 13)) da_nil)))))))) (fun _ _ _ _ _ => (do_E (de_var 5 (pv 5)))))))) (dss_cons (ds_if (dt_w (dw_or (dt_cmp (op_eqD (hu64 hr)) od_eq (de_var 14 (pv 14)) (de_F (do_lst da_nil)) (nomark _)) (dw_or1 (dt_not (dt_chain3 op_le od_le op_le od_le op_le od_le (de_var 10 (pv 10)) (de_ix ix_seq od_ix (de_var 15 (pv 15)) de_int (fun _ _ => rfl)) (de_ix ix_seq od_ix (de_var 14 (pv 14)) de_int (fun _ _ => rfl)) (de_var 11 (pv 11))))))) (dss_one (ds_ret de_bl)) dss_nil) (dss_cons (ds_set 16 sc_law.nd rfl (by first | exact .inl rfl | exact .inr rfl) (de_F (do_fn c_times_of hr 3 (by rfl) (da_cons (de_var 2 (pv 2)) (da_cons (de_var 3 (pv 3)) (da_cons (de_var 13 (pv 13)) da_nil)))))) (dss_cons (ds_if (dt_w (dw_and (dt_cmp op_isNotD od_isNot (de_var 16 (pv 16)) de_non (nomark _)) (dw_and1 (dt_cmp op_lt od_lt (de_ix ix_seq od_ix (de_var 16 (pv 16)) de_int (fun _ _ => rfl)) (de_var 10 (pv 10)) (nomark _))))) (dss_one (ds_ret de_bl)) dss_nil) (dss_one (ds_if (dt_not (dt_truth (de_F (do_fn c__law_same hr 2 (by rfl) (da_cons (de_ix ix_seq od_ix (de_F (do_fn c_readings hr 3 (by rfl) (da_cons (de_var 2 (pv 2)) (da_cons (de_var 3 (pv 3)) (da_cons (de_var 11 (pv 11)) da_nil))))) de_int (fun _ _ => rfl)) (da_cons (de_var 13 (pv 13)) da_nil)))))) (dss_one (ds_ret de_bl)) dss_nil))))))))) dss_nil)))) (dss_one (ds_ret de_bl))))))))))))
def F_law : Fm := runF b_law 1 16
theorem law_cal {P : Program} {w : World} {K : PySem.W.Frag} {mg : Str → Option Value} {base : Heap} {f__law_draw : Addr} {fd__law_draw : FuncData} (D__law_draw : Dfn K mg "_law_draw" s__law_draw ps__law_draw f__law_draw fd__law_draw) {f__law_low : Addr} {fd__law_low : FuncData} (D__law_low : Dfn K mg "_law_low" s__law_low ps__law_low f__law_low fd__law_low) {f__law_add : Addr} {fd__law_add : FuncData} (D__law_add : Dfn K mg "_law_add" s__law_add ps__law_add f__law_add fd__law_add) {f__law_next : Addr} {fd__law_next : FuncData} (D__law_next : Dfn K mg "_law_next" s__law_next ps__law_next f__law_next fd__law_next) {f__law_fraction : Addr} {fd__law_fraction : FuncData} (D__law_fraction : Dfn K mg "_law_fraction" s__law_fraction ps__law_fraction f__law_fraction fd__law_fraction) {f__law_drift : Addr} {fd__law_drift : FuncData} (D__law_drift : Dfn K mg "_law_drift" s__law_drift ps__law_drift f__law_drift fd__law_drift) {f__law_less_by : Addr} {fd__law_less_by : FuncData} (D__law_less_by : Dfn K mg "_law_less_by" s__law_less_by ps__law_less_by f__law_less_by fd__law_less_by) {f__law_times : Addr} {fd__law_times : FuncData} (D__law_times : Dfn K mg "_law_times" s__law_times ps__law_times f__law_times fd__law_times) {f__law_stamps : Addr} {fd__law_stamps : FuncData} (D__law_stamps : Dfn K mg "_law_stamps" s__law_stamps ps__law_stamps f__law_stamps fd__law_stamps) {f__law_below : Addr} {fd__law_below : FuncData} (D__law_below : Dfn K mg "_law_below" s__law_below ps__law_below f__law_below fd__law_below) {f__law_ranges : Addr} {fd__law_ranges : FuncData} (D__law_ranges : Dfn K mg "_law_ranges" s__law_ranges ps__law_ranges f__law_ranges fd__law_ranges) {f__law_is_barred : Addr} {fd__law_is_barred : FuncData} (D__law_is_barred : Dfn K mg "_law_is_barred" s__law_is_barred ps__law_is_barred f__law_is_barred fd__law_is_barred) {f__law_bars : Addr} {fd__law_bars : FuncData} (D__law_bars : Dfn K mg "_law_bars" s__law_bars ps__law_bars f__law_bars fd__law_bars) {f__law_station : Addr} {fd__law_station : FuncData} (D__law_station : Dfn K mg "_law_station" s__law_station ps__law_station f__law_station fd__law_station) {f__law_probe : Addr} {fd__law_probe : FuncData} (D__law_probe : Dfn K mg "_law_probe" s__law_probe ps__law_probe f__law_probe fd__law_probe) {f__law_is_up : Addr} {fd__law_is_up : FuncData} (D__law_is_up : Dfn K mg "_law_is_up" s__law_is_up ps__law_is_up f__law_is_up fd__law_is_up) {f__law_is_hidden : Addr} {fd__law_is_hidden : FuncData} (D__law_is_hidden : Dfn K mg "_law_is_hidden" s__law_is_hidden ps__law_is_hidden f__law_is_hidden fd__law_is_hidden) {f__law_arrival : Addr} {fd__law_arrival : FuncData} (D__law_arrival : Dfn K mg "_law_arrival" s__law_arrival ps__law_arrival f__law_arrival fd__law_arrival) {f__law_tells : Addr} {fd__law_tells : FuncData} (D__law_tells : Dfn K mg "_law_tells" s__law_tells ps__law_tells f__law_tells fd__law_tells) {f_less : Addr} {fd_less : FuncData} (D_less : Dfn K mg "less" s_less ps_less f_less fd_less) {f_greatest_of : Addr} {fd_greatest_of : FuncData} (D_greatest_of : Dfn K mg "greatest_of" s_greatest_of ps_greatest_of f_greatest_of fd_greatest_of) {f_ratio : Addr} {fd_ratio : FuncData} (D_ratio : Dfn K mg "ratio" s_ratio ps_ratio f_ratio fd_ratio) {f_add : Addr} {fd_add : FuncData} (D_add : Dfn K mg "add" s_add ps_add f_add fd_add) {f_multiply : Addr} {fd_multiply : FuncData} (D_multiply : Dfn K mg "multiply" s_multiply ps_multiply f_multiply fd_multiply) {f_grown : Addr} {fd_grown : FuncData} (D_grown : Dfn K mg "grown" s_grown ps_grown f_grown fd_grown) {f_least_by : Addr} {fd_least_by : FuncData} (D_least_by : Dfn K mg "least_by" s_least_by ps_least_by f_least_by fd_least_by) {f_least_reading : Addr} {fd_least_reading : FuncData} (D_least_reading : Dfn K mg "least_reading" s_least_reading ps_least_reading f_least_reading fd_least_reading) {f_least_of : Addr} {fd_least_of : FuncData} (D_least_of : Dfn K mg "least_of" s_least_of ps_least_of f_least_of fd_least_of) {f_greatest_by : Addr} {fd_greatest_by : FuncData} (D_greatest_by : Dfn K mg "greatest_by" s_greatest_by ps_greatest_by f_greatest_by fd_greatest_by) {f_greatest_reading : Addr} {fd_greatest_reading : FuncData} (D_greatest_reading : Dfn K mg "greatest_reading" s_greatest_reading ps_greatest_reading f_greatest_reading fd_greatest_reading) {f_sure_readings : Addr} {fd_sure_readings : FuncData} (D_sure_readings : Dfn K mg "sure_readings" s_sure_readings ps_sure_readings f_sure_readings fd_sure_readings) {f__law_same : Addr} {fd__law_same : FuncData} (D__law_same : Dfn K mg "_law_same" s__law_same ps__law_same f__law_same fd__law_same) {f_subtract : Addr} {fd_subtract : FuncData} (D_subtract : Dfn K mg "subtract" s_subtract ps_subtract f_subtract fd_subtract) {f_floor_of : Addr} {fd_floor_of : FuncData} (D_floor_of : Dfn K mg "floor_of" s_floor_of ps_floor_of f_floor_of fd_floor_of) {f_divide : Addr} {fd_divide : FuncData} (D_divide : Dfn K mg "divide" s_divide ps_divide f_divide fd_divide) {f_last_with : Addr} {fd_last_with : FuncData} (D_last_with : Dfn K mg "last_with" s_last_with ps_last_with f_last_with fd_last_with) {f_ceiling_of : Addr} {fd_ceiling_of : FuncData} (D_ceiling_of : Dfn K mg "ceiling_of" s_ceiling_of ps_ceiling_of f_ceiling_of fd_ceiling_of) {f_first_with : Addr} {fd_first_with : FuncData} (D_first_with : Dfn K mg "first_with" s_first_with ps_first_with f_first_with fd_first_with) {f_times_of : Addr} {fd_times_of : FuncData} (D_times_of : Dfn K mg "times_of" s_times_of ps_times_of f_times_of fd_times_of) {f_flag_at : Addr} {fd_flag_at : FuncData} (D_flag_at : Dfn K mg "flag_at" s_flag_at ps_flag_at f_flag_at fd_flag_at) {f_spans : Addr} {fd_spans : FuncData} (D_spans : Dfn K mg "spans" s_spans ps_spans f_spans fd_spans) {f_readings : Addr} {fd_readings : FuncData} (D_readings : Dfn K mg "readings" s_readings ps_readings f_readings fd_readings) {f_least_turn : Addr} {fd_least_turn : FuncData} (D_least_turn : Dfn K mg "least_turn" s_least_turn ps_least_turn f_least_turn fd_least_turn) {f_calendar_of : Addr} {fd_calendar_of : FuncData} (D_calendar_of : Dfn K mg "calendar_of" s_calendar_of ps_calendar_of f_calendar_of fd_calendar_of) {f_round_times : Addr} {fd_round_times : FuncData} (D_round_times : Dfn K mg "round_times" s_round_times ps_round_times f_round_times fd_round_times) {f_up_times : Addr} {fd_up_times : FuncData} (D_up_times : Dfn K mg "up_times" s_up_times ps_up_times f_up_times fd_up_times) {f_hidden_times : Addr} {fd_hidden_times : FuncData} (D_hidden_times : Dfn K mg "hidden_times" s_hidden_times ps_hidden_times f_hidden_times fd_hidden_times) {f_sight_turn : Addr} {fd_sight_turn : FuncData} (D_sight_turn : Dfn K mg "sight_turn" s_sight_turn ps_sight_turn f_sight_turn fd_sight_turn) {f_holds : Addr} {fd_holds : FuncData} (D_holds : Dfn K mg "holds" s_holds ps_holds f_holds fd_holds) {f_arrival : Addr} {fd_arrival : FuncData} (D_arrival : Dfn K mg "arrival" s_arrival ps_arrival f_arrival fd_arrival) {f_tells : Addr} {fd_tells : FuncData} (D_tells : Dfn K mg "tells" s_tells ps_tells f_tells fd_tells) {f_law : Addr} {fd_law : FuncData} (D_law : Dfn K mg "law" s_law ps_law f_law fd_law) (z_abs : mg "abs" = none) (z_all : mg "all" = none) (z_bool : mg "bool" = none) (z_int : mg "int" = none) (z_isinstance : mg "isinstance" = none) (z_len : mg "len" = none) (z_list : mg "list" = none) (z_max : mg "max" = none) (z_min : mg "min" = none) (z_range : mg "range" = none) (z_str : mg "str" = none) (z_tuple : mg "tuple" = none) (g_gcd : mg "gcd" = some (.builtin "math.gcd")) (g_lcm : mg "lcm" = some (.builtin "math.lcm")) :
    Cal P w K mg base f_law fd_law "law" 10 ps_law sg_law F_law := by
  have C__law_draw : Cal P w K mg base f__law_draw fd__law_draw "_law_draw" 1 ps__law_draw sg__law_draw F__law_draw := c__law_draw (k := 0) D__law_draw z_list
  have C__law_low : Cal P w K mg base f__law_low fd__law_low "_law_low" 1 ps__law_low sg__law_low F__law_low := c__law_low (k := 0) D__law_low z_abs
  have C__law_add : Cal P w K mg base f__law_add fd__law_add "_law_add" 2 ps__law_add sg__law_add F__law_add := c__law_add (k := 1) D__law_add (C__law_low.mono (by decide))
  have C__law_next : Cal P w K mg base f__law_next fd__law_next "_law_next" 1 ps__law_next sg__law_next F__law_next := c__law_next (k := 0) D__law_next z_int z_len z_abs
  have C__law_fraction : Cal P w K mg base f__law_fraction fd__law_fraction "_law_fraction" 2 ps__law_fraction sg__law_fraction F__law_fraction := c__law_fraction (k := 1) D__law_fraction (C__law_low.mono (by decide)) (C__law_next.mono (by decide))
  have C__law_drift : Cal P w K mg base f__law_drift fd__law_drift "_law_drift" 3 ps__law_drift sg__law_drift F__law_drift := c__law_drift (k := 2) D__law_drift (C__law_low.mono (by decide)) (C__law_next.mono (by decide)) (C__law_add.mono (by decide)) (C__law_fraction.mono (by decide))
  have C__law_less_by : Cal P w K mg base f__law_less_by fd__law_less_by "_law_less_by" 2 ps__law_less_by sg__law_less_by F__law_less_by := c__law_less_by (k := 1) D__law_less_by (C__law_low.mono (by decide))
  have C__law_times : Cal P w K mg base f__law_times fd__law_times "_law_times" 2 ps__law_times sg__law_times F__law_times := c__law_times (k := 1) D__law_times (C__law_low.mono (by decide))
  have C__law_stamps : Cal P w K mg base f__law_stamps fd__law_stamps "_law_stamps" 3 ps__law_stamps sg__law_stamps F__law_stamps := c__law_stamps (k := 2) D__law_stamps (C__law_fraction.mono (by decide)) (C__law_next.mono (by decide)) (C__law_add.mono (by decide)) (C__law_times.mono (by decide)) (C__law_less_by.mono (by decide)) z_range z_len z_tuple
  have C__law_below : Cal P w K mg base f__law_below fd__law_below "_law_below" 1 ps__law_below sg__law_below F__law_below := c__law_below (k := 0) D__law_below
  have C__law_ranges : Cal P w K mg base f__law_ranges fd__law_ranges "_law_ranges" 3 ps__law_ranges sg__law_ranges F__law_ranges := c__law_ranges (k := 2) D__law_ranges (C__law_below.mono (by decide)) (C__law_add.mono (by decide)) (C__law_less_by.mono (by decide)) z_range z_list
  have C__law_is_barred : Cal P w K mg base f__law_is_barred fd__law_is_barred "_law_is_barred" 3 ps__law_is_barred sg__law_is_barred F__law_is_barred := c__law_is_barred (k := 2) D__law_is_barred (C__law_below.mono (by decide)) (C__law_add.mono (by decide)) (C__law_times.mono (by decide))
  have C__law_bars : Cal P w K mg base f__law_bars fd__law_bars "_law_bars" 4 ps__law_bars sg__law_bars F__law_bars := c__law_bars (k := 3) D__law_bars (C__law_is_barred.mono (by decide)) z_len z_range
  have C__law_station : Cal P w K mg base f__law_station fd__law_station "_law_station" 2 ps__law_station sg__law_station F__law_station := c__law_station (k := 1) D__law_station (C__law_next.mono (by decide))
  have C__law_probe : Cal P w K mg base f__law_probe fd__law_probe "_law_probe" 2 ps__law_probe sg__law_probe F__law_probe := c__law_probe (k := 1) D__law_probe (C__law_next.mono (by decide)) z_range z_max z_min z_tuple
  have C__law_is_up : Cal P w K mg base f__law_is_up fd__law_is_up "_law_is_up" 1 ps__law_is_up sg__law_is_up F__law_is_up := c__law_is_up (k := 0) D__law_is_up
  have C__law_is_hidden : Cal P w K mg base f__law_is_hidden fd__law_is_hidden "_law_is_hidden" 1 ps__law_is_hidden sg__law_is_hidden F__law_is_hidden := c__law_is_hidden (k := 0) D__law_is_hidden
  have C__law_arrival : Cal P w K mg base f__law_arrival fd__law_arrival "_law_arrival" 1 ps__law_arrival sg__law_arrival F__law_arrival := c__law_arrival (k := 0) D__law_arrival z_len
  have C__law_tells : Cal P w K mg base f__law_tells fd__law_tells "_law_tells" 2 ps__law_tells sg__law_tells F__law_tells := c__law_tells (k := 1) D__law_tells (C__law_is_hidden.mono (by decide)) (C__law_is_up.mono (by decide)) (C__law_arrival.mono (by decide))
  have C_less : Cal P w K mg base f_less fd_less "less" 1 ps_less sg_less F_less := c_less (k := 0) D_less
  have C_greatest_of : Cal P w K mg base f_greatest_of fd_greatest_of "greatest_of" 2 ps_greatest_of sg_greatest_of F_greatest_of := c_greatest_of (k := 1) D_greatest_of (C_less.mono (by decide))
  have C_ratio : Cal P w K mg base f_ratio fd_ratio "ratio" 1 ps_ratio sg_ratio F_ratio := c_ratio (k := 0) D_ratio g_gcd
  have C_add : Cal P w K mg base f_add fd_add "add" 2 ps_add sg_add F_add := c_add (k := 1) D_add (C_ratio.mono (by decide))
  have C_multiply : Cal P w K mg base f_multiply fd_multiply "multiply" 2 ps_multiply sg_multiply F_multiply := c_multiply (k := 1) D_multiply (C_ratio.mono (by decide))
  have C_grown : Cal P w K mg base f_grown fd_grown "grown" 3 ps_grown sg_grown F_grown := c_grown (k := 2) D_grown (C_add.mono (by decide)) (C_multiply.mono (by decide))
  have C_least_by : Cal P w K mg base f_least_by fd_least_by "least_by" 4 ps_least_by sg_least_by F_least_by := c_least_by (k := 3) D_least_by (C_grown.mono (by decide))
  have C_least_reading : Cal P w K mg base f_least_reading fd_least_reading "least_reading" 5 ps_least_reading sg_least_reading F_least_reading := c_least_reading (k := 4) D_least_reading (C_greatest_of.mono (by decide)) (C_least_by.mono (by decide))
  have C_least_of : Cal P w K mg base f_least_of fd_least_of "least_of" 2 ps_least_of sg_least_of F_least_of := c_least_of (k := 1) D_least_of (C_less.mono (by decide))
  have C_greatest_by : Cal P w K mg base f_greatest_by fd_greatest_by "greatest_by" 4 ps_greatest_by sg_greatest_by F_greatest_by := c_greatest_by (k := 3) D_greatest_by (C_grown.mono (by decide))
  have C_greatest_reading : Cal P w K mg base f_greatest_reading fd_greatest_reading "greatest_reading" 5 ps_greatest_reading sg_greatest_reading F_greatest_reading := c_greatest_reading (k := 4) D_greatest_reading (C_least_of.mono (by decide)) (C_greatest_by.mono (by decide))
  have C_sure_readings : Cal P w K mg base f_sure_readings fd_sure_readings "sure_readings" 6 ps_sure_readings sg_sure_readings F_sure_readings := c_sure_readings (k := 5) D_sure_readings (C_least_reading.mono (by decide)) (C_greatest_reading.mono (by decide)) (C_less.mono (by decide))
  have C__law_same : Cal P w K mg base f__law_same fd__law_same "_law_same" 9 ps__law_same sg__law_same F__law_same := by
    have go : ∀ r, Cal P w K mg base f__law_same fd__law_same "_law_same" (0 + 1 + r) ps__law_same sg__law_same (R__law_same r) := by
      intro r
      induction r with
      | zero => exact Cal.none D__law_same
      | succ r ih => exact (c__law_same (k := 0 + 1 + r) D__law_same ih z_isinstance z_list z_tuple z_len z_range z_all z_bool z_str z_int)
    exact go 8
  have C_subtract : Cal P w K mg base f_subtract fd_subtract "subtract" 2 ps_subtract sg_subtract F_subtract := c_subtract (k := 1) D_subtract (C_ratio.mono (by decide))
  have C_floor_of : Cal P w K mg base f_floor_of fd_floor_of "floor_of" 1 ps_floor_of sg_floor_of F_floor_of := c_floor_of (k := 0) D_floor_of
  have C_divide : Cal P w K mg base f_divide fd_divide "divide" 2 ps_divide sg_divide F_divide := c_divide (k := 1) D_divide (C_ratio.mono (by decide))
  have C_last_with : Cal P w K mg base f_last_with fd_last_with "last_with" 3 ps_last_with sg_last_with F_last_with := c_last_with (k := 2) D_last_with (C_subtract.mono (by decide)) (C_less.mono (by decide)) (C_floor_of.mono (by decide)) (C_divide.mono (by decide))
  have C_ceiling_of : Cal P w K mg base f_ceiling_of fd_ceiling_of "ceiling_of" 1 ps_ceiling_of sg_ceiling_of F_ceiling_of := c_ceiling_of (k := 0) D_ceiling_of
  have C_first_with : Cal P w K mg base f_first_with fd_first_with "first_with" 3 ps_first_with sg_first_with F_first_with := c_first_with (k := 2) D_first_with (C_subtract.mono (by decide)) (C_less.mono (by decide)) (C_ceiling_of.mono (by decide)) (C_divide.mono (by decide))
  have C_times_of : Cal P w K mg base f_times_of fd_times_of "times_of" 4 ps_times_of sg_times_of F_times_of := c_times_of (k := 3) D_times_of (C_first_with.mono (by decide)) (C_last_with.mono (by decide)) z_max z_min
  have C_flag_at : Cal P w K mg base f_flag_at fd_flag_at "flag_at" 1 ps_flag_at sg_flag_at F_flag_at := c_flag_at (k := 0) D_flag_at z_len
  have C_spans : Cal P w K mg base f_spans fd_spans "spans" 2 ps_spans sg_spans F_spans := c_spans (k := 1) D_spans (C_flag_at.mono (by decide)) z_range
  have C_readings : Cal P w K mg base f_readings fd_readings "readings" 6 ps_readings sg_readings F_readings := c_readings (k := 5) D_readings (C_least_reading.mono (by decide)) (C_greatest_reading.mono (by decide))
  have C_least_turn : Cal P w K mg base f_least_turn fd_least_turn "least_turn" 1 ps_least_turn sg_least_turn F_least_turn := c_least_turn (k := 0) D_least_turn z_len z_range
  have C_calendar_of : Cal P w K mg base f_calendar_of fd_calendar_of "calendar_of" 2 ps_calendar_of sg_calendar_of F_calendar_of := c_calendar_of (k := 1) D_calendar_of (C_least_turn.mono (by decide)) z_len
  have C_round_times : Cal P w K mg base f_round_times fd_round_times "round_times" 3 ps_round_times sg_round_times F_round_times := c_round_times (k := 2) D_round_times (C_calendar_of.mono (by decide)) z_range z_tuple
  have C_up_times : Cal P w K mg base f_up_times fd_up_times "up_times" 4 ps_up_times sg_up_times F_up_times := c_up_times (k := 3) D_up_times (C_round_times.mono (by decide))
  have C_hidden_times : Cal P w K mg base f_hidden_times fd_hidden_times "hidden_times" 4 ps_hidden_times sg_hidden_times F_hidden_times := c_hidden_times (k := 3) D_hidden_times (C_round_times.mono (by decide))
  have C_sight_turn : Cal P w K mg base f_sight_turn fd_sight_turn "sight_turn" 1 ps_sight_turn sg_sight_turn F_sight_turn := c_sight_turn (k := 0) D_sight_turn z_len g_lcm
  have C_holds : Cal P w K mg base f_holds fd_holds "holds" 2 ps_holds sg_holds F_holds := c_holds (k := 1) D_holds (C_flag_at.mono (by decide))
  have C_arrival : Cal P w K mg base f_arrival fd_arrival "arrival" 1 ps_arrival sg_arrival F_arrival := c_arrival (k := 0) D_arrival z_len
  have C_tells : Cal P w K mg base f_tells fd_tells "tells" 5 ps_tells sg_tells F_tells := c_tells (k := 4) D_tells (C_up_times.mono (by decide)) (C_hidden_times.mono (by decide)) (C_sight_turn.mono (by decide)) (C_holds.mono (by decide)) (C_arrival.mono (by decide)) (C_calendar_of.mono (by decide)) z_range z_tuple
  have C_law : Cal P w K mg base f_law fd_law "law" 10 ps_law sg_law F_law := c_law (k := 9) D_law (C__law_draw.mono (by decide)) (C__law_drift.mono (by decide)) (C__law_stamps.mono (by decide)) (C__law_next.mono (by decide)) (C__law_bars.mono (by decide)) (C__law_station.mono (by decide)) (C__law_probe.mono (by decide)) (C__law_ranges.mono (by decide)) (C__law_tells.mono (by decide)) (C__law_same.mono (by decide)) (C_spans.mono (by decide)) (C_tells.mono (by decide)) (C_readings.mono (by decide)) (C_sure_readings.mono (by decide)) (C__law_below.mono (by decide)) (C_times_of.mono (by decide)) z_range
  exact C_law
set_option maxHeartbeats 0 in
theorem all_mk {l : PySem.W.OpenLaw} {w : World} {K : PySem.W.Frag} {h : Heap} {mg : Str → Option Value} {fa : Addr} (X : K.In h) (G : h.Ns mainGlobals mg) (hfa : mg "law" = some (.ref fa))
    {f0 : Addr} {od0 an0 : Option Addr} {sl0 : Array (Option Value)} {oc0 kV0 dc0 pm0 cd0 ct0 : Value}
    (a0 : PySem.W.nsIn K mainGlobals "_law_draw" = some (some (.ref f0))) (l0 : K.lookup f0 = some ⟨oc0, od0, .func (PySem.W.fnOf "_law_draw" "_law_draw" (defArgs s__law_draw) (defBody s__law_draw) (defScope s__law_draw) .none kV0 dc0 pm0 an0 cd0 ct0), sl0⟩) (c0 : PySem.W.codeIn K cd0 "_law_draw" = true) (k0 : PySem.W.keepIn K (.ref f0) = true)
    {f1 : Addr} {od1 an1 : Option Addr} {sl1 : Array (Option Value)} {oc1 kV1 dc1 pm1 cd1 ct1 : Value}
    (a1 : PySem.W.nsIn K mainGlobals "_law_low" = some (some (.ref f1))) (l1 : K.lookup f1 = some ⟨oc1, od1, .func (PySem.W.fnOf "_law_low" "_law_low" (defArgs s__law_low) (defBody s__law_low) (defScope s__law_low) .none kV1 dc1 pm1 an1 cd1 ct1), sl1⟩) (c1 : PySem.W.codeIn K cd1 "_law_low" = true) (k1 : PySem.W.keepIn K (.ref f1) = true)
    {f2 : Addr} {od2 an2 : Option Addr} {sl2 : Array (Option Value)} {oc2 kV2 dc2 pm2 cd2 ct2 : Value}
    (a2 : PySem.W.nsIn K mainGlobals "_law_add" = some (some (.ref f2))) (l2 : K.lookup f2 = some ⟨oc2, od2, .func (PySem.W.fnOf "_law_add" "_law_add" (defArgs s__law_add) (defBody s__law_add) (defScope s__law_add) .none kV2 dc2 pm2 an2 cd2 ct2), sl2⟩) (c2 : PySem.W.codeIn K cd2 "_law_add" = true) (k2 : PySem.W.keepIn K (.ref f2) = true)
    {f3 : Addr} {od3 an3 : Option Addr} {sl3 : Array (Option Value)} {oc3 kV3 dc3 pm3 cd3 ct3 : Value}
    (a3 : PySem.W.nsIn K mainGlobals "_law_next" = some (some (.ref f3))) (l3 : K.lookup f3 = some ⟨oc3, od3, .func (PySem.W.fnOf "_law_next" "_law_next" (defArgs s__law_next) (defBody s__law_next) (defScope s__law_next) .none kV3 dc3 pm3 an3 cd3 ct3), sl3⟩) (c3 : PySem.W.codeIn K cd3 "_law_next" = true) (k3 : PySem.W.keepIn K (.ref f3) = true)
    {f4 : Addr} {od4 an4 : Option Addr} {sl4 : Array (Option Value)} {oc4 kV4 dc4 pm4 cd4 ct4 : Value}
    (a4 : PySem.W.nsIn K mainGlobals "_law_fraction" = some (some (.ref f4))) (l4 : K.lookup f4 = some ⟨oc4, od4, .func (PySem.W.fnOf "_law_fraction" "_law_fraction" (defArgs s__law_fraction) (defBody s__law_fraction) (defScope s__law_fraction) .none kV4 dc4 pm4 an4 cd4 ct4), sl4⟩) (c4 : PySem.W.codeIn K cd4 "_law_fraction" = true) (k4 : PySem.W.keepIn K (.ref f4) = true)
    {f5 : Addr} {od5 an5 : Option Addr} {sl5 : Array (Option Value)} {oc5 kV5 dc5 pm5 cd5 ct5 : Value}
    (a5 : PySem.W.nsIn K mainGlobals "_law_drift" = some (some (.ref f5))) (l5 : K.lookup f5 = some ⟨oc5, od5, .func (PySem.W.fnOf "_law_drift" "_law_drift" (defArgs s__law_drift) (defBody s__law_drift) (defScope s__law_drift) .none kV5 dc5 pm5 an5 cd5 ct5), sl5⟩) (c5 : PySem.W.codeIn K cd5 "_law_drift" = true) (k5 : PySem.W.keepIn K (.ref f5) = true)
    {f6 : Addr} {od6 an6 : Option Addr} {sl6 : Array (Option Value)} {oc6 kV6 dc6 pm6 cd6 ct6 : Value}
    (a6 : PySem.W.nsIn K mainGlobals "_law_less_by" = some (some (.ref f6))) (l6 : K.lookup f6 = some ⟨oc6, od6, .func (PySem.W.fnOf "_law_less_by" "_law_less_by" (defArgs s__law_less_by) (defBody s__law_less_by) (defScope s__law_less_by) .none kV6 dc6 pm6 an6 cd6 ct6), sl6⟩) (c6 : PySem.W.codeIn K cd6 "_law_less_by" = true) (k6 : PySem.W.keepIn K (.ref f6) = true)
    {f7 : Addr} {od7 an7 : Option Addr} {sl7 : Array (Option Value)} {oc7 kV7 dc7 pm7 cd7 ct7 : Value}
    (a7 : PySem.W.nsIn K mainGlobals "_law_times" = some (some (.ref f7))) (l7 : K.lookup f7 = some ⟨oc7, od7, .func (PySem.W.fnOf "_law_times" "_law_times" (defArgs s__law_times) (defBody s__law_times) (defScope s__law_times) .none kV7 dc7 pm7 an7 cd7 ct7), sl7⟩) (c7 : PySem.W.codeIn K cd7 "_law_times" = true) (k7 : PySem.W.keepIn K (.ref f7) = true)
    {f8 : Addr} {od8 an8 : Option Addr} {sl8 : Array (Option Value)} {oc8 kV8 dc8 pm8 cd8 ct8 : Value}
    (a8 : PySem.W.nsIn K mainGlobals "_law_stamps" = some (some (.ref f8))) (l8 : K.lookup f8 = some ⟨oc8, od8, .func (PySem.W.fnOf "_law_stamps" "_law_stamps" (defArgs s__law_stamps) (defBody s__law_stamps) (defScope s__law_stamps) .none kV8 dc8 pm8 an8 cd8 ct8), sl8⟩) (c8 : PySem.W.codeIn K cd8 "_law_stamps" = true) (k8 : PySem.W.keepIn K (.ref f8) = true)
    {f9 : Addr} {od9 an9 : Option Addr} {sl9 : Array (Option Value)} {oc9 kV9 dc9 pm9 cd9 ct9 : Value}
    (a9 : PySem.W.nsIn K mainGlobals "_law_below" = some (some (.ref f9))) (l9 : K.lookup f9 = some ⟨oc9, od9, .func (PySem.W.fnOf "_law_below" "_law_below" (defArgs s__law_below) (defBody s__law_below) (defScope s__law_below) .none kV9 dc9 pm9 an9 cd9 ct9), sl9⟩) (c9 : PySem.W.codeIn K cd9 "_law_below" = true) (k9 : PySem.W.keepIn K (.ref f9) = true)
    {f10 : Addr} {od10 an10 : Option Addr} {sl10 : Array (Option Value)} {oc10 kV10 dc10 pm10 cd10 ct10 : Value}
    (a10 : PySem.W.nsIn K mainGlobals "_law_ranges" = some (some (.ref f10))) (l10 : K.lookup f10 = some ⟨oc10, od10, .func (PySem.W.fnOf "_law_ranges" "_law_ranges" (defArgs s__law_ranges) (defBody s__law_ranges) (defScope s__law_ranges) .none kV10 dc10 pm10 an10 cd10 ct10), sl10⟩) (c10 : PySem.W.codeIn K cd10 "_law_ranges" = true) (k10 : PySem.W.keepIn K (.ref f10) = true)
    {f11 : Addr} {od11 an11 : Option Addr} {sl11 : Array (Option Value)} {oc11 kV11 dc11 pm11 cd11 ct11 : Value}
    (a11 : PySem.W.nsIn K mainGlobals "_law_is_barred" = some (some (.ref f11))) (l11 : K.lookup f11 = some ⟨oc11, od11, .func (PySem.W.fnOf "_law_is_barred" "_law_is_barred" (defArgs s__law_is_barred) (defBody s__law_is_barred) (defScope s__law_is_barred) .none kV11 dc11 pm11 an11 cd11 ct11), sl11⟩) (c11 : PySem.W.codeIn K cd11 "_law_is_barred" = true) (k11 : PySem.W.keepIn K (.ref f11) = true)
    {f12 : Addr} {od12 an12 : Option Addr} {sl12 : Array (Option Value)} {oc12 kV12 dc12 pm12 cd12 ct12 : Value}
    (a12 : PySem.W.nsIn K mainGlobals "_law_bars" = some (some (.ref f12))) (l12 : K.lookup f12 = some ⟨oc12, od12, .func (PySem.W.fnOf "_law_bars" "_law_bars" (defArgs s__law_bars) (defBody s__law_bars) (defScope s__law_bars) .none kV12 dc12 pm12 an12 cd12 ct12), sl12⟩) (c12 : PySem.W.codeIn K cd12 "_law_bars" = true) (k12 : PySem.W.keepIn K (.ref f12) = true)
    {f13 : Addr} {od13 an13 : Option Addr} {sl13 : Array (Option Value)} {oc13 kV13 dc13 pm13 cd13 ct13 : Value}
    (a13 : PySem.W.nsIn K mainGlobals "_law_station" = some (some (.ref f13))) (l13 : K.lookup f13 = some ⟨oc13, od13, .func (PySem.W.fnOf "_law_station" "_law_station" (defArgs s__law_station) (defBody s__law_station) (defScope s__law_station) .none kV13 dc13 pm13 an13 cd13 ct13), sl13⟩) (c13 : PySem.W.codeIn K cd13 "_law_station" = true) (k13 : PySem.W.keepIn K (.ref f13) = true)
    {f14 : Addr} {od14 an14 : Option Addr} {sl14 : Array (Option Value)} {oc14 kV14 dc14 pm14 cd14 ct14 : Value}
    (a14 : PySem.W.nsIn K mainGlobals "_law_probe" = some (some (.ref f14))) (l14 : K.lookup f14 = some ⟨oc14, od14, .func (PySem.W.fnOf "_law_probe" "_law_probe" (defArgs s__law_probe) (defBody s__law_probe) (defScope s__law_probe) .none kV14 dc14 pm14 an14 cd14 ct14), sl14⟩) (c14 : PySem.W.codeIn K cd14 "_law_probe" = true) (k14 : PySem.W.keepIn K (.ref f14) = true)
    {f15 : Addr} {od15 an15 : Option Addr} {sl15 : Array (Option Value)} {oc15 kV15 dc15 pm15 cd15 ct15 : Value}
    (a15 : PySem.W.nsIn K mainGlobals "_law_is_up" = some (some (.ref f15))) (l15 : K.lookup f15 = some ⟨oc15, od15, .func (PySem.W.fnOf "_law_is_up" "_law_is_up" (defArgs s__law_is_up) (defBody s__law_is_up) (defScope s__law_is_up) .none kV15 dc15 pm15 an15 cd15 ct15), sl15⟩) (c15 : PySem.W.codeIn K cd15 "_law_is_up" = true) (k15 : PySem.W.keepIn K (.ref f15) = true)
    {f16 : Addr} {od16 an16 : Option Addr} {sl16 : Array (Option Value)} {oc16 kV16 dc16 pm16 cd16 ct16 : Value}
    (a16 : PySem.W.nsIn K mainGlobals "_law_is_hidden" = some (some (.ref f16))) (l16 : K.lookup f16 = some ⟨oc16, od16, .func (PySem.W.fnOf "_law_is_hidden" "_law_is_hidden" (defArgs s__law_is_hidden) (defBody s__law_is_hidden) (defScope s__law_is_hidden) .none kV16 dc16 pm16 an16 cd16 ct16), sl16⟩) (c16 : PySem.W.codeIn K cd16 "_law_is_hidden" = true) (k16 : PySem.W.keepIn K (.ref f16) = true)
    {f17 : Addr} {od17 an17 : Option Addr} {sl17 : Array (Option Value)} {oc17 kV17 dc17 pm17 cd17 ct17 : Value}
    (a17 : PySem.W.nsIn K mainGlobals "_law_arrival" = some (some (.ref f17))) (l17 : K.lookup f17 = some ⟨oc17, od17, .func (PySem.W.fnOf "_law_arrival" "_law_arrival" (defArgs s__law_arrival) (defBody s__law_arrival) (defScope s__law_arrival) .none kV17 dc17 pm17 an17 cd17 ct17), sl17⟩) (c17 : PySem.W.codeIn K cd17 "_law_arrival" = true) (k17 : PySem.W.keepIn K (.ref f17) = true)
    {f18 : Addr} {od18 an18 : Option Addr} {sl18 : Array (Option Value)} {oc18 kV18 dc18 pm18 cd18 ct18 : Value}
    (a18 : PySem.W.nsIn K mainGlobals "_law_tells" = some (some (.ref f18))) (l18 : K.lookup f18 = some ⟨oc18, od18, .func (PySem.W.fnOf "_law_tells" "_law_tells" (defArgs s__law_tells) (defBody s__law_tells) (defScope s__law_tells) .none kV18 dc18 pm18 an18 cd18 ct18), sl18⟩) (c18 : PySem.W.codeIn K cd18 "_law_tells" = true) (k18 : PySem.W.keepIn K (.ref f18) = true)
    {f19 : Addr} {od19 an19 : Option Addr} {sl19 : Array (Option Value)} {oc19 kV19 dc19 pm19 cd19 ct19 : Value}
    (a19 : PySem.W.nsIn K mainGlobals "less" = some (some (.ref f19))) (l19 : K.lookup f19 = some ⟨oc19, od19, .func (PySem.W.fnOf "less" "less" (defArgs s_less) (defBody s_less) (defScope s_less) .none kV19 dc19 pm19 an19 cd19 ct19), sl19⟩) (c19 : PySem.W.codeIn K cd19 "less" = true) (k19 : PySem.W.keepIn K (.ref f19) = true)
    {f20 : Addr} {od20 an20 : Option Addr} {sl20 : Array (Option Value)} {oc20 kV20 dc20 pm20 cd20 ct20 : Value}
    (a20 : PySem.W.nsIn K mainGlobals "greatest_of" = some (some (.ref f20))) (l20 : K.lookup f20 = some ⟨oc20, od20, .func (PySem.W.fnOf "greatest_of" "greatest_of" (defArgs s_greatest_of) (defBody s_greatest_of) (defScope s_greatest_of) .none kV20 dc20 pm20 an20 cd20 ct20), sl20⟩) (c20 : PySem.W.codeIn K cd20 "greatest_of" = true) (k20 : PySem.W.keepIn K (.ref f20) = true)
    {f21 : Addr} {od21 an21 : Option Addr} {sl21 : Array (Option Value)} {oc21 kV21 dc21 pm21 cd21 ct21 : Value}
    (a21 : PySem.W.nsIn K mainGlobals "ratio" = some (some (.ref f21))) (l21 : K.lookup f21 = some ⟨oc21, od21, .func (PySem.W.fnOf "ratio" "ratio" (defArgs s_ratio) (defBody s_ratio) (defScope s_ratio) .none kV21 dc21 pm21 an21 cd21 ct21), sl21⟩) (c21 : PySem.W.codeIn K cd21 "ratio" = true) (k21 : PySem.W.keepIn K (.ref f21) = true)
    {f22 : Addr} {od22 an22 : Option Addr} {sl22 : Array (Option Value)} {oc22 kV22 dc22 pm22 cd22 ct22 : Value}
    (a22 : PySem.W.nsIn K mainGlobals "add" = some (some (.ref f22))) (l22 : K.lookup f22 = some ⟨oc22, od22, .func (PySem.W.fnOf "add" "add" (defArgs s_add) (defBody s_add) (defScope s_add) .none kV22 dc22 pm22 an22 cd22 ct22), sl22⟩) (c22 : PySem.W.codeIn K cd22 "add" = true) (k22 : PySem.W.keepIn K (.ref f22) = true)
    {f23 : Addr} {od23 an23 : Option Addr} {sl23 : Array (Option Value)} {oc23 kV23 dc23 pm23 cd23 ct23 : Value}
    (a23 : PySem.W.nsIn K mainGlobals "multiply" = some (some (.ref f23))) (l23 : K.lookup f23 = some ⟨oc23, od23, .func (PySem.W.fnOf "multiply" "multiply" (defArgs s_multiply) (defBody s_multiply) (defScope s_multiply) .none kV23 dc23 pm23 an23 cd23 ct23), sl23⟩) (c23 : PySem.W.codeIn K cd23 "multiply" = true) (k23 : PySem.W.keepIn K (.ref f23) = true)
    {f24 : Addr} {od24 an24 : Option Addr} {sl24 : Array (Option Value)} {oc24 kV24 dc24 pm24 cd24 ct24 : Value}
    (a24 : PySem.W.nsIn K mainGlobals "grown" = some (some (.ref f24))) (l24 : K.lookup f24 = some ⟨oc24, od24, .func (PySem.W.fnOf "grown" "grown" (defArgs s_grown) (defBody s_grown) (defScope s_grown) .none kV24 dc24 pm24 an24 cd24 ct24), sl24⟩) (c24 : PySem.W.codeIn K cd24 "grown" = true) (k24 : PySem.W.keepIn K (.ref f24) = true)
    {f25 : Addr} {od25 an25 : Option Addr} {sl25 : Array (Option Value)} {oc25 kV25 dc25 pm25 cd25 ct25 : Value}
    (a25 : PySem.W.nsIn K mainGlobals "least_by" = some (some (.ref f25))) (l25 : K.lookup f25 = some ⟨oc25, od25, .func (PySem.W.fnOf "least_by" "least_by" (defArgs s_least_by) (defBody s_least_by) (defScope s_least_by) .none kV25 dc25 pm25 an25 cd25 ct25), sl25⟩) (c25 : PySem.W.codeIn K cd25 "least_by" = true) (k25 : PySem.W.keepIn K (.ref f25) = true)
    {f26 : Addr} {od26 an26 : Option Addr} {sl26 : Array (Option Value)} {oc26 kV26 dc26 pm26 cd26 ct26 : Value}
    (a26 : PySem.W.nsIn K mainGlobals "least_reading" = some (some (.ref f26))) (l26 : K.lookup f26 = some ⟨oc26, od26, .func (PySem.W.fnOf "least_reading" "least_reading" (defArgs s_least_reading) (defBody s_least_reading) (defScope s_least_reading) .none kV26 dc26 pm26 an26 cd26 ct26), sl26⟩) (c26 : PySem.W.codeIn K cd26 "least_reading" = true) (k26 : PySem.W.keepIn K (.ref f26) = true)
    {f27 : Addr} {od27 an27 : Option Addr} {sl27 : Array (Option Value)} {oc27 kV27 dc27 pm27 cd27 ct27 : Value}
    (a27 : PySem.W.nsIn K mainGlobals "least_of" = some (some (.ref f27))) (l27 : K.lookup f27 = some ⟨oc27, od27, .func (PySem.W.fnOf "least_of" "least_of" (defArgs s_least_of) (defBody s_least_of) (defScope s_least_of) .none kV27 dc27 pm27 an27 cd27 ct27), sl27⟩) (c27 : PySem.W.codeIn K cd27 "least_of" = true) (k27 : PySem.W.keepIn K (.ref f27) = true)
    {f28 : Addr} {od28 an28 : Option Addr} {sl28 : Array (Option Value)} {oc28 kV28 dc28 pm28 cd28 ct28 : Value}
    (a28 : PySem.W.nsIn K mainGlobals "greatest_by" = some (some (.ref f28))) (l28 : K.lookup f28 = some ⟨oc28, od28, .func (PySem.W.fnOf "greatest_by" "greatest_by" (defArgs s_greatest_by) (defBody s_greatest_by) (defScope s_greatest_by) .none kV28 dc28 pm28 an28 cd28 ct28), sl28⟩) (c28 : PySem.W.codeIn K cd28 "greatest_by" = true) (k28 : PySem.W.keepIn K (.ref f28) = true)
    {f29 : Addr} {od29 an29 : Option Addr} {sl29 : Array (Option Value)} {oc29 kV29 dc29 pm29 cd29 ct29 : Value}
    (a29 : PySem.W.nsIn K mainGlobals "greatest_reading" = some (some (.ref f29))) (l29 : K.lookup f29 = some ⟨oc29, od29, .func (PySem.W.fnOf "greatest_reading" "greatest_reading" (defArgs s_greatest_reading) (defBody s_greatest_reading) (defScope s_greatest_reading) .none kV29 dc29 pm29 an29 cd29 ct29), sl29⟩) (c29 : PySem.W.codeIn K cd29 "greatest_reading" = true) (k29 : PySem.W.keepIn K (.ref f29) = true)
    {f30 : Addr} {od30 an30 : Option Addr} {sl30 : Array (Option Value)} {oc30 kV30 dc30 pm30 cd30 ct30 : Value}
    (a30 : PySem.W.nsIn K mainGlobals "sure_readings" = some (some (.ref f30))) (l30 : K.lookup f30 = some ⟨oc30, od30, .func (PySem.W.fnOf "sure_readings" "sure_readings" (defArgs s_sure_readings) (defBody s_sure_readings) (defScope s_sure_readings) .none kV30 dc30 pm30 an30 cd30 ct30), sl30⟩) (c30 : PySem.W.codeIn K cd30 "sure_readings" = true) (k30 : PySem.W.keepIn K (.ref f30) = true)
    {f31 : Addr} {od31 an31 : Option Addr} {sl31 : Array (Option Value)} {oc31 kV31 dc31 pm31 cd31 ct31 : Value}
    (a31 : PySem.W.nsIn K mainGlobals "_law_same" = some (some (.ref f31))) (l31 : K.lookup f31 = some ⟨oc31, od31, .func (PySem.W.fnOf "_law_same" "_law_same" (defArgs s__law_same) (defBody s__law_same) (defScope s__law_same) .none kV31 dc31 pm31 an31 cd31 ct31), sl31⟩) (c31 : PySem.W.codeIn K cd31 "_law_same" = true) (k31 : PySem.W.keepIn K (.ref f31) = true)
    {f32 : Addr} {od32 an32 : Option Addr} {sl32 : Array (Option Value)} {oc32 kV32 dc32 pm32 cd32 ct32 : Value}
    (a32 : PySem.W.nsIn K mainGlobals "subtract" = some (some (.ref f32))) (l32 : K.lookup f32 = some ⟨oc32, od32, .func (PySem.W.fnOf "subtract" "subtract" (defArgs s_subtract) (defBody s_subtract) (defScope s_subtract) .none kV32 dc32 pm32 an32 cd32 ct32), sl32⟩) (c32 : PySem.W.codeIn K cd32 "subtract" = true) (k32 : PySem.W.keepIn K (.ref f32) = true)
    {f33 : Addr} {od33 an33 : Option Addr} {sl33 : Array (Option Value)} {oc33 kV33 dc33 pm33 cd33 ct33 : Value}
    (a33 : PySem.W.nsIn K mainGlobals "floor_of" = some (some (.ref f33))) (l33 : K.lookup f33 = some ⟨oc33, od33, .func (PySem.W.fnOf "floor_of" "floor_of" (defArgs s_floor_of) (defBody s_floor_of) (defScope s_floor_of) .none kV33 dc33 pm33 an33 cd33 ct33), sl33⟩) (c33 : PySem.W.codeIn K cd33 "floor_of" = true) (k33 : PySem.W.keepIn K (.ref f33) = true)
    {f34 : Addr} {od34 an34 : Option Addr} {sl34 : Array (Option Value)} {oc34 kV34 dc34 pm34 cd34 ct34 : Value}
    (a34 : PySem.W.nsIn K mainGlobals "divide" = some (some (.ref f34))) (l34 : K.lookup f34 = some ⟨oc34, od34, .func (PySem.W.fnOf "divide" "divide" (defArgs s_divide) (defBody s_divide) (defScope s_divide) .none kV34 dc34 pm34 an34 cd34 ct34), sl34⟩) (c34 : PySem.W.codeIn K cd34 "divide" = true) (k34 : PySem.W.keepIn K (.ref f34) = true)
    {f35 : Addr} {od35 an35 : Option Addr} {sl35 : Array (Option Value)} {oc35 kV35 dc35 pm35 cd35 ct35 : Value}
    (a35 : PySem.W.nsIn K mainGlobals "last_with" = some (some (.ref f35))) (l35 : K.lookup f35 = some ⟨oc35, od35, .func (PySem.W.fnOf "last_with" "last_with" (defArgs s_last_with) (defBody s_last_with) (defScope s_last_with) .none kV35 dc35 pm35 an35 cd35 ct35), sl35⟩) (c35 : PySem.W.codeIn K cd35 "last_with" = true) (k35 : PySem.W.keepIn K (.ref f35) = true)
    {f36 : Addr} {od36 an36 : Option Addr} {sl36 : Array (Option Value)} {oc36 kV36 dc36 pm36 cd36 ct36 : Value}
    (a36 : PySem.W.nsIn K mainGlobals "ceiling_of" = some (some (.ref f36))) (l36 : K.lookup f36 = some ⟨oc36, od36, .func (PySem.W.fnOf "ceiling_of" "ceiling_of" (defArgs s_ceiling_of) (defBody s_ceiling_of) (defScope s_ceiling_of) .none kV36 dc36 pm36 an36 cd36 ct36), sl36⟩) (c36 : PySem.W.codeIn K cd36 "ceiling_of" = true) (k36 : PySem.W.keepIn K (.ref f36) = true)
    {f37 : Addr} {od37 an37 : Option Addr} {sl37 : Array (Option Value)} {oc37 kV37 dc37 pm37 cd37 ct37 : Value}
    (a37 : PySem.W.nsIn K mainGlobals "first_with" = some (some (.ref f37))) (l37 : K.lookup f37 = some ⟨oc37, od37, .func (PySem.W.fnOf "first_with" "first_with" (defArgs s_first_with) (defBody s_first_with) (defScope s_first_with) .none kV37 dc37 pm37 an37 cd37 ct37), sl37⟩) (c37 : PySem.W.codeIn K cd37 "first_with" = true) (k37 : PySem.W.keepIn K (.ref f37) = true)
    {f38 : Addr} {od38 an38 : Option Addr} {sl38 : Array (Option Value)} {oc38 kV38 dc38 pm38 cd38 ct38 : Value}
    (a38 : PySem.W.nsIn K mainGlobals "times_of" = some (some (.ref f38))) (l38 : K.lookup f38 = some ⟨oc38, od38, .func (PySem.W.fnOf "times_of" "times_of" (defArgs s_times_of) (defBody s_times_of) (defScope s_times_of) .none kV38 dc38 pm38 an38 cd38 ct38), sl38⟩) (c38 : PySem.W.codeIn K cd38 "times_of" = true) (k38 : PySem.W.keepIn K (.ref f38) = true)
    {f39 : Addr} {od39 an39 : Option Addr} {sl39 : Array (Option Value)} {oc39 kV39 dc39 pm39 cd39 ct39 : Value}
    (a39 : PySem.W.nsIn K mainGlobals "flag_at" = some (some (.ref f39))) (l39 : K.lookup f39 = some ⟨oc39, od39, .func (PySem.W.fnOf "flag_at" "flag_at" (defArgs s_flag_at) (defBody s_flag_at) (defScope s_flag_at) .none kV39 dc39 pm39 an39 cd39 ct39), sl39⟩) (c39 : PySem.W.codeIn K cd39 "flag_at" = true) (k39 : PySem.W.keepIn K (.ref f39) = true)
    {f40 : Addr} {od40 an40 : Option Addr} {sl40 : Array (Option Value)} {oc40 kV40 dc40 pm40 cd40 ct40 : Value}
    (a40 : PySem.W.nsIn K mainGlobals "spans" = some (some (.ref f40))) (l40 : K.lookup f40 = some ⟨oc40, od40, .func (PySem.W.fnOf "spans" "spans" (defArgs s_spans) (defBody s_spans) (defScope s_spans) .none kV40 dc40 pm40 an40 cd40 ct40), sl40⟩) (c40 : PySem.W.codeIn K cd40 "spans" = true) (k40 : PySem.W.keepIn K (.ref f40) = true)
    {f41 : Addr} {od41 an41 : Option Addr} {sl41 : Array (Option Value)} {oc41 kV41 dc41 pm41 cd41 ct41 : Value}
    (a41 : PySem.W.nsIn K mainGlobals "readings" = some (some (.ref f41))) (l41 : K.lookup f41 = some ⟨oc41, od41, .func (PySem.W.fnOf "readings" "readings" (defArgs s_readings) (defBody s_readings) (defScope s_readings) .none kV41 dc41 pm41 an41 cd41 ct41), sl41⟩) (c41 : PySem.W.codeIn K cd41 "readings" = true) (k41 : PySem.W.keepIn K (.ref f41) = true)
    {f42 : Addr} {od42 an42 : Option Addr} {sl42 : Array (Option Value)} {oc42 kV42 dc42 pm42 cd42 ct42 : Value}
    (a42 : PySem.W.nsIn K mainGlobals "least_turn" = some (some (.ref f42))) (l42 : K.lookup f42 = some ⟨oc42, od42, .func (PySem.W.fnOf "least_turn" "least_turn" (defArgs s_least_turn) (defBody s_least_turn) (defScope s_least_turn) .none kV42 dc42 pm42 an42 cd42 ct42), sl42⟩) (c42 : PySem.W.codeIn K cd42 "least_turn" = true) (k42 : PySem.W.keepIn K (.ref f42) = true)
    {f43 : Addr} {od43 an43 : Option Addr} {sl43 : Array (Option Value)} {oc43 kV43 dc43 pm43 cd43 ct43 : Value}
    (a43 : PySem.W.nsIn K mainGlobals "calendar_of" = some (some (.ref f43))) (l43 : K.lookup f43 = some ⟨oc43, od43, .func (PySem.W.fnOf "calendar_of" "calendar_of" (defArgs s_calendar_of) (defBody s_calendar_of) (defScope s_calendar_of) .none kV43 dc43 pm43 an43 cd43 ct43), sl43⟩) (c43 : PySem.W.codeIn K cd43 "calendar_of" = true) (k43 : PySem.W.keepIn K (.ref f43) = true)
    {f44 : Addr} {od44 an44 : Option Addr} {sl44 : Array (Option Value)} {oc44 kV44 dc44 pm44 cd44 ct44 : Value}
    (a44 : PySem.W.nsIn K mainGlobals "round_times" = some (some (.ref f44))) (l44 : K.lookup f44 = some ⟨oc44, od44, .func (PySem.W.fnOf "round_times" "round_times" (defArgs s_round_times) (defBody s_round_times) (defScope s_round_times) .none kV44 dc44 pm44 an44 cd44 ct44), sl44⟩) (c44 : PySem.W.codeIn K cd44 "round_times" = true) (k44 : PySem.W.keepIn K (.ref f44) = true)
    {f45 : Addr} {od45 an45 : Option Addr} {sl45 : Array (Option Value)} {oc45 kV45 dc45 pm45 cd45 ct45 : Value}
    (a45 : PySem.W.nsIn K mainGlobals "up_times" = some (some (.ref f45))) (l45 : K.lookup f45 = some ⟨oc45, od45, .func (PySem.W.fnOf "up_times" "up_times" (defArgs s_up_times) (defBody s_up_times) (defScope s_up_times) .none kV45 dc45 pm45 an45 cd45 ct45), sl45⟩) (c45 : PySem.W.codeIn K cd45 "up_times" = true) (k45 : PySem.W.keepIn K (.ref f45) = true)
    {f46 : Addr} {od46 an46 : Option Addr} {sl46 : Array (Option Value)} {oc46 kV46 dc46 pm46 cd46 ct46 : Value}
    (a46 : PySem.W.nsIn K mainGlobals "hidden_times" = some (some (.ref f46))) (l46 : K.lookup f46 = some ⟨oc46, od46, .func (PySem.W.fnOf "hidden_times" "hidden_times" (defArgs s_hidden_times) (defBody s_hidden_times) (defScope s_hidden_times) .none kV46 dc46 pm46 an46 cd46 ct46), sl46⟩) (c46 : PySem.W.codeIn K cd46 "hidden_times" = true) (k46 : PySem.W.keepIn K (.ref f46) = true)
    {f47 : Addr} {od47 an47 : Option Addr} {sl47 : Array (Option Value)} {oc47 kV47 dc47 pm47 cd47 ct47 : Value}
    (a47 : PySem.W.nsIn K mainGlobals "sight_turn" = some (some (.ref f47))) (l47 : K.lookup f47 = some ⟨oc47, od47, .func (PySem.W.fnOf "sight_turn" "sight_turn" (defArgs s_sight_turn) (defBody s_sight_turn) (defScope s_sight_turn) .none kV47 dc47 pm47 an47 cd47 ct47), sl47⟩) (c47 : PySem.W.codeIn K cd47 "sight_turn" = true) (k47 : PySem.W.keepIn K (.ref f47) = true)
    {f48 : Addr} {od48 an48 : Option Addr} {sl48 : Array (Option Value)} {oc48 kV48 dc48 pm48 cd48 ct48 : Value}
    (a48 : PySem.W.nsIn K mainGlobals "holds" = some (some (.ref f48))) (l48 : K.lookup f48 = some ⟨oc48, od48, .func (PySem.W.fnOf "holds" "holds" (defArgs s_holds) (defBody s_holds) (defScope s_holds) .none kV48 dc48 pm48 an48 cd48 ct48), sl48⟩) (c48 : PySem.W.codeIn K cd48 "holds" = true) (k48 : PySem.W.keepIn K (.ref f48) = true)
    {f49 : Addr} {od49 an49 : Option Addr} {sl49 : Array (Option Value)} {oc49 kV49 dc49 pm49 cd49 ct49 : Value}
    (a49 : PySem.W.nsIn K mainGlobals "arrival" = some (some (.ref f49))) (l49 : K.lookup f49 = some ⟨oc49, od49, .func (PySem.W.fnOf "arrival" "arrival" (defArgs s_arrival) (defBody s_arrival) (defScope s_arrival) .none kV49 dc49 pm49 an49 cd49 ct49), sl49⟩) (c49 : PySem.W.codeIn K cd49 "arrival" = true) (k49 : PySem.W.keepIn K (.ref f49) = true)
    {f50 : Addr} {od50 an50 : Option Addr} {sl50 : Array (Option Value)} {oc50 kV50 dc50 pm50 cd50 ct50 : Value}
    (a50 : PySem.W.nsIn K mainGlobals "tells" = some (some (.ref f50))) (l50 : K.lookup f50 = some ⟨oc50, od50, .func (PySem.W.fnOf "tells" "tells" (defArgs s_tells) (defBody s_tells) (defScope s_tells) .none kV50 dc50 pm50 an50 cd50 ct50), sl50⟩) (c50 : PySem.W.codeIn K cd50 "tells" = true) (k50 : PySem.W.keepIn K (.ref f50) = true)
    {f51 : Addr} {od51 an51 : Option Addr} {sl51 : Array (Option Value)} {oc51 kV51 dc51 pm51 cd51 ct51 : Value}
    (a51 : PySem.W.nsIn K mainGlobals "law" = some (some (.ref f51))) (l51 : K.lookup f51 = some ⟨oc51, od51, .func (PySem.W.fnOf "law" "law" (defArgs s_law) (defBody s_law) (defScope s_law) .none kV51 dc51 pm51 an51 cd51 ct51), sl51⟩) (c51 : PySem.W.codeIn K cd51 "law" = true) (k51 : PySem.W.keepIn K (.ref f51) = true)
    (z0 : PySem.W.nsIn K mainGlobals "abs" = some none)
    (z1 : PySem.W.nsIn K mainGlobals "all" = some none)
    (z2 : PySem.W.nsIn K mainGlobals "bool" = some none)
    (z3 : PySem.W.nsIn K mainGlobals "int" = some none)
    (z4 : PySem.W.nsIn K mainGlobals "isinstance" = some none)
    (z5 : PySem.W.nsIn K mainGlobals "len" = some none)
    (z6 : PySem.W.nsIn K mainGlobals "list" = some none)
    (z7 : PySem.W.nsIn K mainGlobals "max" = some none)
    (z8 : PySem.W.nsIn K mainGlobals "min" = some none)
    (z9 : PySem.W.nsIn K mainGlobals "range" = some none)
    (z10 : PySem.W.nsIn K mainGlobals "str" = some none)
    (z11 : PySem.W.nsIn K mainGlobals "tuple" = some none)
    (i0 : PySem.W.nsIn K mainGlobals "gcd" = some (some (.builtin "math.gcd")))
    (i1 : PySem.W.nsIn K mainGlobals "lcm" = some (some (.builtin "math.lcm"))) :
    ∃ fd : FuncData, (∀ (s : Shared) (v : Value), BindsTo s fd ⟨[v], []⟩ [("script", v)]) ∧ ∀ base : Heap, K.In base → base.Ns mainGlobals mg → FnOk l.prog w K mg base CX0 10 fa fd ["script"] (spD K mg sgL F_law) := by
  have e := hfa.symm.trans (PySem.W.mg_of X G a51)
  cases e
  have F0 := fun_mk (st := s__law_draw) l0 c0 k0
  have D0 : Dfn K mg "_law_draw" s__law_draw ps__law_draw _ _ := ⟨F0, PySem.W.mg_of X G a0, F0.binds (ps := ps__law_draw) fun _ _ _ _ _ _ us hl => match us, hl with | [_], _ => rfl⟩
  have F1 := fun_mk (st := s__law_low) l1 c1 k1
  have D1 : Dfn K mg "_law_low" s__law_low ps__law_low _ _ := ⟨F1, PySem.W.mg_of X G a1, F1.binds (ps := ps__law_low) fun _ _ _ _ _ _ us hl => match us, hl with | [_, _], _ => rfl⟩
  have F2 := fun_mk (st := s__law_add) l2 c2 k2
  have D2 : Dfn K mg "_law_add" s__law_add ps__law_add _ _ := ⟨F2, PySem.W.mg_of X G a2, F2.binds (ps := ps__law_add) fun _ _ _ _ _ _ us hl => match us, hl with | [_, _], _ => rfl⟩
  have F3 := fun_mk (st := s__law_next) l3 c3 k3
  have D3 : Dfn K mg "_law_next" s__law_next ps__law_next _ _ := ⟨F3, PySem.W.mg_of X G a3, F3.binds (ps := ps__law_next) fun _ _ _ _ _ _ us hl => match us, hl with | [_, _], _ => rfl⟩
  have F4 := fun_mk (st := s__law_fraction) l4 c4 k4
  have D4 : Dfn K mg "_law_fraction" s__law_fraction ps__law_fraction _ _ := ⟨F4, PySem.W.mg_of X G a4, F4.binds (ps := ps__law_fraction) fun _ _ _ _ _ _ us hl => match us, hl with | [_, _], _ => rfl⟩
  have F5 := fun_mk (st := s__law_drift) l5 c5 k5
  have D5 : Dfn K mg "_law_drift" s__law_drift ps__law_drift _ _ := ⟨F5, PySem.W.mg_of X G a5, F5.binds (ps := ps__law_drift) fun _ _ _ _ _ _ us hl => match us, hl with | [_], _ => rfl⟩
  have F6 := fun_mk (st := s__law_less_by) l6 c6 k6
  have D6 : Dfn K mg "_law_less_by" s__law_less_by ps__law_less_by _ _ := ⟨F6, PySem.W.mg_of X G a6, F6.binds (ps := ps__law_less_by) fun _ _ _ _ _ _ us hl => match us, hl with | [_, _], _ => rfl⟩
  have F7 := fun_mk (st := s__law_times) l7 c7 k7
  have D7 : Dfn K mg "_law_times" s__law_times ps__law_times _ _ := ⟨F7, PySem.W.mg_of X G a7, F7.binds (ps := ps__law_times) fun _ _ _ _ _ _ us hl => match us, hl with | [_, _], _ => rfl⟩
  have F8 := fun_mk (st := s__law_stamps) l8 c8 k8
  have D8 : Dfn K mg "_law_stamps" s__law_stamps ps__law_stamps _ _ := ⟨F8, PySem.W.mg_of X G a8, F8.binds (ps := ps__law_stamps) fun _ _ _ _ _ _ us hl => match us, hl with | [_, _, _], _ => rfl⟩
  have F9 := fun_mk (st := s__law_below) l9 c9 k9
  have D9 : Dfn K mg "_law_below" s__law_below ps__law_below _ _ := ⟨F9, PySem.W.mg_of X G a9, F9.binds (ps := ps__law_below) fun _ _ _ _ _ _ us hl => match us, hl with | [_, _], _ => rfl⟩
  have F10 := fun_mk (st := s__law_ranges) l10 c10 k10
  have D10 : Dfn K mg "_law_ranges" s__law_ranges ps__law_ranges _ _ := ⟨F10, PySem.W.mg_of X G a10, F10.binds (ps := ps__law_ranges) fun _ _ _ _ _ _ us hl => match us, hl with | [_, _, _], _ => rfl⟩
  have F11 := fun_mk (st := s__law_is_barred) l11 c11 k11
  have D11 : Dfn K mg "_law_is_barred" s__law_is_barred ps__law_is_barred _ _ := ⟨F11, PySem.W.mg_of X G a11, F11.binds (ps := ps__law_is_barred) fun _ _ _ _ _ _ us hl => match us, hl with | [_, _, _], _ => rfl⟩
  have F12 := fun_mk (st := s__law_bars) l12 c12 k12
  have D12 : Dfn K mg "_law_bars" s__law_bars ps__law_bars _ _ := ⟨F12, PySem.W.mg_of X G a12, F12.binds (ps := ps__law_bars) fun _ _ _ _ _ _ us hl => match us, hl with | [_, _], _ => rfl⟩
  have F13 := fun_mk (st := s__law_station) l13 c13 k13
  have D13 : Dfn K mg "_law_station" s__law_station ps__law_station _ _ := ⟨F13, PySem.W.mg_of X G a13, F13.binds (ps := ps__law_station) fun _ _ _ _ _ _ us hl => match us, hl with | [_, _], _ => rfl⟩
  have F14 := fun_mk (st := s__law_probe) l14 c14 k14
  have D14 : Dfn K mg "_law_probe" s__law_probe ps__law_probe _ _ := ⟨F14, PySem.W.mg_of X G a14, F14.binds (ps := ps__law_probe) fun _ _ _ _ _ _ us hl => match us, hl with | [_, _], _ => rfl⟩
  have F15 := fun_mk (st := s__law_is_up) l15 c15 k15
  have D15 : Dfn K mg "_law_is_up" s__law_is_up ps__law_is_up _ _ := ⟨F15, PySem.W.mg_of X G a15, F15.binds (ps := ps__law_is_up) fun _ _ _ _ _ _ us hl => match us, hl with | [_, _], _ => rfl⟩
  have F16 := fun_mk (st := s__law_is_hidden) l16 c16 k16
  have D16 : Dfn K mg "_law_is_hidden" s__law_is_hidden ps__law_is_hidden _ _ := ⟨F16, PySem.W.mg_of X G a16, F16.binds (ps := ps__law_is_hidden) fun _ _ _ _ _ _ us hl => match us, hl with | [_, _], _ => rfl⟩
  have F17 := fun_mk (st := s__law_arrival) l17 c17 k17
  have D17 : Dfn K mg "_law_arrival" s__law_arrival ps__law_arrival _ _ := ⟨F17, PySem.W.mg_of X G a17, F17.binds (ps := ps__law_arrival) fun _ _ _ _ _ _ us hl => match us, hl with | [_, _], _ => rfl⟩
  have F18 := fun_mk (st := s__law_tells) l18 c18 k18
  have D18 : Dfn K mg "_law_tells" s__law_tells ps__law_tells _ _ := ⟨F18, PySem.W.mg_of X G a18, F18.binds (ps := ps__law_tells) fun _ _ _ _ _ _ us hl => match us, hl with | [_, _, _], _ => rfl⟩
  have F19 := fun_mk (st := s_less) l19 c19 k19
  have D19 : Dfn K mg "less" s_less ps_less _ _ := ⟨F19, PySem.W.mg_of X G a19, F19.binds (ps := ps_less) fun _ _ _ _ _ _ us hl => match us, hl with | [_, _], _ => rfl⟩
  have F20 := fun_mk (st := s_greatest_of) l20 c20 k20
  have D20 : Dfn K mg "greatest_of" s_greatest_of ps_greatest_of _ _ := ⟨F20, PySem.W.mg_of X G a20, F20.binds (ps := ps_greatest_of) fun _ _ _ _ _ _ us hl => match us, hl with | [_], _ => rfl⟩
  have F21 := fun_mk (st := s_ratio) l21 c21 k21
  have D21 : Dfn K mg "ratio" s_ratio ps_ratio _ _ := ⟨F21, PySem.W.mg_of X G a21, F21.binds (ps := ps_ratio) fun _ _ _ _ _ _ us hl => match us, hl with | [_, _], _ => rfl⟩
  have F22 := fun_mk (st := s_add) l22 c22 k22
  have D22 : Dfn K mg "add" s_add ps_add _ _ := ⟨F22, PySem.W.mg_of X G a22, F22.binds (ps := ps_add) fun _ _ _ _ _ _ us hl => match us, hl with | [_, _], _ => rfl⟩
  have F23 := fun_mk (st := s_multiply) l23 c23 k23
  have D23 : Dfn K mg "multiply" s_multiply ps_multiply _ _ := ⟨F23, PySem.W.mg_of X G a23, F23.binds (ps := ps_multiply) fun _ _ _ _ _ _ us hl => match us, hl with | [_, _], _ => rfl⟩
  have F24 := fun_mk (st := s_grown) l24 c24 k24
  have D24 : Dfn K mg "grown" s_grown ps_grown _ _ := ⟨F24, PySem.W.mg_of X G a24, F24.binds (ps := ps_grown) fun _ _ _ _ _ _ us hl => match us, hl with | [_, _, _], _ => rfl⟩
  have F25 := fun_mk (st := s_least_by) l25 c25 k25
  have D25 : Dfn K mg "least_by" s_least_by ps_least_by _ _ := ⟨F25, PySem.W.mg_of X G a25, F25.binds (ps := ps_least_by) fun _ _ _ _ _ _ us hl => match us, hl with | [_, _, _], _ => rfl⟩
  have F26 := fun_mk (st := s_least_reading) l26 c26 k26
  have D26 : Dfn K mg "least_reading" s_least_reading ps_least_reading _ _ := ⟨F26, PySem.W.mg_of X G a26, F26.binds (ps := ps_least_reading) fun _ _ _ _ _ _ us hl => match us, hl with | [_, _, _], _ => rfl⟩
  have F27 := fun_mk (st := s_least_of) l27 c27 k27
  have D27 : Dfn K mg "least_of" s_least_of ps_least_of _ _ := ⟨F27, PySem.W.mg_of X G a27, F27.binds (ps := ps_least_of) fun _ _ _ _ _ _ us hl => match us, hl with | [_], _ => rfl⟩
  have F28 := fun_mk (st := s_greatest_by) l28 c28 k28
  have D28 : Dfn K mg "greatest_by" s_greatest_by ps_greatest_by _ _ := ⟨F28, PySem.W.mg_of X G a28, F28.binds (ps := ps_greatest_by) fun _ _ _ _ _ _ us hl => match us, hl with | [_, _, _], _ => rfl⟩
  have F29 := fun_mk (st := s_greatest_reading) l29 c29 k29
  have D29 : Dfn K mg "greatest_reading" s_greatest_reading ps_greatest_reading _ _ := ⟨F29, PySem.W.mg_of X G a29, F29.binds (ps := ps_greatest_reading) fun _ _ _ _ _ _ us hl => match us, hl with | [_, _, _], _ => rfl⟩
  have F30 := fun_mk (st := s_sure_readings) l30 c30 k30
  have D30 : Dfn K mg "sure_readings" s_sure_readings ps_sure_readings _ _ := ⟨F30, PySem.W.mg_of X G a30, F30.binds (ps := ps_sure_readings) fun _ _ _ _ _ _ us hl => match us, hl with | [_, _, _, _], _ => rfl⟩
  have F31 := fun_mk (st := s__law_same) l31 c31 k31
  have D31 : Dfn K mg "_law_same" s__law_same ps__law_same _ _ := ⟨F31, PySem.W.mg_of X G a31, F31.binds (ps := ps__law_same) fun _ _ _ _ _ _ us hl => match us, hl with | [_, _], _ => rfl⟩
  have F32 := fun_mk (st := s_subtract) l32 c32 k32
  have D32 : Dfn K mg "subtract" s_subtract ps_subtract _ _ := ⟨F32, PySem.W.mg_of X G a32, F32.binds (ps := ps_subtract) fun _ _ _ _ _ _ us hl => match us, hl with | [_, _], _ => rfl⟩
  have F33 := fun_mk (st := s_floor_of) l33 c33 k33
  have D33 : Dfn K mg "floor_of" s_floor_of ps_floor_of _ _ := ⟨F33, PySem.W.mg_of X G a33, F33.binds (ps := ps_floor_of) fun _ _ _ _ _ _ us hl => match us, hl with | [_], _ => rfl⟩
  have F34 := fun_mk (st := s_divide) l34 c34 k34
  have D34 : Dfn K mg "divide" s_divide ps_divide _ _ := ⟨F34, PySem.W.mg_of X G a34, F34.binds (ps := ps_divide) fun _ _ _ _ _ _ us hl => match us, hl with | [_, _], _ => rfl⟩
  have F35 := fun_mk (st := s_last_with) l35 c35 k35
  have D35 : Dfn K mg "last_with" s_last_with ps_last_with _ _ := ⟨F35, PySem.W.mg_of X G a35, F35.binds (ps := ps_last_with) fun _ _ _ _ _ _ us hl => match us, hl with | [_, _, _], _ => rfl⟩
  have F36 := fun_mk (st := s_ceiling_of) l36 c36 k36
  have D36 : Dfn K mg "ceiling_of" s_ceiling_of ps_ceiling_of _ _ := ⟨F36, PySem.W.mg_of X G a36, F36.binds (ps := ps_ceiling_of) fun _ _ _ _ _ _ us hl => match us, hl with | [_], _ => rfl⟩
  have F37 := fun_mk (st := s_first_with) l37 c37 k37
  have D37 : Dfn K mg "first_with" s_first_with ps_first_with _ _ := ⟨F37, PySem.W.mg_of X G a37, F37.binds (ps := ps_first_with) fun _ _ _ _ _ _ us hl => match us, hl with | [_, _, _], _ => rfl⟩
  have F38 := fun_mk (st := s_times_of) l38 c38 k38
  have D38 : Dfn K mg "times_of" s_times_of ps_times_of _ _ := ⟨F38, PySem.W.mg_of X G a38, F38.binds (ps := ps_times_of) fun _ _ _ _ _ _ us hl => match us, hl with | [_, _, _], _ => rfl⟩
  have F39 := fun_mk (st := s_flag_at) l39 c39 k39
  have D39 : Dfn K mg "flag_at" s_flag_at ps_flag_at _ _ := ⟨F39, PySem.W.mg_of X G a39, F39.binds (ps := ps_flag_at) fun _ _ _ _ _ _ us hl => match us, hl with | [_, _], _ => rfl⟩
  have F40 := fun_mk (st := s_spans) l40 c40 k40
  have D40 : Dfn K mg "spans" s_spans ps_spans _ _ := ⟨F40, PySem.W.mg_of X G a40, F40.binds (ps := ps_spans) fun _ _ _ _ _ _ us hl => match us, hl with | [_, _, _], _ => rfl⟩
  have F41 := fun_mk (st := s_readings) l41 c41 k41
  have D41 : Dfn K mg "readings" s_readings ps_readings _ _ := ⟨F41, PySem.W.mg_of X G a41, F41.binds (ps := ps_readings) fun _ _ _ _ _ _ us hl => match us, hl with | [_, _, _], _ => rfl⟩
  have F42 := fun_mk (st := s_least_turn) l42 c42 k42
  have D42 : Dfn K mg "least_turn" s_least_turn ps_least_turn _ _ := ⟨F42, PySem.W.mg_of X G a42, F42.binds (ps := ps_least_turn) fun _ _ _ _ _ _ us hl => match us, hl with | [_], _ => rfl⟩
  have F43 := fun_mk (st := s_calendar_of) l43 c43 k43
  have D43 : Dfn K mg "calendar_of" s_calendar_of ps_calendar_of _ _ := ⟨F43, PySem.W.mg_of X G a43, F43.binds (ps := ps_calendar_of) fun _ _ _ _ _ _ us hl => match us, hl with | [_, _], _ => rfl⟩
  have F44 := fun_mk (st := s_round_times) l44 c44 k44
  have D44 : Dfn K mg "round_times" s_round_times ps_round_times _ _ := ⟨F44, PySem.W.mg_of X G a44, F44.binds (ps := ps_round_times) fun _ _ _ _ _ _ us hl => match us, hl with | [_, _, _], _ => rfl⟩
  have F45 := fun_mk (st := s_up_times) l45 c45 k45
  have D45 : Dfn K mg "up_times" s_up_times ps_up_times _ _ := ⟨F45, PySem.W.mg_of X G a45, F45.binds (ps := ps_up_times) fun _ _ _ _ _ _ us hl => match us, hl with | [_], _ => rfl⟩
  have F46 := fun_mk (st := s_hidden_times) l46 c46 k46
  have D46 : Dfn K mg "hidden_times" s_hidden_times ps_hidden_times _ _ := ⟨F46, PySem.W.mg_of X G a46, F46.binds (ps := ps_hidden_times) fun _ _ _ _ _ _ us hl => match us, hl with | [_], _ => rfl⟩
  have F47 := fun_mk (st := s_sight_turn) l47 c47 k47
  have D47 : Dfn K mg "sight_turn" s_sight_turn ps_sight_turn _ _ := ⟨F47, PySem.W.mg_of X G a47, F47.binds (ps := ps_sight_turn) fun _ _ _ _ _ _ us hl => match us, hl with | [_, _], _ => rfl⟩
  have F48 := fun_mk (st := s_holds) l48 c48 k48
  have D48 : Dfn K mg "holds" s_holds ps_holds _ _ := ⟨F48, PySem.W.mg_of X G a48, F48.binds (ps := ps_holds) fun _ _ _ _ _ _ us hl => match us, hl with | [_, _], _ => rfl⟩
  have F49 := fun_mk (st := s_arrival) l49 c49 k49
  have D49 : Dfn K mg "arrival" s_arrival ps_arrival _ _ := ⟨F49, PySem.W.mg_of X G a49, F49.binds (ps := ps_arrival) fun _ _ _ _ _ _ us hl => match us, hl with | [_, _], _ => rfl⟩
  have F50 := fun_mk (st := s_tells) l50 c50 k50
  have D50 : Dfn K mg "tells" s_tells ps_tells _ _ := ⟨F50, PySem.W.mg_of X G a50, F50.binds (ps := ps_tells) fun _ _ _ _ _ _ us hl => match us, hl with | [_, _], _ => rfl⟩
  have F51 := fun_mk (st := s_law) l51 c51 k51
  have D51 : Dfn K mg "law" s_law ps_law _ _ := ⟨F51, PySem.W.mg_of X G a51, F51.binds (ps := ps_law) fun _ _ _ _ _ _ us hl => match us, hl with | [_], _ => rfl⟩
  exact ⟨_, fun s v => .of_eq rfl, fun base _ _ => (law_cal (base := base) D0 D1 D2 D3 D4 D5 D6 D7 D8 D9 D10 D11 D12 D13 D14 D15 D16 D17 D18 D19 D20 D21 D22 D23 D24 D25 D26 D27 D28 D29 D30 D31 D32 D33 D34 D35 D36 D37 D38 D39 D40 D41 D42 D43 D44 D45 D46 D47 D48 D49 D50 D51 (PySem.W.mg_none_of X G z0) (PySem.W.mg_none_of X G z1) (PySem.W.mg_none_of X G z2) (PySem.W.mg_none_of X G z3) (PySem.W.mg_none_of X G z4) (PySem.W.mg_none_of X G z5) (PySem.W.mg_none_of X G z6) (PySem.W.mg_none_of X G z7) (PySem.W.mg_none_of X G z8) (PySem.W.mg_none_of X G z9) (PySem.W.mg_none_of X G z10) (PySem.W.mg_none_of X G z11) (PySem.W.mg_of X G i0) (PySem.W.mg_of X G i1)).ok⟩
end K97

namespace K97
open PySem PySem.Spec PyProof.Rows L2 TL
/-! ### fractions -/
def qD (q : Rat) : D := .tup [.int q.num, .int (q.den : Int)]
theorem mk_num (n : Int) (d : Nat) (h : d ≠ 0) : (mkRat n d).num = n / ((n.natAbs.gcd d : Nat) : Int) ∧ (mkRat n d).den = d / n.natAbs.gcd d := by
  rw [← Rat.normalize_eq_mkRat h, Rat.normalize_eq h]
  exact ⟨rfl, rfl⟩
def SmQ (q : Rat) : Prop := sm q.num = true ∧ sm (q.den : Int) = true
theorem den_pos (q : Rat) : 0 < q.den := Nat.pos_of_ne_zero q.den_nz
theorem q_mk (n : Int) (d : Nat) (h : d ≠ 0) : qD (mkRat n d) = .tup [.int (n / ((n.natAbs.gcd d : Nat) : Int)), .int ((d : Int) / ((n.natAbs.gcd d : Nat) : Int))] := by
  obtain ⟨h1, h2⟩ := mk_num n d h
  unfold qD
  rw [h1, h2, Int.natCast_ediv]
theorem ratio_ok (n : Int) (d : Nat) (h : 0 < d) (hs : (d : Int) ≤ 1000000000000) : F_ratio [.int n, .int (d : Int)] = some (qD (mkRat n d), [.int n, .int (d : Int)]) := by
  unfold F_ratio b_ratio
  rw [v_run2]
  have g0 : 0 < n.natAbs.gcd d := Nat.gcd_pos_of_pos_right _ h
  have g1 : n.natAbs.gcd d ≤ d := Nat.gcd_le_right _ h
  have eg : gcdD (.int n) (.int (d : Int)) = some (.int ((n.natAbs.gcd d : Nat) : Int)) := by simp [gcdD]
  have hd : ¬ ((d : Int) < 0) := by omega
  have hg : (0 : Int) < ((n.natAbs.gcd d : Nat) : Int) := by omega
  have hsg := sm_of (i := ((n.natAbs.gcd d : Nat) : Int)) (by omega) (by omega)
  rw [q_mk n d (by omega)]
  generalize ((n.natAbs.gcd d : Nat) : Int) = g at *
  simp [f2, eg, hd, hg, hsg, okLen_of (n := 2) (by omega)]
theorem add_q (a b : Rat) : mkRat (a.num * (b.den : Int) + b.num * (a.den : Int)) (a.den * b.den) = a + b := (Rat.add_def' a b).symm
theorem sub_q (a b : Rat) : mkRat (a.num * (b.den : Int) - b.num * (a.den : Int)) (a.den * b.den) = a - b := (Rat.sub_def' a b).symm
theorem mul_q (a b : Rat) : mkRat (a.num * b.num) (a.den * b.den) = a * b := (Rat.mul_def' a b).symm
theorem div_q (a b : Rat) (h : 0 < b.num) : mkRat (a.num * (b.den : Int)) (a.den * b.num.toNat) = a / b := by
  have e : ((b.num.toNat : Nat) : Int) = b.num := by omega
  rw [← Rat.divInt_ofNat, Int.natCast_mul, e, Rat.div_def]
  have h1 : b⁻¹ = Rat.divInt b.den b.num := by
    have := Rat.inv_divInt b.num b.den
    rw [Rat.num_divInt_den] at this
    exact this
  have h2 := Rat.divInt_mul_divInt a.num (b.den : Int) (d₁ := a.den) (d₂ := b.num)
  rw [h1, ← h2, Rat.num_divInt_den]
theorem ix0 (q : Rat) : dIx (qD q) (.int 0) = some (.int q.num) := by simp [qD]
theorem ix1 (q : Rat) : dIx (qD q) (.int 1) = some (.int (q.den : Int)) := by simp [qD]
/-- k / 60, k not above n -/
def B (n : Nat) (q : Rat) : Prop := ∃ z : Int, q * 60 = z ∧ -(n : Int) ≤ z ∧ z ≤ n
theorem B.num {n : Nat} {q : Rat} (h : B n q) : -(n : Int) ≤ q.num ∧ q.num ≤ n ∧ (q.den : Int) ≤ 60 := by
  obtain ⟨z, e, h1, h2⟩ := h
  have e2 : q = mkRat z 60 := by
    have : (60 : Rat) ≠ 0 := by decide
    have h3 : q = (z : Rat) / 60 := by rw [← e, Rat.div_def, Rat.mul_assoc, Rat.mul_inv_cancel _ this, Rat.mul_one]
    rw [h3, ← Rat.divInt_ofNat, Rat.divInt_eq_div]; rfl
  obtain ⟨a1, a2⟩ := mk_num z 60 (by decide)
  rw [← e2] at a1 a2
  have g0 : 0 < z.natAbs.gcd 60 := Nat.gcd_pos_of_pos_right _ (by decide)
  refine ⟨?_, ?_, ?_⟩
  · rw [a1]
    by_cases hz : 0 ≤ z
    · have := Int.ediv_nonneg hz (show (0 : Int) ≤ ((z.natAbs.gcd 60 : Nat) : Int) by omega); omega
    · have h3 : z ≤ z / ((z.natAbs.gcd 60 : Nat) : Int) := by
        rw [Int.le_ediv_iff_mul_le (by omega)]
        have : z * ((z.natAbs.gcd 60 : Nat) : Int) ≤ z * 1 := Int.mul_le_mul_of_nonpos_left (by omega) (by omega)
        omega
      omega
  · rw [a1]
    by_cases hz : 0 ≤ z
    · have := Int.ediv_le_self ((z.natAbs.gcd 60 : Nat) : Int) hz; omega
    · have : z / ((z.natAbs.gcd 60 : Nat) : Int) < 0 := Int.ediv_neg_of_neg_of_pos (by omega) (by omega)
      omega
  · rw [a2]
    have := Nat.div_le_self 60 (z.natAbs.gcd 60)
    omega
theorem B.mono {n m : Nat} {q : Rat} (h : B n q) (hm : n ≤ m) : B m q := by
  obtain ⟨z, e, h1, h2⟩ := h
  exact ⟨z, e, by omega, by omega⟩
theorem B.add {n m : Nat} {a b : Rat} (h : B n a) (k : B m b) : B (n + m) (a + b) := by
  obtain ⟨z, e, h1, h2⟩ := h
  obtain ⟨y, f, k1, k2⟩ := k
  exact ⟨z + y, by rw [Rat.add_mul, e, f, Rat.intCast_add], by omega, by omega⟩
theorem B.sub {n m : Nat} {a b : Rat} (h : B n a) (k : B m b) : B (n + m) (a - b) := by
  obtain ⟨z, e, h1, h2⟩ := h
  obtain ⟨y, f, k1, k2⟩ := k
  exact ⟨z - y, by rw [Rat.sub_eq_add_neg, Rat.add_mul, e, Rat.neg_mul, f, Rat.intCast_sub, Rat.sub_eq_add_neg], by omega, by omega⟩
theorem B.mulInt {n : Nat} {a : Rat} (h : B n a) (t : Int) (k : Nat) (h1 : -(k : Int) ≤ t) (h2 : t ≤ k) : B (n * k) (a * (t : Rat)) := by
  obtain ⟨z, e, z1, z2⟩ := h
  refine ⟨z * t, ?_, ?_, ?_⟩
  · rw [Rat.mul_assoc, Rat.mul_comm (t : Rat) 60, ← Rat.mul_assoc, e, Rat.intCast_mul]
  · rw [Int.natCast_mul]
    rcases Int.le_total 0 z with hz | hz <;> rcases Int.le_total 0 t with ht | ht
    · have := Int.mul_nonneg hz ht
      have := Int.mul_nonneg (show (0 : Int) ≤ n by omega) (show (0 : Int) ≤ k by omega); omega
    · have := Int.mul_le_mul z2 (show -t ≤ k by omega) (by omega) (by omega)
      have : z * -t = -(z * t) := by rw [Int.mul_neg]
      omega
    · have := Int.mul_le_mul (show -z ≤ n by omega) h2 ht (by omega)
      have : -z * t = -(z * t) := by rw [Int.neg_mul]
      omega
    · have := Int.mul_nonneg_of_nonpos_of_nonpos hz ht
      have := Int.mul_nonneg (show (0 : Int) ≤ n by omega) (show (0 : Int) ≤ k by omega); omega
  · rw [Int.natCast_mul]
    rcases Int.le_total 0 z with hz | hz <;> rcases Int.le_total 0 t with ht | ht
    · exact Int.mul_le_mul z2 h2 ht (by omega)
    · have := Int.mul_nonpos_of_nonneg_of_nonpos hz ht
      have := Int.mul_nonneg (show (0 : Int) ≤ n by omega) (show (0 : Int) ≤ k by omega); omega
    · have := Int.mul_nonpos_of_nonpos_of_nonneg hz ht
      have := Int.mul_nonneg (show (0 : Int) ≤ n by omega) (show (0 : Int) ≤ k by omega); omega
    · have := Int.mul_le_mul (show -z ≤ n by omega) (show -t ≤ k by omega) (by omega) (by omega)
      have : -z * -t = z * t := Int.neg_mul_neg z t
      omega
/-- small enough for a product -/
def Q9 (q : Rat) : Prop := ∃ n, n ≤ 1000000000 ∧ B n q
theorem Q9.sm {q : Rat} (h : Q9 q) : sm q.num = true ∧ sm (q.den : Int) = true := by
  obtain ⟨n, hn, hb⟩ := h
  obtain ⟨h1, h2, h3⟩ := hb.num
  exact ⟨sm_of (by omega) (by omega), sm_of (by omega) (by omega)⟩
theorem Q9.den {q : Rat} (h : Q9 q) : (q.den : Int) ≤ 60 := by
  obtain ⟨n, hn, hb⟩ := h
  exact hb.num.2.2
theorem Q9.num {q : Rat} (h : Q9 q) : q.num ≤ 1000000000 := by
  obtain ⟨n, hn, hb⟩ := h
  have := hb.num.2.1
  omega
end K97

namespace K97
open PySem PySem.Spec PyProof.Rows L2 TL
theorem dens (a b : Rat) (ha : Q9 a) (hb : Q9 b) : ((a.den * b.den : Nat) : Int) ≤ 1000000000000 := by
  have h1 := ha.den
  have h2 := hb.den
  have : a.den * b.den ≤ 60 * 60 := Nat.mul_le_mul (by omega) (by omega)
  omega
theorem add_ok (a b : Rat) (ha : Q9 a) (hb : Q9 b) : F_add [qD a, qD b] = some (qD (a + b), [qD a, qD b]) := by
  unfold F_add b_add
  rw [v_run2]
  obtain ⟨a1, a2⟩ := ha.sm
  obtain ⟨b1, b2⟩ := hb.sm
  have e := ratio_ok (a.num * (b.den : Int) + b.num * (a.den : Int)) (a.den * b.den) (Nat.mul_pos (den_pos a) (den_pos b)) (dens a b ha hb)
  rw [add_q, Int.natCast_mul] at e
  have i0 := ix0 a; have i1 := ix1 a; have j0 := ix0 b; have j1 := ix1 b
  generalize qD (a + b) = R at *
  generalize qD a = A at *
  generalize qD b = C at *
  simp [i0, i1, j0, j1, a1, a2, b1, b2, e]
theorem sub_ok (a b : Rat) (ha : Q9 a) (hb : Q9 b) : F_subtract [qD a, qD b] = some (qD (a - b), [qD a, qD b]) := by
  unfold F_subtract b_subtract
  rw [v_run2]
  obtain ⟨a1, a2⟩ := ha.sm
  obtain ⟨b1, b2⟩ := hb.sm
  have e := ratio_ok (a.num * (b.den : Int) - b.num * (a.den : Int)) (a.den * b.den) (Nat.mul_pos (den_pos a) (den_pos b)) (dens a b ha hb)
  rw [sub_q, Int.natCast_mul] at e
  have i0 := ix0 a; have i1 := ix1 a; have j0 := ix0 b; have j1 := ix1 b
  generalize qD (a - b) = R at *
  generalize qD a = A at *
  generalize qD b = C at *
  simp [i0, i1, j0, j1, a1, a2, b1, b2, e]
theorem mul_ok (a b : Rat) (ha : Q9 a) (hb : Q9 b) : F_multiply [qD a, qD b] = some (qD (a * b), [qD a, qD b]) := by
  unfold F_multiply b_multiply
  rw [v_run2]
  obtain ⟨a1, a2⟩ := ha.sm
  obtain ⟨b1, b2⟩ := hb.sm
  have e := ratio_ok (a.num * b.num) (a.den * b.den) (Nat.mul_pos (den_pos a) (den_pos b)) (dens a b ha hb)
  rw [mul_q, Int.natCast_mul] at e
  have i0 := ix0 a; have i1 := ix1 a; have j0 := ix0 b; have j1 := ix1 b
  generalize qD (a * b) = R at *
  generalize qD a = A at *
  generalize qD b = C at *
  simp [i0, i1, j0, j1, a1, a2, b1, b2, e]
theorem num_pos {b : Rat} (h : 0 < b) : 0 < b.num := by
  have := (Rat.lt_iff 0 b).mp h
  simpa using this
theorem div_ok (a b : Rat) (ha : Q9 a) (hb : Q9 b) (h : 0 < b) : F_divide [qD a, qD b] = some (qD (a / b), [qD a, qD b]) := by
  unfold F_divide b_divide
  rw [v_run2]
  obtain ⟨a1, a2⟩ := ha.sm
  obtain ⟨b1, b2⟩ := hb.sm
  have hn := num_pos h
  have hd := ha.den
  have hm := hb.num
  have hlt : a.den * b.num.toNat ≤ 60 * 1000000000 := Nat.mul_le_mul (by omega) (by omega)
  have e := ratio_ok (a.num * (b.den : Int)) (a.den * b.num.toNat) (Nat.mul_pos (den_pos a) (by omega)) (by omega)
  rw [div_q a b hn, Int.natCast_mul, show ((b.num.toNat : Nat) : Int) = b.num by omega] at e
  have i0 := ix0 a; have i1 := ix1 a; have j0 := ix0 b; have j1 := ix1 b
  generalize qD (a / b) = R at *
  generalize qD a = A at *
  generalize qD b = C at *
  simp [i0, i1, j0, j1, a1, a2, b1, b2, e]
theorem lt_q (a b : Rat) : decide (a.num * (b.den : Int) < b.num * (a.den : Int)) = decide (a < b) := by
  congr 1
  exact propext (Rat.lt_iff a b).symm
theorem less_ok (a b : Rat) (ha : Q9 a) (hb : Q9 b) : F_less [qD a, qD b] = some (.bl (decide (a < b)), [qD a, qD b]) := by
  unfold F_less b_less
  rw [v_run2, ← lt_q]
  obtain ⟨a1, a2⟩ := ha.sm
  obtain ⟨b1, b2⟩ := hb.sm
  have i0 := ix0 a; have i1 := ix1 a; have j0 := ix0 b; have j1 := ix1 b
  generalize qD a = A at *
  generalize qD b = C at *
  simp [i0, i1, j0, j1, a1, a2, b1, b2]
theorem below_ok (a b : Rat) (ha : Q9 a) (hb : Q9 b) : F__law_below [qD a, qD b] = some (.bl (decide (a < b)), [qD a, qD b]) := less_ok a b ha hb
def fl (q : Rat) : Int := q.num / (q.den : Int)
def ce (q : Rat) : Int := -(-q.num / (q.den : Int))
theorem floor_ok (q : Rat) (h : sm (q.den : Int) = true) : F_floor_of [qD q] = some (.int (fl q), [qD q]) := by
  unfold F_floor_of b_floor_of
  rw [v_run1]
  have i0 := ix0 q; have i1 := ix1 q
  have := den_pos q
  unfold fl
  generalize qD q = A at *
  simp [i0, i1, h, this]
theorem ceil_ok (q : Rat) (h : sm (q.den : Int) = true) : F_ceiling_of [qD q] = some (.int (ce q), [qD q]) := by
  unfold F_ceiling_of b_ceiling_of
  rw [v_run1]
  have i0 := ix0 q; have i1 := ix1 q
  have := den_pos q
  unfold ce
  generalize qD q = A at *
  simp [i0, i1, h, this]
theorem ce_gt (q : Rat) (t : Int) (h : (t : Rat) < q) : t < ce q := by
  have h1 : t * (q.den : Int) < q.num := by
    have := (Rat.lt_iff (t : Rat) q).mp h
    simpa using this
  unfold ce
  have : -q.num / (q.den : Int) < -t := by
    refine Int.ediv_lt_of_lt_mul (by have := den_pos q; omega) ?_
    rw [Int.neg_mul]; omega
  omega
/-! ### fractions by the law -/
theorem eu_step (n a b : Nat) (x y : D) (h0 : 0 < b) (hb : (b : Int) ≤ 1000000000000) :
    loopW (tBl (eBin dGt (eVar 3) (eC (.int 0)))) q1__law_low [] (n + 1) [x, y, .int (a : Int), .int (b : Int)] = loopW (tBl (eBin dGt (eVar 3) (eC (.int 0)))) q1__law_low [] n [x, y, .int (b : Int), .int ((a % b : Nat) : Int)] := by
  have h1 : (0 : Int) < b := by omega
  have hs := sm_of (i := (b : Int)) (by omega) (by omega)
  refine loopW_go (ρ1 := [x, y, .int (a : Int), .int (b : Int)]) (by simp [h1, h0]) ?_
  simp [q1__law_low, h1, h0, hs, kill]
theorem eu_loop (x y : D) (k : Nat) : ∀ (n a b : Nat), b < 2 ^ k → 2 * k + 1 ≤ n → (b : Int) ≤ 1000000000000 →
    loopW (tBl (eBin dGt (eVar 3) (eC (.int 0)))) q1__law_low [] n [x, y, .int (a : Int), .int (b : Int)] = some (.nx [x, y, .int ((a.gcd b : Nat) : Int), .int 0]) := by
  have fin : ∀ (m a : Nat), loopW (tBl (eBin dGt (eVar 3) (eC (.int 0)))) q1__law_low [] (m + 1) [x, y, .int (a : Int), .int ((0 : Nat) : Int)] = some (.nx [x, y, .int (a : Int), .int 0]) := fun m a =>
    loopW_end (ρ1 := [x, y, .int (a : Int), .int 0]) (by simp)
  induction k with
  | zero =>
    intro n a b h hn hb
    have h0 : b = 0 := by simp at h; exact h
    obtain ⟨m, rfl⟩ : ∃ m, n = m + 1 := ⟨n - 1, by omega⟩
    rw [h0, fin, Nat.gcd_zero_right]
  | succ k ih =>
    intro n a b h hn hb
    obtain ⟨m, rfl⟩ : ∃ m, n = m + 1 + 1 := ⟨n - 2, by omega⟩
    by_cases hb0 : b = 0
    · rw [hb0, fin, Nat.gcd_zero_right]
    have hlt := Nat.mod_lt a (show b > 0 by omega)
    rw [eu_step _ _ _ _ _ (by omega) hb]
    by_cases h0 : a % b = 0
    · rw [h0, fin, Nat.gcd_comm a, Nat.gcd_rec, h0, Nat.gcd_zero_left]
    · have hlt2 := Nat.mod_lt b (show a % b > 0 by omega)
      have hhalf : b % (a % b) < 2 ^ k := by
        have h3 := Nat.div_add_mod b (a % b)
        have h4 : 1 ≤ b / (a % b) := Nat.div_pos (by omega) (by omega)
        have h5 : a % b * 1 ≤ a % b * (b / (a % b)) := Nat.mul_le_mul_left _ h4
        rw [Nat.pow_succ] at h
        generalize a % b * (b / (a % b)) = z at *
        generalize b % (a % b) = r at *
        generalize 2 ^ k = p at *
        omega
      rw [eu_step _ _ _ _ _ (by omega) (by omega), ih m (a % b) (b % (a % b)) hhalf (by omega) (by omega)]
      rw [Nat.gcd_comm (a % b), ← Nat.gcd_rec, ← Nat.gcd_rec, Nat.gcd_comm]
theorem low_ok (n : Int) (d : Nat) (h : 0 < d) (hs : d < 1000000) : F__law_low [.int n, .int (d : Int)] = some (qD (mkRat n d), [.int n, .int (d : Int)]) := by
  unfold F__law_low b__law_low
  rw [v_run2]
  have g0 : 0 < n.natAbs.gcd d := Nat.gcd_pos_of_pos_right _ h
  have g1 : n.natAbs.gcd d ≤ d := Nat.gcd_le_right _ h
  have hd : ¬ ((d : Int) < 0) := by omega
  have hab : absD (.int n) = some (.int ((n.natAbs : Nat) : Int)) := by
    simp [absD]; split <;> omega
  have key := eu_loop (.int n) (.int (d : Int)) 20 nT n.natAbs d (by omega) (by decide) (by omega)
  have hg : (0 : Int) < ((n.natAbs.gcd d : Nat) : Int) := by omega
  have hsg := sm_of (i := ((n.natAbs.gcd d : Nat) : Int)) (by omega) (by omega)
  rw [q_mk n d (by omega)]
  generalize ((n.natAbs.gcd d : Nat) : Int) = g at *
  generalize ((n.natAbs : Nat) : Int) = na at *
  simp [hab, -d_abs, hd, hg, hsg, sWhile_eq, kill, key, okLen_of (n := 2) (by omega)]
theorem densN (a b : Rat) (ha : Q9 a) (hb : Q9 b) : a.den * b.den < 1000000 := by
  have h1 := ha.den
  have h2 := hb.den
  have : a.den * b.den ≤ 60 * 60 := Nat.mul_le_mul (by omega) (by omega)
  omega
theorem ladd_ok (a b : Rat) (ha : Q9 a) (hb : Q9 b) : F__law_add [qD a, qD b] = some (qD (a + b), [qD a, qD b]) := by
  unfold F__law_add b__law_add
  rw [v_run2]
  obtain ⟨a1, a2⟩ := ha.sm
  obtain ⟨b1, b2⟩ := hb.sm
  have e := low_ok (a.num * (b.den : Int) + b.num * (a.den : Int)) (a.den * b.den) (Nat.mul_pos (den_pos a) (den_pos b)) (densN a b ha hb)
  rw [add_q, Int.natCast_mul] at e
  have i0 := ix0 a; have i1 := ix1 a; have j0 := ix0 b; have j1 := ix1 b
  generalize qD (a + b) = R at *
  generalize qD a = A at *
  generalize qD b = C at *
  simp [i0, i1, j0, j1, a1, a2, b1, b2, e]
theorem lsub_ok (a b : Rat) (ha : Q9 a) (hb : Q9 b) : F__law_less_by [qD a, qD b] = some (qD (a - b), [qD a, qD b]) := by
  unfold F__law_less_by b__law_less_by
  rw [v_run2]
  obtain ⟨a1, a2⟩ := ha.sm
  obtain ⟨b1, b2⟩ := hb.sm
  have e := low_ok (a.num * (b.den : Int) - b.num * (a.den : Int)) (a.den * b.den) (Nat.mul_pos (den_pos a) (den_pos b)) (densN a b ha hb)
  rw [sub_q, Int.natCast_mul] at e
  have i0 := ix0 a; have i1 := ix1 a; have j0 := ix0 b; have j1 := ix1 b
  generalize qD (a - b) = R at *
  generalize qD a = A at *
  generalize qD b = C at *
  simp [i0, i1, j0, j1, a1, a2, b1, b2, e]
theorem lmul_ok (a b : Rat) (ha : Q9 a) (hb : Q9 b) : F__law_times [qD a, qD b] = some (qD (a * b), [qD a, qD b]) := by
  unfold F__law_times b__law_times
  rw [v_run2]
  obtain ⟨a1, a2⟩ := ha.sm
  obtain ⟨b1, b2⟩ := hb.sm
  have e := low_ok (a.num * b.num) (a.den * b.den) (Nat.mul_pos (den_pos a) (den_pos b)) (densN a b ha hb)
  rw [mul_q, Int.natCast_mul] at e
  have i0 := ix0 a; have i1 := ix1 a; have j0 := ix0 b; have j1 := ix1 b
  generalize qD (a * b) = R at *
  generalize qD a = A at *
  generalize qD b = C at *
  simp [i0, i1, j0, j1, a1, a2, b1, b2, e]
theorem q_int (t : Int) : (.tup [.int t, .int 1] : D) = qD (t : Rat) := rfl
end K97

namespace K97
open PySem PySem.Spec PyProof.Rows L2 TL
structure Sp where
  t : Int
  lo : Rat
  hi : Rat
  deriving Inhabited
def stD (s : Sp) : D := .tup [.int s.t, qD s.lo, qD s.hi]
def stsD (l : List Sp) : D := .tup (l.map stD)
def dfD (a b : Rat) : D := .tup [qD a, qD b]
structure OkSp (s : Sp) : Prop where
  t0 : 0 ≤ s.t
  t1 : s.t ≤ 60
  lo : B 100000 s.lo
  hi : B 100000 s.hi
structure OkDf (a b : Rat) : Prop where
  pos : 0 < a
  le : a ≤ b
  a : B 1000 a
  b : B 1000 b
theorem Bq {n : Nat} {q : Rat} (h : B n q) (hn : n ≤ 1000000000) : Q9 q := ⟨n, hn, h⟩
theorem B_int (t : Int) (k : Nat) (h1 : -(k : Int) ≤ t) (h2 : t ≤ k) : B (60 * k) (t : Rat) := by
  refine ⟨t * 60, by rw [Rat.intCast_mul]; rfl, by rw [Int.natCast_mul]; simp; omega, by rw [Int.natCast_mul]; simp; omega⟩
theorem grown_ok (r d : Rat) (t : Int) (hr : B 200000 r) (hd : B 1000 d) (h1 : -1000 ≤ t) (h2 : t ≤ 1000) : F_grown [qD r, qD d, .int t] = some (qD (r + d * (t : Rat)), [qD r, qD d, .int t]) := by
  unfold F_grown b_grown
  rw [v_run3]
  have e1 := mul_ok d (t : Rat) (Bq hd (by omega)) (Bq (B_int t 1000 h1 h2) (by omega))
  have e2 := add_ok r (d * (t : Rat)) (Bq hr (by omega)) (Bq (hd.mulInt t 1000 h1 h2) (by omega))
  rw [← q_int] at e1
  generalize qD (r + d * (t : Rat)) = R at *
  generalize qD (d * (t : Rat)) = R2 at *
  generalize qD r = A at *
  generalize qD d = C at *
  simp [e1, e2, okLen_of (n := 2) (by omega)]
def lowBy (a b : Rat) (s : Sp) (t : Int) : Rat := s.lo + (if 0 ≤ t - s.t then a else b) * ((t - s.t : Int) : Rat)
def higBy (a b : Rat) (s : Sp) (t : Int) : Rat := s.hi + (if 0 ≤ t - s.t then b else a) * ((t - s.t : Int) : Rat)
theorem lowBy_B {a b : Rat} (hd : OkDf a b) {s : Sp} (hs : OkSp s) (t : Int) (h1 : -100 ≤ t) (h2 : t ≤ 100) : B 1100000 (lowBy a b s t) := by
  have := hs.t0; have := hs.t1
  unfold lowBy
  refine (hs.lo.add (m := 1000 * 1000) ?_).mono (by omega)
  split
  · exact hd.a.mulInt _ 1000 (by omega) (by omega)
  · exact hd.b.mulInt _ 1000 (by omega) (by omega)
theorem higBy_B {a b : Rat} (hd : OkDf a b) {s : Sp} (hs : OkSp s) (t : Int) (h1 : -100 ≤ t) (h2 : t ≤ 100) : B 1100000 (higBy a b s t) := by
  have := hs.t0; have := hs.t1
  unfold higBy
  refine (hs.hi.add (m := 1000 * 1000) ?_).mono (by omega)
  split
  · exact hd.b.mulInt _ 1000 (by omega) (by omega)
  · exact hd.a.mulInt _ 1000 (by omega) (by omega)
theorem lby_ok {a b : Rat} (hd : OkDf a b) {s : Sp} (hs : OkSp s) (t : Int) (h1 : -100 ≤ t) (h2 : t ≤ 100) : ∃ r, F_least_by [dfD a b, stD s, .int t] = some (qD (lowBy a b s t), r) := by
  have := hs.t0; have := hs.t1
  unfold F_least_by b_least_by
  rw [v_run3]
  refine exo ?_
  have e1 := grown_ok s.lo a (t - s.t) (hs.lo.mono (by omega)) hd.a (by omega) (by omega)
  have e2 := grown_ok s.lo b (t - s.t) (hs.lo.mono (by omega)) hd.b (by omega) (by omega)
  unfold lowBy dfD stD
  by_cases h : 0 ≤ t - s.t
  · rw [if_pos h]
    generalize qD (s.lo + a * ((t - s.t : Int) : Rat)) = R at *
    generalize qD s.lo = L at *
    generalize qD s.hi = L2 at *
    generalize qD a = A at *
    generalize qD b = C at *
    generalize hT : t - s.t = T at *
    simp [hT, h, e1]
  · rw [if_neg h]
    generalize qD (s.lo + b * ((t - s.t : Int) : Rat)) = R at *
    generalize qD s.lo = L at *
    generalize qD s.hi = L2 at *
    generalize qD a = A at *
    generalize qD b = C at *
    generalize hT : t - s.t = T at *
    simp [hT, h, e2]
theorem hby_ok {a b : Rat} (hd : OkDf a b) {s : Sp} (hs : OkSp s) (t : Int) (h1 : -100 ≤ t) (h2 : t ≤ 100) : ∃ r, F_greatest_by [dfD a b, stD s, .int t] = some (qD (higBy a b s t), r) := by
  have := hs.t0; have := hs.t1
  unfold F_greatest_by b_greatest_by
  rw [v_run3]
  refine exo ?_
  have e1 := grown_ok s.hi b (t - s.t) (hs.hi.mono (by omega)) hd.b (by omega) (by omega)
  have e2 := grown_ok s.hi a (t - s.t) (hs.hi.mono (by omega)) hd.a (by omega) (by omega)
  unfold higBy dfD stD
  by_cases h : 0 ≤ t - s.t
  · rw [if_pos h]
    generalize qD (s.hi + b * ((t - s.t : Int) : Rat)) = R at *
    generalize qD s.lo = L at *
    generalize qD s.hi = L2 at *
    generalize qD a = A at *
    generalize qD b = C at *
    generalize hT : t - s.t = T at *
    simp [hT, h, e1]
  · rw [if_neg h]
    generalize qD (s.hi + a * ((t - s.t : Int) : Rat)) = R at *
    generalize qD s.lo = L at *
    generalize qD s.hi = L2 at *
    generalize qD a = A at *
    generalize qD b = C at *
    generalize hT : t - s.t = T at *
    simp [hT, h, e2]
/-! ### greatest and least -/
def gmx (l : List Rat) : Rat := l.foldl (fun x v => if x < v then v else x) (l.headD 0)
def gmn (l : List Rat) : Rat := l.foldl (fun x v => if v < x then v else x) (l.headD 0)
theorem gmx_go : ∀ (l : List Rat) (x : Rat), (l.foldl (fun x v => if x < v then v else x) x = x ∨ l.foldl (fun x v => if x < v then v else x) x ∈ l) ∧ x ≤ l.foldl (fun x v => if x < v then v else x) x ∧ ∀ v ∈ l, v ≤ l.foldl (fun x v => if x < v then v else x) x
  | [], x => ⟨.inl rfl, Rat.le_refl, by simp⟩
  | a :: l, x => by
    rw [List.foldl_cons]
    by_cases h : x < a
    · rw [if_pos h]
      obtain ⟨h1, h2, h3⟩ := gmx_go l a
      refine ⟨.inr ?_, by grind, fun v hv => ?_⟩
      · rcases h1 with h1 | h1
        · rw [h1]; simp
        · simp [h1]
      · rcases List.mem_cons.mp hv with rfl | hv
        · exact h2
        · exact h3 v hv
    · rw [if_neg h]
      obtain ⟨h1, h2, h3⟩ := gmx_go l x
      refine ⟨?_, h2, fun v hv => ?_⟩
      · rcases h1 with h1 | h1
        · exact .inl h1
        · exact .inr (by simp [h1])
      · rcases List.mem_cons.mp hv with rfl | hv
        · grind
        · exact h3 v hv
theorem gmn_go : ∀ (l : List Rat) (x : Rat), (l.foldl (fun x v => if v < x then v else x) x = x ∨ l.foldl (fun x v => if v < x then v else x) x ∈ l) ∧ l.foldl (fun x v => if v < x then v else x) x ≤ x ∧ ∀ v ∈ l, l.foldl (fun x v => if v < x then v else x) x ≤ v
  | [], x => ⟨.inl rfl, Rat.le_refl, by simp⟩
  | a :: l, x => by
    rw [List.foldl_cons]
    by_cases h : a < x
    · rw [if_pos h]
      obtain ⟨h1, h2, h3⟩ := gmn_go l a
      refine ⟨.inr ?_, by grind, fun v hv => ?_⟩
      · rcases h1 with h1 | h1
        · rw [h1]; simp
        · simp [h1]
      · rcases List.mem_cons.mp hv with rfl | hv
        · exact h2
        · exact h3 v hv
    · rw [if_neg h]
      obtain ⟨h1, h2, h3⟩ := gmn_go l x
      refine ⟨?_, h2, fun v hv => ?_⟩
      · rcases h1 with h1 | h1
        · exact .inl h1
        · exact .inr (by simp [h1])
      · rcases List.mem_cons.mp hv with rfl | hv
        · grind
        · exact h3 v hv
theorem gmx_ok {l : List Rat} (h : l ≠ []) : gmx l ∈ l ∧ ∀ v ∈ l, v ≤ gmx l := by
  cases l with
  | nil => exact absurd rfl h
  | cons a r =>
    obtain ⟨h1, h2, h3⟩ := gmx_go (a :: r) a
    refine ⟨?_, h3⟩
    rcases h1 with h1 | h1
    · show List.foldl _ a (a :: r) ∈ _
      rw [h1]; simp
    · exact h1
theorem gmn_ok {l : List Rat} (h : l ≠ []) : gmn l ∈ l ∧ ∀ v ∈ l, gmn l ≤ v := by
  cases l with
  | nil => exact absurd rfl h
  | cons a r =>
    obtain ⟨h1, h2, h3⟩ := gmn_go (a :: r) a
    refine ⟨?_, h3⟩
    rcases h1 with h1 | h1
    · show List.foldl _ a (a :: r) ∈ _
      rw [h1]; simp
    · exact h1
theorem gof_ok (l : List Rat) (h : l ≠ []) (hq : ∀ q ∈ l, Q9 q) : F_greatest_of [.lst (l.map qD)] = some (qD (gmx l), [.lst (l.map qD)]) := by
  unfold F_greatest_of b_greatest_of
  rw [v_run1]
  obtain ⟨a, r, rfl⟩ : ∃ a r, l = a :: r := by cases l with | nil => exact absurd rfl h | cons a r => exact ⟨a, r, rfl⟩
  have key := (loop_all (b := stepB (gNm 2) q1_greatest_of) (ks := [2]) qD (fun x : Rat => [.lst ((a :: r).map qD), qD x, .non]) (fun x v => if x < v then v else x) (fun _ x => Q9 x) (a :: r) [] a (hq a (by simp)) fun pre v post eq x hx => by
    have hv : Q9 v := hq v (by rw [List.nil_append] at eq; rw [eq]; simp)
    have e := less_ok x v hx hv
    by_cases hlt : x < v
    · rw [if_pos hlt]
      refine ⟨?_, hv⟩
      rw [decide_eq_true hlt] at e
      generalize (a :: r).map qD = L at *
      generalize qD v = V at *
      generalize qD x = XX at *
      simp [q1_greatest_of, e]
    · rw [if_neg hlt]
      refine ⟨?_, hx⟩
      rw [decide_eq_false hlt] at e
      generalize (a :: r).map qD = L at *
      generalize qD v = V at *
      generalize qD x = XX at *
      simp [q1_greatest_of, e]).1
  have eg : (a :: r).foldl (fun x v => if x < v then v else x) a = gmx (a :: r) := rfl
  rw [eg] at key
  have ei : dIx (.lst ((a :: r).map qD)) (.int 0) = some (qD a) := by simp
  generalize (a :: r).map qD = L at *
  generalize qD (gmx (a :: r)) = V at *
  generalize qD a = A at *
  simp [ei, key, -d_ix_l]
theorem lof_ok (l : List Rat) (h : l ≠ []) (hq : ∀ q ∈ l, Q9 q) : F_least_of [.lst (l.map qD)] = some (qD (gmn l), [.lst (l.map qD)]) := by
  unfold F_least_of b_least_of
  rw [v_run1]
  obtain ⟨a, r, rfl⟩ : ∃ a r, l = a :: r := by cases l with | nil => exact absurd rfl h | cons a r => exact ⟨a, r, rfl⟩
  have key := (loop_all (b := stepB (gNm 2) q1_least_of) (ks := [2]) qD (fun x : Rat => [.lst ((a :: r).map qD), qD x, .non]) (fun x v => if v < x then v else x) (fun _ x => Q9 x) (a :: r) [] a (hq a (by simp)) fun pre v post eq x hx => by
    have hv : Q9 v := hq v (by rw [List.nil_append] at eq; rw [eq]; simp)
    have e := less_ok v x hv hx
    by_cases hlt : v < x
    · rw [if_pos hlt]
      refine ⟨?_, hv⟩
      rw [decide_eq_true hlt] at e
      generalize (a :: r).map qD = L at *
      generalize qD v = V at *
      generalize qD x = XX at *
      simp [q1_least_of, e]
    · rw [if_neg hlt]
      refine ⟨?_, hx⟩
      rw [decide_eq_false hlt] at e
      generalize (a :: r).map qD = L at *
      generalize qD v = V at *
      generalize qD x = XX at *
      simp [q1_least_of, e]).1
  have eg : (a :: r).foldl (fun x v => if v < x then v else x) a = gmn (a :: r) := rfl
  rw [eg] at key
  have ei : dIx (.lst ((a :: r).map qD)) (.int 0) = some (qD a) := by simp
  generalize (a :: r).map qD = L at *
  generalize qD (gmn (a :: r)) = V at *
  generalize qD a = A at *
  simp [ei, key, -d_ix_l]
end K97

namespace K97
open PySem PySem.Spec PyProof.Rows L2 TL
def OkSs (ss : List Sp) : Prop := ss ≠ [] ∧ ss.length ≤ 100 ∧ ∀ s ∈ ss, OkSp s
def lowR (a b : Rat) (ss : List Sp) (t : Int) : Rat := gmx (ss.map fun s => lowBy a b s t)
def higR (a b : Rat) (ss : List Sp) (t : Int) : Rat := gmn (ss.map fun s => higBy a b s t)
theorem lowR_mem {a b : Rat} {ss : List Sp} (h : ss ≠ []) (t : Int) : (∃ s ∈ ss, lowR a b ss t = lowBy a b s t) ∧ ∀ s ∈ ss, lowBy a b s t ≤ lowR a b ss t := by
  obtain ⟨h1, h2⟩ := gmx_ok (l := ss.map fun s => lowBy a b s t) (by simpa using h)
  obtain ⟨s, hs, e⟩ := List.mem_map.mp h1
  exact ⟨⟨s, hs, e.symm⟩, fun s hs => h2 _ (List.mem_map.mpr ⟨s, hs, rfl⟩)⟩
theorem higR_mem {a b : Rat} {ss : List Sp} (h : ss ≠ []) (t : Int) : (∃ s ∈ ss, higR a b ss t = higBy a b s t) ∧ ∀ s ∈ ss, higR a b ss t ≤ higBy a b s t := by
  obtain ⟨h1, h2⟩ := gmn_ok (l := ss.map fun s => higBy a b s t) (by simpa using h)
  obtain ⟨s, hs, e⟩ := List.mem_map.mp h1
  exact ⟨⟨s, hs, e.symm⟩, fun s hs => h2 _ (List.mem_map.mpr ⟨s, hs, rfl⟩)⟩
theorem lowR_B {a b : Rat} (hd : OkDf a b) {ss : List Sp} (h : OkSs ss) (t : Int) (h1 : -100 ≤ t) (h2 : t ≤ 100) : B 1100000 (lowR a b ss t) := by
  obtain ⟨⟨s, hs, e⟩, _⟩ := lowR_mem (a := a) (b := b) h.1 t
  rw [e]; exact lowBy_B hd (h.2.2 s hs) t h1 h2
theorem higR_B {a b : Rat} (hd : OkDf a b) {ss : List Sp} (h : OkSs ss) (t : Int) (h1 : -100 ≤ t) (h2 : t ≤ 100) : B 1100000 (higR a b ss t) := by
  obtain ⟨⟨s, hs, e⟩, _⟩ := higR_mem (a := a) (b := b) h.1 t
  rw [e]; exact higBy_B hd (h.2.2 s hs) t h1 h2
theorem lr_ok {a b : Rat} (hd : OkDf a b) {ss : List Sp} (h : OkSs ss) (t : Int) (h1 : -100 ≤ t) (h2 : t ≤ 100) : ∃ r, F_least_reading [dfD a b, stsD ss, .int t] = some (qD (lowR a b ss t), r) := by
  unfold F_least_reading b_least_reading
  rw [v_run3]
  refine exo ?_
  have e1 := lc_all stD (fun s => qD (lowBy a b s t)) [dfD a b, stsD ss, .int t, .non] ss (step := stepLc [3] (gNm 3) tYesF e1_least_reading) fun s hs => by
    obtain ⟨r, e⟩ := lby_ok hd (h.2.2 s hs) t h1 h2
    generalize dfD a b = DF at *
    generalize stsD ss = SS at *
    generalize stD s = S at *
    simp [e1_least_reading, e]
  have e2 := gof_ok (ss.map fun s => lowBy a b s t) (by simpa using h.1) fun q hq => by
    obtain ⟨s, hs, rfl⟩ := List.mem_map.mp hq
    exact Bq (lowBy_B hd (h.2.2 s hs) t h1 h2) (by omega)
  rw [List.map_map] at e2
  have em : ss.map (qD ∘ fun s => lowBy a b s t) = ss.map fun s => qD (lowBy a b s t) := rfl
  rw [em] at e2
  have ei : seqD (.v (stsD ss)) = some (ss.map stD) := rfl
  have el : (ss.map stD).length = ss.length := by simp
  have el2 : (ss.map fun s => qD (lowBy a b s t)).length = ss.length := by simp
  have ho := okLen_of (n := ss.length) (by have := h.2.1; omega)
  show _ = some (qD (gmx _))
  generalize (ss.map fun s => qD (lowBy a b s t)) = QS at *
  generalize qD (gmx (ss.map fun s => lowBy a b s t)) = R at *
  generalize ss.map stD = SL at *
  generalize stsD ss = SS at *
  generalize dfD a b = DF at *
  simp [ei, e1, e2, el, el2, ho]
theorem hr_ok {a b : Rat} (hd : OkDf a b) {ss : List Sp} (h : OkSs ss) (t : Int) (h1 : -100 ≤ t) (h2 : t ≤ 100) : ∃ r, F_greatest_reading [dfD a b, stsD ss, .int t] = some (qD (higR a b ss t), r) := by
  unfold F_greatest_reading b_greatest_reading
  rw [v_run3]
  refine exo ?_
  have e1 := lc_all stD (fun s => qD (higBy a b s t)) [dfD a b, stsD ss, .int t, .non] ss (step := stepLc [3] (gNm 3) tYesF e1_greatest_reading) fun s hs => by
    obtain ⟨r, e⟩ := hby_ok hd (h.2.2 s hs) t h1 h2
    generalize dfD a b = DF at *
    generalize stsD ss = SS at *
    generalize stD s = S at *
    simp [e1_greatest_reading, e]
  have e2 := lof_ok (ss.map fun s => higBy a b s t) (by simpa using h.1) fun q hq => by
    obtain ⟨s, hs, rfl⟩ := List.mem_map.mp hq
    exact Bq (higBy_B hd (h.2.2 s hs) t h1 h2) (by omega)
  rw [List.map_map] at e2
  have em : ss.map (qD ∘ fun s => higBy a b s t) = ss.map fun s => qD (higBy a b s t) := rfl
  rw [em] at e2
  have ei : seqD (.v (stsD ss)) = some (ss.map stD) := rfl
  have el : (ss.map stD).length = ss.length := by simp
  have el2 : (ss.map fun s => qD (higBy a b s t)).length = ss.length := by simp
  have ho := okLen_of (n := ss.length) (by have := h.2.1; omega)
  show _ = some (qD (gmn _))
  generalize (ss.map fun s => qD (higBy a b s t)) = QS at *
  generalize qD (gmn (ss.map fun s => higBy a b s t)) = R at *
  generalize ss.map stD = SL at *
  generalize stsD ss = SS at *
  generalize dfD a b = DF at *
  simp [ei, e1, e2, el, el2, ho]
theorem rd_ok {a b : Rat} (hd : OkDf a b) {ss : List Sp} (h : OkSs ss) (t : Int) (h1 : -100 ≤ t) (h2 : t ≤ 100) : ∃ r, F_readings [dfD a b, stsD ss, .int t] = some (.tup [qD (lowR a b ss t), qD (higR a b ss t)], r) := by
  unfold F_readings b_readings
  rw [v_run3]
  refine exo ?_
  obtain ⟨r1, e1⟩ := lr_ok hd h t h1 h2
  obtain ⟨r2, e2⟩ := hr_ok hd h t h1 h2
  generalize qD (lowR a b ss t) = R1 at *
  generalize qD (higR a b ss t) = R2 at *
  generalize stsD ss = SS at *
  generalize dfD a b = DF at *
  simp [e1, e2, okLen_of (n := 2) (by omega)]
theorem sr_ok {a b : Rat} (hd : OkDf a b) {ss : List Sp} (h : OkSs ss) (x y : Nat) (h1 : x ≤ 100) (h2 : y ≤ 100) :
    (x = 0 → ∃ r, F_sure_readings [dfD a b, stsD ss, .int (x : Int), .int (y : Int)] = some (.tup [.non, qD (lowR a b ss y)], r)) ∧
    (x ≠ 0 → higR a b ss ((x : Int) - 1) < lowR a b ss y → ∃ r, F_sure_readings [dfD a b, stsD ss, .int (x : Int), .int (y : Int)] = some (.tup [qD (higR a b ss ((x : Int) - 1)), qD (lowR a b ss y)], r)) ∧
    (x ≠ 0 → ¬ higR a b ss ((x : Int) - 1) < lowR a b ss y → ∃ r, F_sure_readings [dfD a b, stsD ss, .int (x : Int), .int (y : Int)] = some (.non, r)) := by
  unfold F_sure_readings b_sure_readings
  obtain ⟨r1, e1⟩ := lr_ok hd h (y : Int) (by omega) (by omega)
  refine ⟨fun h0 => ?_, fun h0 hlt => ?_, fun h0 hlt => ?_⟩
  · rw [v_run4]
    refine exo ?_
    subst h0
    generalize qD (lowR a b ss y) = R1 at *
    generalize stsD ss = SS at *
    generalize dfD a b = DF at *
    simp [e1, okLen_of (n := 2) (by omega)]
  · rw [v_run4]
    refine exo ?_
    obtain ⟨r2, e2⟩ := hr_ok hd h ((x : Int) - 1) (by omega) (by omega)
    have e3 := less_ok (higR a b ss ((x : Int) - 1)) (lowR a b ss y) (Bq (higR_B hd h _ (by omega) (by omega)) (by omega)) (Bq (lowR_B hd h _ (by omega) (by omega)) (by omega))
    rw [decide_eq_true hlt] at e3
    generalize qD (higR a b ss ((x : Int) - 1)) = R2 at *
    generalize qD (lowR a b ss y) = R1 at *
    generalize stsD ss = SS at *
    generalize dfD a b = DF at *
    simp [e1, e2, e3, h0, okLen_of (n := 2) (by omega)]
  · rw [v_run4]
    refine exo ?_
    obtain ⟨r2, e2⟩ := hr_ok hd h ((x : Int) - 1) (by omega) (by omega)
    have e3 := less_ok (higR a b ss ((x : Int) - 1)) (lowR a b ss y) (Bq (higR_B hd h _ (by omega) (by omega)) (by omega)) (Bq (lowR_B hd h _ (by omega) (by omega)) (by omega))
    rw [decide_eq_false hlt] at e3
    generalize qD (higR a b ss ((x : Int) - 1)) = R2 at *
    generalize qD (lowR a b ss y) = R1 at *
    generalize stsD ss = SS at *
    generalize dfD a b = DF at *
    simp [e1, e2, e3, h0]
/-! ### the times of a reading -/
theorem den_div (x y : Rat) (hx : Q9 x) (hy : Q9 y) (h : 0 < y) : sm ((x / y).den : Int) = true := by
  have hn := num_pos h
  rw [← div_q x y hn]
  have h1 := hx.den
  have h2 := hy.num
  have hlt : x.den * y.num.toNat ≤ 60 * 1000000000 := Nat.mul_le_mul (by omega) (by omega)
  have hp : 0 < x.den * y.num.toNat := Nat.mul_pos (den_pos x) (by omega)
  obtain ⟨_, e⟩ := mk_num (x.num * (y.den : Int)) (x.den * y.num.toNat) (by omega)
  rw [e]
  have := Nat.div_le_self (x.den * y.num.toNat) ((x.num * (y.den : Int)).natAbs.gcd (x.den * y.num.toNat))
  exact sm_of (by omega) (by omega)
def rate1 (a b x : Rat) : Rat := if 0 < x then b else a
def rate2 (a b x : Rat) : Rat := if x < 0 then b else a
def fw (a b : Rat) (q : Rat) (s : Sp) : Int := s.t + ce ((q - s.hi) / rate1 a b (q - s.hi))
def lw (a b : Rat) (q : Rat) (s : Sp) : Int := s.t + fl ((q - s.lo) / rate2 a b (q - s.lo))
theorem fw_ok {a b : Rat} (hd : OkDf a b) {s : Sp} (hs : OkSp s) (q : Rat) (hq : B 1100000 q) : ∃ r, F_first_with [dfD a b, stD s, qD q] = some (.int (fw a b q s), r) := by
  unfold F_first_with b_first_with
  rw [v_run3]
  refine exo ?_
  have hb0 : 0 < b := by have := hd.pos; have := hd.le; grind
  have e1 := sub_ok q s.hi (Bq hq (by omega)) (Bq hs.hi (by omega))
  have hx : Q9 (q - s.hi) := Bq (hq.sub hs.hi) (by omega)
  have e2 := less_ok ((0 : Int) : Rat) (q - s.hi) (Bq (B_int 0 1 (by omega) (by omega)) (by omega)) hx
  rw [← q_int] at e2
  have ez : ((0 : Int) : Rat) = 0 := rfl
  rw [ez] at e2
  unfold fw rate1
  by_cases h : 0 < q - s.hi
  · rw [if_pos h]
    rw [decide_eq_true h] at e2
    have e3 := div_ok (q - s.hi) b hx (Bq hd.b (by omega)) hb0
    have e4 := ceil_ok ((q - s.hi) / b) (den_div _ _ hx (Bq hd.b (by omega)) hb0)
    unfold dfD stD
    generalize ce ((q - s.hi) / b) = C1 at *
    generalize qD ((q - s.hi) / b) = R1 at *
    generalize qD (q - s.hi) = R2 at *
    generalize qD s.lo = L at *
    generalize qD s.hi = L2 at *
    generalize qD a = A at *
    generalize qD b = C at *
    generalize qD q = QQ at *
    simp [e1, e2, e3, e4, okLen_of (n := 2) (by omega)]
  · rw [if_neg h]
    rw [decide_eq_false h] at e2
    have e3 := div_ok (q - s.hi) a hx (Bq hd.a (by omega)) hd.pos
    have e4 := ceil_ok ((q - s.hi) / a) (den_div _ _ hx (Bq hd.a (by omega)) hd.pos)
    unfold dfD stD
    generalize ce ((q - s.hi) / a) = C1 at *
    generalize qD ((q - s.hi) / a) = R1 at *
    generalize qD (q - s.hi) = R2 at *
    generalize qD s.lo = L at *
    generalize qD s.hi = L2 at *
    generalize qD a = A at *
    generalize qD b = C at *
    generalize qD q = QQ at *
    simp [e1, e2, e3, e4, okLen_of (n := 2) (by omega)]
theorem lw_ok {a b : Rat} (hd : OkDf a b) {s : Sp} (hs : OkSp s) (q : Rat) (hq : B 1100000 q) : ∃ r, F_last_with [dfD a b, stD s, qD q] = some (.int (lw a b q s), r) := by
  unfold F_last_with b_last_with
  rw [v_run3]
  refine exo ?_
  have hb0 : 0 < b := by have := hd.pos; have := hd.le; grind
  have e1 := sub_ok q s.lo (Bq hq (by omega)) (Bq hs.lo (by omega))
  have hx : Q9 (q - s.lo) := Bq (hq.sub hs.lo) (by omega)
  have e2 := less_ok (q - s.lo) ((0 : Int) : Rat) hx (Bq (B_int 0 1 (by omega) (by omega)) (by omega))
  rw [← q_int] at e2
  have ez : ((0 : Int) : Rat) = 0 := rfl
  rw [ez] at e2
  unfold lw rate2
  by_cases h : q - s.lo < 0
  · rw [if_pos h]
    rw [decide_eq_true h] at e2
    have e3 := div_ok (q - s.lo) b hx (Bq hd.b (by omega)) hb0
    have e4 := floor_ok ((q - s.lo) / b) (den_div _ _ hx (Bq hd.b (by omega)) hb0)
    unfold dfD stD
    generalize fl ((q - s.lo) / b) = C1 at *
    generalize qD ((q - s.lo) / b) = R1 at *
    generalize qD (q - s.lo) = R2 at *
    generalize qD s.lo = L at *
    generalize qD s.hi = L2 at *
    generalize qD a = A at *
    generalize qD b = C at *
    generalize qD q = QQ at *
    simp [e1, e2, e3, e4, okLen_of (n := 2) (by omega)]
  · rw [if_neg h]
    rw [decide_eq_false h] at e2
    have e3 := div_ok (q - s.lo) a hx (Bq hd.a (by omega)) hd.pos
    have e4 := floor_ok ((q - s.lo) / a) (den_div _ _ hx (Bq hd.a (by omega)) hd.pos)
    unfold dfD stD
    generalize fl ((q - s.lo) / a) = C1 at *
    generalize qD ((q - s.lo) / a) = R1 at *
    generalize qD (q - s.lo) = R2 at *
    generalize qD s.lo = L at *
    generalize qD s.hi = L2 at *
    generalize qD a = A at *
    generalize qD b = C at *
    generalize qD q = QQ at *
    simp [e1, e2, e3, e4, okLen_of (n := 2) (by omega)]
end K97

namespace K97
open PySem PySem.Spec PyProof.Rows L2 TL
def mxI : List Int → Int
  | [] => 0
  | a :: r => r.foldl (fun i j => if j > i then j else i) a
def mnI : List Int → Int
  | [] => 0
  | a :: r => r.foldl (fun i j => if j < i then j else i) a
theorem maxD_m {α : Type} (f : α → Int) (l : List α) (h : l ≠ []) : maxD (.lst (l.map fun a => D.int (f a))) = some (.int (mxI (l.map f))) := by
  show (getInts _).bind _ = _
  rw [getInts_m]
  cases l with
  | nil => exact absurd rfl h
  | cons a r => rfl
theorem minD_m {α : Type} (f : α → Int) (l : List α) (h : l ≠ []) : minD (.lst (l.map fun a => D.int (f a))) = some (.int (mnI (l.map f))) := by
  show (getInts _).bind _ = _
  rw [getInts_m]
  cases l with
  | nil => exact absurd rfl h
  | cons a r => rfl
theorem mxI_go : ∀ (l : List Int) (a : Int), a ≤ l.foldl (fun i j => if j > i then j else i) a ∧ ∀ x ∈ l, x ≤ l.foldl (fun i j => if j > i then j else i) a
  | [], a => ⟨Int.le_refl a, by simp⟩
  | b :: l, a => by
    rw [List.foldl_cons]
    obtain ⟨h1, h2⟩ := mxI_go l (if b > a then b else a)
    refine ⟨by split at h1 <;> split <;> omega, fun x hx => ?_⟩
    rcases List.mem_cons.mp hx with rfl | hx
    · split at h1 <;> split <;> omega
    · exact h2 x hx
theorem mxI_ge {l : List Int} : ∀ x ∈ l, x ≤ mxI l := by
  cases l with
  | nil => simp
  | cons a r =>
    intro x hx
    obtain ⟨h1, h2⟩ := mxI_go r a
    rcases List.mem_cons.mp hx with rfl | hx
    · exact h1
    · exact h2 x hx
theorem to_ok {a b : Rat} (hd : OkDf a b) {ss : List Sp} (h : OkSs ss) (q : Rat) (hq : B 1100000 q) : ∃ M : Int, (0 ≤ M ∧ ∀ s ∈ ss, fw a b q s ≤ M) ∧ ∃ d, (d = .non ∨ ∃ l : Int, d = .tup [.int M, .int l]) ∧ ∃ r, F_times_of [dfD a b, stsD ss, qD q] = some (d, r) := by
  have e1 := lc_all stD (fun s => .int (fw a b q s)) [dfD a b, stsD ss, qD q, .non, .non, .non] ss (step := stepLc [5] (gNm 5) tYesF e1_times_of) fun s hs => by
    obtain ⟨r, e⟩ := fw_ok hd (h.2.2 s hs) q hq
    generalize dfD a b = DF at *
    generalize stsD ss = SS at *
    generalize stD s = S at *
    generalize qD q = QQ at *
    simp [e1_times_of, e]
  have e2 := fun z3 => lc_all stD (fun s => .int (lw a b q s)) [dfD a b, stsD ss, qD q, z3, .non, .non] ss (step := stepLc [5] (gNm 5) tYesF e2_times_of) fun s hs => by
    obtain ⟨r, e⟩ := lw_ok hd (h.2.2 s hs) q hq
    generalize dfD a b = DF at *
    generalize stsD ss = SS at *
    generalize stD s = S at *
    generalize qD q = QQ at *
    simp [e2_times_of, e]
  have e3 := maxD_m (fun x : Int => x) (0 :: ss.map (fw a b q)) (by simp)
  have e4 := minD_m (lw a b q) ss h.1
  have em : (0 :: ss.map (fw a b q)).map (fun x : Int => D.int x) = .int 0 :: ss.map fun s => D.int (fw a b q s) := by simp
  rw [em] at e3
  have ei : seqD (.v (stsD ss)) = some (ss.map stD) := rfl
  have el : (ss.map stD).length = ss.length := by simp
  have el1 : (ss.map fun s => D.int (fw a b q s)).length = ss.length := by simp
  have el2 : (ss.map fun s => D.int (lw a b q s)).length = ss.length := by simp
  have hlen := h.2.1
  have ho := okLen_of (n := ss.length) (by omega)
  have ho1 := okLen_of (n := 1 + ss.length) (by omega)
  have hM1 : 0 ≤ mxI ((0 :: ss.map (fw a b q)).map fun x : Int => x) := mxI_ge 0 (by simp)
  have hM2 : ∀ s ∈ ss, fw a b q s ≤ mxI ((0 :: ss.map (fw a b q)).map fun x : Int => x) := fun s hs => mxI_ge _ (by simp; exact .inr ⟨s, hs, rfl⟩)
  generalize mxI ((0 :: ss.map (fw a b q)).map fun x : Int => x) = M at *
  generalize mnI (ss.map (lw a b q)) = N at *
  unfold F_times_of b_times_of
  rw [v_run3]
  refine ⟨M, ⟨hM1, hM2⟩, if M ≤ N then .tup [.int M, .int N] else .non, ?_, exo ?_⟩
  · split
    · exact .inr ⟨N, rfl⟩
    · exact .inl rfl
  generalize (ss.map fun s => D.int (fw a b q s)) = FS at *
  generalize (ss.map fun s => D.int (lw a b q s)) = LS at *
  generalize ss.map stD = SL at *
  generalize stsD ss = SS at *
  generalize dfD a b = DF at *
  generalize qD q = QQ at *
  by_cases hle : M ≤ N
  · simp [ei, e1, e2, el, el1, el2, ho, ho1, e3, e4, hle, okLen_of (n := 1) (by omega), okLen_of (n := 2) (by omega)]
  · simp [ei, e1, e2, el, el1, el2, ho, ho1, e3, e4, hle, okLen_of (n := 1) (by omega)]
/-- a reading that none has yet at x - 1 is met at x at the earliest -/
theorem fw_late {a b : Rat} (hd : OkDf a b) {ss : List Sp} (h : ss ≠ []) (q : Rat) (x : Int) (hlt : higR a b ss (x - 1) < q) : ∃ s ∈ ss, x ≤ fw a b q s := by
  obtain ⟨⟨s, hs, e⟩, _⟩ := higR_mem (a := a) (b := b) h (x - 1)
  refine ⟨s, hs, ?_⟩
  rw [e] at hlt
  unfold higBy at hlt
  have hp := hd.pos
  have hle := hd.le
  have hb : 0 < b := by grind
  generalize hT : x - 1 - s.t = T at hlt
  have key : (T : Rat) < (q - s.hi) / rate1 a b (q - s.hi) := by
    unfold rate1
    by_cases h0 : 0 < q - s.hi
    · rw [if_pos h0, Rat.lt_div_iff hb]
      by_cases h1 : 0 ≤ T
      · rw [if_pos h1] at hlt
        grind
      · have h2 : (T : Rat) ≤ 0 := by exact_mod_cast (by omega : T ≤ 0)
        have h3 : (T : Rat) * b ≤ 0 * b := Rat.mul_le_mul_of_nonneg_right h2 (by grind)
        grind
    · rw [if_neg h0, Rat.lt_div_iff hp]
      by_cases h1 : 0 ≤ T
      · rw [if_pos h1] at hlt
        have h2 : (0 : Rat) ≤ (T : Rat) := by exact_mod_cast h1
        have h3 : 0 ≤ b * (T : Rat) := Rat.mul_nonneg (by grind) h2
        grind
      · rw [if_neg h1] at hlt
        grind
  have := ce_gt _ _ key
  unfold fw
  omega
end K97

namespace K97
open PySem PySem.Spec PyProof.Rows L2 TL
theorem ratNN {t : Int} (h : 0 ≤ t) : (0 : Rat) ≤ (t : Rat) := by exact_mod_cast h
/-- greatest readings grow -/
theorem higBy_mono {a b : Rat} (hd : OkDf a b) (s : Sp) (t u : Int) (h : t ≤ u) : higBy a b s t ≤ higBy a b s u := by
  have hp := hd.pos
  have hle := hd.le
  have hb : 0 < b := by grind
  unfold higBy
  obtain ⟨d, hdd⟩ : ∃ d : Int, u = t + d := ⟨u - t, by omega⟩
  subst hdd
  have hd0 : 0 ≤ d := by omega
  generalize hT : t - s.t = T
  have eT : t + d - s.t = T + d := by omega
  rw [eT]
  have n1 := Rat.mul_nonneg (show 0 ≤ a by grind) (ratNN hd0)
  have n2 := Rat.mul_nonneg (show 0 ≤ b by grind) (ratNN hd0)
  have ec : ((T + d : Int) : Rat) = (T : Rat) + (d : Rat) := Rat.intCast_add T d
  rw [ec]
  by_cases h1 : 0 ≤ T
  · rw [if_pos h1, if_pos (by omega)]
    grind
  · rw [if_neg h1]
    by_cases h2 : 0 ≤ T + d
    · rw [if_pos h2]
      have h3 := ratNN h2
      rw [ec] at h3
      have h4 : 0 ≤ (((-T : Int)) : Rat) := ratNN (by omega)
      have h5 : (((-T : Int)) : Rat) = -(T : Rat) := Rat.intCast_neg T
      rw [h5] at h4
      have n3 := Rat.mul_nonneg (show 0 ≤ b by grind) h3
      have n4 := Rat.mul_nonneg (show 0 ≤ a by grind) h4
      grind
    · rw [if_neg h2]
      grind
theorem higR_mono {a b : Rat} (hd : OkDf a b) {ss : List Sp} (h : ss ≠ []) (t u : Int) (hu : t ≤ u) : higR a b ss t ≤ higR a b ss u := by
  obtain ⟨⟨s, hs, e⟩, _⟩ := higR_mem (a := a) (b := b) h u
  obtain ⟨_, h2⟩ := higR_mem (a := a) (b := b) h t
  have := higBy_mono hd s t u hu
  have := h2 s hs
  rw [e]; grind
/-- two stamps, the first not later, that agree -/
structure Agr (a b : Rat) (s w : Sp) : Prop where
  le : s.t ≤ w.t
  hi : w.lo ≤ s.hi + b * ((w.t - s.t : Int) : Rat)
  lo : s.lo + a * ((w.t - s.t : Int) : Rat) ≤ w.hi
theorem agr_ok {a b : Rat} (hd : OkDf a b) {s w : Sp} (h : Agr a b s w) (t : Int) : lowBy a b s t ≤ higBy a b w t ∧ lowBy a b w t ≤ higBy a b s t := by
  have hp := hd.pos
  have hle := hd.le
  have h1 := h.le
  have h2 := h.hi
  have h3 := h.lo
  unfold lowBy higBy
  obtain ⟨d, hdd⟩ : ∃ d : Int, d = w.t - s.t := ⟨_, rfl⟩
  have hd0 : 0 ≤ d := by omega
  obtain ⟨T, hT⟩ : ∃ T : Int, T = t - w.t := ⟨_, rfl⟩
  have e1 : t - s.t = T + d := by omega
  rw [e1, ← hT]
  rw [← hdd] at h2 h3
  have ec : ((T + d : Int) : Rat) = (T : Rat) + (d : Rat) := Rat.intCast_add T d
  rw [ec]
  have hd1 := ratNN hd0
  by_cases c1 : 0 ≤ T
  · have c2 := ratNN c1
    have n1 := Rat.mul_nonneg (show 0 ≤ b - a by grind) c2
    rw [if_pos (by omega), if_pos c1, if_pos c1, if_pos (by omega)]
    constructor <;> grind
  · have c2 : 0 ≤ (((-T : Int)) : Rat) := ratNN (by omega)
    rw [Rat.intCast_neg T] at c2
    have n1 := Rat.mul_nonneg (show 0 ≤ b - a by grind) c2
    rw [if_neg c1, if_neg c1]
    by_cases c3 : 0 ≤ T + d
    · rw [if_pos c3, if_pos c3]
      constructor <;> grind
    · have c4 : 0 ≤ (((-(T + d) : Int)) : Rat) := ratNN (by omega)
      rw [Rat.intCast_neg, ec] at c4
      have n2 := Rat.mul_nonneg (show 0 ≤ b - a by grind) c4
      rw [if_neg c3, if_neg c3]
      constructor <;> grind
def Con (a b : Rat) (ss : List Sp) : Prop := ∀ s ∈ ss, ∀ w ∈ ss, ∀ t : Int, lowBy a b s t ≤ higBy a b w t
theorem con_le {a b : Rat} {ss : List Sp} (h : ss ≠ []) (hc : Con a b ss) (t : Int) : lowR a b ss t ≤ higR a b ss t := by
  obtain ⟨⟨s, hs, e⟩, _⟩ := lowR_mem (a := a) (b := b) h t
  obtain ⟨⟨w, hw, e2⟩, _⟩ := higR_mem (a := a) (b := b) h t
  rw [e, e2]; exact hc s hs w hw t
/-- the first of a range -/
theorem head_range (p : Nat → Bool) : ∀ (n k : Nat), k < n → p k = true → ∃ m r, (List.range n).filter p = m :: r ∧ m ≤ k ∧ p m = true := by
  intro n k hk hp
  cases e : (List.range n).filter p with
  | nil =>
    have := List.filter_eq_nil_iff.mp e k (List.mem_range.mpr hk)
    exact absurd hp this
  | cons m r =>
    refine ⟨m, r, rfl, ?_, ?_⟩
    · have hs : ((List.range n).filter p).Pairwise (· < ·) := List.Pairwise.filter _ List.pairwise_lt_range
      have hm : k ∈ (List.range n).filter p := List.mem_filter.mpr ⟨List.mem_range.mpr hk, hp⟩
      rw [e] at hs hm
      rcases List.mem_cons.mp hm with rfl | hm
      · exact Nat.le_refl _
      · exact Nat.le_of_lt ((List.pairwise_cons.mp hs).1 k hm)
    · have : m ∈ (List.range n).filter p := by rw [e]; simp
      exact (List.mem_filter.mp this).2
def slowL (a b : Rat) (ss : List Sp) (q : Rat) : List Nat := (List.range 61).filter fun t => !decide (lowR a b ss (t : Int) < q)
def fastL (a b : Rat) (ss : List Sp) (q : Rat) : List Nat := (List.range 61).filter fun t => !decide (higR a b ss (t : Int) < q)
theorem deed {a b : Rat} (hd : OkDf a b) {ss : List Sp} (h : ss ≠ []) (hc : Con a b ss) (x y : Nat) (hxy : x ≤ y) (hy : y ≤ 30) (hx : x = 0 ∨ higR a b ss ((x : Int) - 1) < lowR a b ss y) :
    ∃ m r n r', slowL a b ss (lowR a b ss y) = m :: r ∧ fastL a b ss (lowR a b ss y) = n :: r' ∧ x ≤ n ∧ n ≤ m ∧ m ≤ y := by
  obtain ⟨m, r, e1, l1, p1⟩ := head_range (fun t => !decide (lowR a b ss (t : Int) < lowR a b ss y)) 61 y (by omega) (by simp)
  have p1' : ¬ lowR a b ss (m : Int) < lowR a b ss (y : Int) := by simpa using p1
  have hm := con_le h hc (m : Int)
  obtain ⟨n, r', e2, l2, p2⟩ := head_range (fun t => !decide (higR a b ss (t : Int) < lowR a b ss y)) 61 m (by omega) (by simp; grind)
  have p2' : ¬ higR a b ss (n : Int) < lowR a b ss (y : Int) := by simpa using p2
  refine ⟨m, r, n, r', e1, e2, ?_, l2, l1⟩
  rcases hx with rfl | hx
  · omega
  · refine Nat.not_lt.mp fun hlt => ?_
    have := higR_mono hd h (n : Int) ((x : Int) - 1) (by omega)
    grind
end K97

namespace K97
open PySem PySem.Spec PyProof.Rows L2 TL
/-! ### stamps that bar -/
def barO (a b : Rat) (s w : Sp) : Bool := decide (s.hi + b * ((w.t - s.t : Int) : Rat) < w.lo) || decide (w.hi < s.lo + a * ((w.t - s.t : Int) : Rat))
def bar (a b : Rat) (s w : Sp) : Bool := if w.t < s.t then barO a b w s else barO a b s w
theorem stD_0 (s : Sp) : dIx (stD s) (.int 0) = some (.int s.t) := by simp [stD]
theorem stD_1 (s : Sp) : dIx (stD s) (.int 1) = some (qD s.lo) := by simp [stD]
theorem stD_2 (s : Sp) : dIx (stD s) (.int 2) = some (qD s.hi) := by simp [stD]
theorem dfD_0 (a b : Rat) : dIx (dfD a b) (.int 0) = some (qD a) := by simp [dfD]
theorem dfD_1 (a b : Rat) : dIx (dfD a b) (.int 1) = some (qD b) := by simp [dfD]
theorem bar_ok {a b : Rat} (hd : OkDf a b) {s w : Sp} (hs : OkSp s) (hw : OkSp w) : ∃ r, F__law_is_barred [dfD a b, stD s, stD w] = some (.bl (bar a b s w), r) := by
  have core : ∀ (s w : Sp), OkSp s → OkSp w → ∀ z : D, ∃ e1 e2 e3 e4 : _ , True := fun _ _ _ _ _ => ⟨(), (), (), (), trivial⟩
  unfold F__law_is_barred b__law_is_barred
  rw [v_run3]
  refine exo ?_
  have facts : ∀ (s w : Sp), OkSp s → OkSp w → -1000 ≤ w.t - s.t → w.t - s.t ≤ 1000 →
      F__law_times [qD b, qD ((w.t - s.t : Int) : Rat)] = some (qD (b * ((w.t - s.t : Int) : Rat)), [qD b, qD ((w.t - s.t : Int) : Rat)]) ∧
      F__law_add [qD s.hi, qD (b * ((w.t - s.t : Int) : Rat))] = some (qD (s.hi + b * ((w.t - s.t : Int) : Rat)), [qD s.hi, qD (b * ((w.t - s.t : Int) : Rat))]) ∧
      F__law_below [qD (s.hi + b * ((w.t - s.t : Int) : Rat)), qD w.lo] = some (.bl (decide (s.hi + b * ((w.t - s.t : Int) : Rat) < w.lo)), [qD (s.hi + b * ((w.t - s.t : Int) : Rat)), qD w.lo]) ∧
      F__law_times [qD a, qD ((w.t - s.t : Int) : Rat)] = some (qD (a * ((w.t - s.t : Int) : Rat)), [qD a, qD ((w.t - s.t : Int) : Rat)]) ∧
      F__law_add [qD s.lo, qD (a * ((w.t - s.t : Int) : Rat))] = some (qD (s.lo + a * ((w.t - s.t : Int) : Rat)), [qD s.lo, qD (a * ((w.t - s.t : Int) : Rat))]) ∧
      F__law_below [qD w.hi, qD (s.lo + a * ((w.t - s.t : Int) : Rat))] = some (.bl (decide (w.hi < s.lo + a * ((w.t - s.t : Int) : Rat))), [qD w.hi, qD (s.lo + a * ((w.t - s.t : Int) : Rat))]) := by
    intro s w hs hw h1 h2
    have k1 := hd.b.mulInt (w.t - s.t) 1000 h1 h2
    have k2 := hd.a.mulInt (w.t - s.t) 1000 h1 h2
    have k3 := Bq (B_int (w.t - s.t) 1000 h1 h2) (by omega)
    exact ⟨lmul_ok _ _ (Bq hd.b (by omega)) k3, ladd_ok _ _ (Bq hs.hi (by omega)) (Bq k1 (by omega)), below_ok _ _ (Bq (hs.hi.add k1) (by omega)) (Bq hw.lo (by omega)),
      lmul_ok _ _ (Bq hd.a (by omega)) k3, ladd_ok _ _ (Bq hs.lo (by omega)) (Bq k2 (by omega)), below_ok _ _ (Bq hw.hi (by omega)) (Bq (hs.lo.add k2) (by omega))⟩
  have ht := hs.t0; have ht1 := hs.t1; have hu := hw.t0; have hu1 := hw.t1
  have s0 := stD_0 s; have s1 := stD_1 s; have s2 := stD_2 s
  have w0 := stD_0 w; have w1 := stD_1 w; have w2 := stD_2 w
  have d0 := dfD_0 a b; have d1 := dfD_1 a b
  unfold bar
  by_cases hlt : w.t < s.t
  · rw [if_pos hlt]
    obtain ⟨e1, e2, e3, e4, e5, e6⟩ := facts w s hw hs (by omega) (by omega)
    rw [← q_int] at e1 e4
    unfold barO
    generalize decide (w.hi + b * ((s.t - w.t : Int) : Rat) < s.lo) = B1 at *
    generalize decide (s.hi < w.lo + a * ((s.t - w.t : Int) : Rat)) = B2 at *
    generalize qD (w.hi + b * ((s.t - w.t : Int) : Rat)) = R1 at *
    generalize qD (w.lo + a * ((s.t - w.t : Int) : Rat)) = R2 at *
    generalize qD (b * ((s.t - w.t : Int) : Rat)) = R3 at *
    generalize qD (a * ((s.t - w.t : Int) : Rat)) = R4 at *
    generalize qD s.lo = R5 at *
    generalize qD s.hi = R6 at *
    generalize qD w.lo = R7 at *
    generalize qD w.hi = R8 at *
    generalize qD a = A at *
    generalize qD b = C at *
    generalize stD s = S at *
    generalize stD w = W at *
    generalize dfD a b = DF at *
    clear facts core
    cases B1 <;> cases B2 <;> simp [s0, s1, s2, w0, w1, w2, d0, d1, hlt, e1, e2, e3, e4, e5, e6, okLen_of (n := 2) (by omega)]
  · rw [if_neg hlt]
    obtain ⟨e1, e2, e3, e4, e5, e6⟩ := facts s w hs hw (by omega) (by omega)
    rw [← q_int] at e1 e4
    unfold barO
    generalize decide (s.hi + b * ((w.t - s.t : Int) : Rat) < w.lo) = B1 at *
    generalize decide (w.hi < s.lo + a * ((w.t - s.t : Int) : Rat)) = B2 at *
    generalize qD (s.hi + b * ((w.t - s.t : Int) : Rat)) = R1 at *
    generalize qD (s.lo + a * ((w.t - s.t : Int) : Rat)) = R2 at *
    generalize qD (b * ((w.t - s.t : Int) : Rat)) = R3 at *
    generalize qD (a * ((w.t - s.t : Int) : Rat)) = R4 at *
    generalize qD s.lo = R5 at *
    generalize qD s.hi = R6 at *
    generalize qD w.lo = R7 at *
    generalize qD w.hi = R8 at *
    generalize qD a = A at *
    generalize qD b = C at *
    generalize stD s = S at *
    generalize stD w = W at *
    generalize dfD a b = DF at *
    clear facts core
    cases B1 <;> cases B2 <;> simp [s0, s1, s2, w0, w1, w2, d0, d1, hlt, e1, e2, e3, e4, e5, e6, okLen_of (n := 2) (by omega)]
theorem agr_of {a b : Rat} {s w : Sp} (h : bar a b s w = false) : Agr a b s w ∨ Agr a b w s := by
  unfold bar at h
  by_cases hlt : w.t < s.t
  · rw [if_pos hlt] at h
    unfold barO at h
    simp only [Bool.or_eq_false_iff, decide_eq_false_iff_not] at h
    exact .inr ⟨by omega, by have := h.1; grind, by have := h.2; grind⟩
  · rw [if_neg hlt] at h
    unfold barO at h
    simp only [Bool.or_eq_false_iff, decide_eq_false_iff_not] at h
    exact .inl ⟨by omega, by have := h.1; grind, by have := h.2; grind⟩
def gm (ms : List Sp) (k : Nat) : Sp := ms.getD k default
theorem gm_mem {ms : List Sp} {k : Nat} (h : k < ms.length) : gm ms k ∈ ms := by
  unfold gm
  rw [List.getD_eq_getElem?_getD, List.getElem?_eq_getElem h]
  exact List.getElem_mem h
theorem ix_m (ms : List Sp) (i : Nat) (h : i < ms.length) : dIx (stsD ms) (.int (i : Int)) = some (stD (gm ms i)) := by
  unfold stsD gm
  rw [d_ix_t, ix_nat _ i (by simpa using h)]
  simp [List.getD_eq_getElem?_getD, List.getElem?_eq_getElem h]
theorem len_m (ms : List Sp) : lenD (stsD ms) = some (.int (ms.length : Int)) := by simp [stsD]
def prD (p : Nat × Nat) : D := .tup [.int (p.1 : Int), .int (p.2 : Int)]
def rowB (a b : Rat) (ms : List Sp) (k : Nat) : List (Nat × Nat) := (List.range (ms.length - (k + 1))).filterMap fun i => if bar a b (gm ms k) (gm ms (k + 1 + i)) then some (k, k + 1 + i) else none
def bars (a b : Rat) (ms : List Sp) : List (Nat × Nat) := (List.range ms.length).flatMap (rowB a b ms)
theorem intsDn (a n : Nat) : intsD (a : Int) n = (List.range n).map fun i : Nat => D.int ((a + i : Nat) : Int) := by
  unfold intsD
  congr 1
theorem lrow_ok {a b : Rat} (hd : OkDf a b) (ms : List Sp) (hz : OkSs ms) (acc : D) (k : Nat) (hk : k < ms.length) :
    lcF (stepLc [4] (gNm 4) t1__law_bars e2__law_bars) ((List.range (ms.length - (k + 1))).map fun i : Nat => D.int ((k + 1 + i : Nat) : Int)) [dfD a b, stsD ms, acc, .int (k : Int), .non] = some ((rowB a b ms k).map prD, [dfD a b, stsD ms, acc, .int (k : Int), .non]) := by
  rw [lc_map (fun i : Nat => D.int ((k + 1 + i : Nat) : Int)) (fun i => if bar a b (gm ms k) (gm ms (k + 1 + i)) then some (prD (k, k + 1 + i)) else none) _ _ fun i hi => by
    have hi := List.mem_range.mp hi
    have e1 := ix_m ms (k + 1 + i) (by omega)
    have e0 := ix_m ms k hk
    obtain ⟨r, e2⟩ := bar_ok hd (hz.2.2 _ (gm_mem hk)) (hz.2.2 _ (gm_mem (ms := ms) (k := k + 1 + i) (by omega)))
    simp only [Int.natCast_add, Int.cast_ofNat_Int] at e1
    generalize bar a b (gm ms k) (gm ms (k + 1 + i)) = B at *
    generalize stD (gm ms (k + 1 + i)) = M2 at *
    generalize stD (gm ms k) = M1 at *
    generalize stsD ms = W at *
    generalize dfD a b = DF at *
    cases B <;> simp [t1__law_bars, e2__law_bars, e0, e1, e2, prD, okLen_of (n := 2) (by omega)]]
  unfold rowB
  rw [List.map_filterMap]
  congr 3
  funext i
  split <;> rfl
theorem row_len (a b : Rat) (ms : List Sp) (k : Nat) : (rowB a b ms k).length ≤ ms.length := by
  unfold rowB
  have := List.length_filterMap_le (fun i => if bar a b (gm ms k) (gm ms (k + 1 + i)) then some (k, k + 1 + i) else none) (List.range (ms.length - (k + 1)))
  rw [List.length_range] at this
  omega
theorem lbars_ok {a b : Rat} (hd : OkDf a b) (ms : List Sp) (hz : OkSs ms) : F__law_bars [dfD a b, stsD ms] = some (.lst ((bars a b ms).map prD), [dfD a b, stsD ms]) := by
  have hn := hz.2.1
  unfold F__law_bars b__law_bars
  rw [v_run2]
  have key := loop_ext (b := stepB (gNm 3) q3__law_bars) (ks := [3]) (fun i : Nat => D.int (i : Int)) (fun acc : List (Nat × Nat) => [dfD a b, stsD ms, .lst (acc.map prD), .non, .non]) (rowB a b ms) 100 100000 (List.range ms.length) []
    (fun k _ => Nat.le_trans (row_len a b ms k) hn) (by simp; omega) fun k hk acc hB => by
    have hk := List.mem_range.mp hk
    have e := fun acc => lrow_ok hd ms hz acc k hk
    have el := len_m ms
    have ei := intsDn (k + 1) (ms.length - (k + 1))
    have e3 : (((ms.length : Int)) - ((k : Int) + 1)).toNat = ms.length - (k + 1) := by omega
    simp only [Int.natCast_add, Int.cast_ofNat_Int] at ei e
    have z1 := s62_of (i := (k : Int) + 1) (by omega) (by omega)
    have z2 := s62_of (i := (ms.length : Int)) (by omega) (by omega)
    have hr := row_len a b ms k
    generalize stsD ms = W at *
    generalize dfD a b = DF at *
    simp [q3__law_bars, el, z1, z2, e3, ei, e, okLen_of (n := ms.length - (k + 1)) (by omega), okLen_of (n := acc.length + (rowB a b ms k).length) (by omega)]
  have el := len_m ms
  have z2 := s62_of (i := (ms.length : Int)) (by omega) (by omega)
  simp only [List.map_nil, List.nil_append] at key
  have eb : (List.range ms.length).flatMap (rowB a b ms) = bars a b ms := rfl
  rw [eb] at key
  generalize stsD ms = W at *
  generalize dfD a b = DF at *
  simp [el, z2, intsD0, okLen_of (n := 0) (by omega), key]
theorem gm_of {ms : List Sp} {s : Sp} (h : s ∈ ms) : ∃ k, k < ms.length ∧ gm ms k = s := by
  obtain ⟨k, hk, e⟩ := List.getElem_of_mem h
  exact ⟨k, hk, by unfold gm; rw [List.getD_eq_getElem?_getD, List.getElem?_eq_getElem hk]; exact e⟩
theorem con_of {a b : Rat} (hd : OkDf a b) {ms : List Sp} (hw : ∀ s ∈ ms, s.lo ≤ s.hi) (h : bars a b ms = []) : Con a b ms := by
  have hb : ∀ k j, k < j → j < ms.length → bar a b (gm ms k) (gm ms j) = false := by
    intro k j hkj hj
    unfold bars at h
    rw [List.flatMap_eq_nil_iff] at h
    have h1 := h k (List.mem_range.mpr (by omega))
    unfold rowB at h1
    rw [List.filterMap_eq_nil_iff] at h1
    have h2 := h1 (j - (k + 1)) (List.mem_range.mpr (by omega))
    rw [show k + 1 + (j - (k + 1)) = j by omega] at h2
    cases hh : bar a b (gm ms k) (gm ms j) with
    | false => rfl
    | true => rw [hh] at h2; simp at h2
  intro s hs w hw' t
  obtain ⟨k, hk, e1⟩ := gm_of hs
  obtain ⟨j, hj, e2⟩ := gm_of hw'
  rcases Nat.lt_trichotomy k j with hlt | heq | hlt
  · have := hb k j hlt hj
    rw [e1, e2] at this
    rcases agr_of this with h | h
    · exact (agr_ok hd h t).1
    · exact (agr_ok hd h t).2
  · subst heq
    rw [e1] at e2
    subst e2
    refine (agr_ok hd (s := s) (w := s) ⟨Int.le_refl _, ?_, ?_⟩ t).1
    · have : s.t - s.t = 0 := by omega
      rw [this]
      have ez : ((0 : Int) : Rat) = 0 := rfl
      rw [ez]
      have := hw s hs
      grind
    · have : s.t - s.t = 0 := by omega
      rw [this]
      have ez : ((0 : Int) : Rat) = 0 := rfl
      rw [ez]
      have := hw s hs
      grind
  · have := hb j k hlt hk
    rw [e1, e2] at this
    rcases agr_of this with h | h
    · exact (agr_ok hd h t).2
    · exact (agr_ok hd h t).1
end K97

namespace K97
open PySem PySem.Spec PyProof.Rows L2 TL
/-! ### rows of fractions, or nothing -/
def oqD : Option Rat → D
  | none => .non
  | some q => qD q
def LD (f : Nat → Option Rat) : D := .lst ((List.range 61).map fun t => oqD (f t))
def upd (f : Nat → Option Rat) (i : Nat) (x : Rat) : Nat → Option Rat := fun t => if t = i then some x else f t
theorem ld_ix (f : Nat → Option Rat) (t : Nat) (h : t < 61) : dIx (LD f) (.int (t : Int)) = some (oqD (f t)) := by
  unfold LD
  rw [d_ix_l, ix_nat _ t (by simpa using h)]
  simp
theorem ld_set (f : Nat → Option Rat) (t : Nat) (x : Rat) (h : t < 61) : setL ((List.range 61).map fun t => oqD (f t)) (t : Int) (qD x) = some ((List.range 61).map fun i => oqD (upd f t x i)) := by
  unfold setL ixN
  rw [List.length_map, List.length_range, if_pos (by omega), if_pos (by omega)]
  simp only [Option.bind_some, Int.toNat_natCast]
  congr 1
  apply List.ext_getElem
  · simp
  · intro i h1 h2
    rw [List.getElem_set]
    simp only [List.getElem_map, List.getElem_range, upd]
    by_cases hi : t = i
    · subst hi; simp [oqD]
    · rw [if_neg hi, if_neg (fun e => hi e.symm)]
theorem non_q (q : Rat) : isNonD (qD q) = false := rfl
def mxO (o : Option Rat) (x : Rat) : Rat := match o with
  | none => x
  | some z => if z < x then x else z
def mnO (o : Option Rat) (x : Rat) : Rat := match o with
  | none => x
  | some z => if x < z then x else z
def sA (f : Nat → Option Rat) (t : Nat) (u : Rat) : Nat → Option Rat := match f t with
  | none => f
  | some y => upd f (t + 1) (mxO (f (t + 1)) (y + u))
def sB (f : Nat → Option Rat) (t : Nat) (v : Rat) : Nat → Option Rat := match f (t + 1) with
  | none => f
  | some y => upd f t (mxO (f t) (y - v))
def hA (f : Nat → Option Rat) (t : Nat) (u : Rat) : Nat → Option Rat := match f t with
  | none => f
  | some y => upd f (t + 1) (mnO (f (t + 1)) (y + u))
def hB (f : Nat → Option Rat) (t : Nat) (v : Rat) : Nat → Option Rat := match f (t + 1) with
  | none => f
  | some y => upd f t (mnO (f t) (y - v))
def Bf (n : Nat) (f : Nat → Option Rat) : Prop := ∀ t q, f t = some q → B n q
theorem Bf.upd {n m : Nat} {f : Nat → Option Rat} (h : Bf n f) {i : Nat} {x : Rat} (hx : B m x) (hm : n ≤ m) : Bf m (upd f i x) := fun t q e => by
  unfold K97.upd at e
  split at e
  · cases e; exact hx
  · exact (h t q e).mono hm
theorem mxO_B {n m : Nat} {o : Option Rat} (h : ∀ q, o = some q → B n q) {x : Rat} (hx : B m x) (hm : n ≤ m) : B m (mxO o x) := by
  unfold mxO
  cases o with
  | none => exact hx
  | some z => simp only; split; exact hx; exact (h z rfl).mono hm
theorem mnO_B {n m : Nat} {o : Option Rat} (h : ∀ q, o = some q → B n q) {x : Rat} (hx : B m x) (hm : n ≤ m) : B m (mnO o x) := by
  unfold mnO
  cases o with
  | none => exact hx
  | some z => simp only; split; exact hx; exact (h z rfl).mono hm
theorem sA_B {n : Nat} {f : Nat → Option Rat} (h : Bf n f) (t : Nat) {u : Rat} (hu : B 1000 u) : Bf (n + 1000) (sA f t u) := by
  unfold sA
  cases e : f t with
  | none => exact fun t q e => (h t q e).mono (by omega)
  | some y => exact h.upd (mxO_B (fun q => h _ q) ((h t y e).add hu) (by omega)) (by omega)
theorem sB_B {n : Nat} {f : Nat → Option Rat} (h : Bf n f) (t : Nat) {u : Rat} (hu : B 1000 u) : Bf (n + 1000) (sB f t u) := by
  unfold sB
  cases e : f (t + 1) with
  | none => exact fun t q e => (h t q e).mono (by omega)
  | some y => exact h.upd (mxO_B (fun q => h _ q) ((h _ y e).sub hu) (by omega)) (by omega)
theorem hA_B {n : Nat} {f : Nat → Option Rat} (h : Bf n f) (t : Nat) {u : Rat} (hu : B 1000 u) : Bf (n + 1000) (hA f t u) := by
  unfold hA
  cases e : f t with
  | none => exact fun t q e => (h t q e).mono (by omega)
  | some y => exact h.upd (mnO_B (fun q => h _ q) ((h t y e).add hu) (by omega)) (by omega)
theorem hB_B {n : Nat} {f : Nat → Option Rat} (h : Bf n f) (t : Nat) {u : Rat} (hu : B 1000 u) : Bf (n + 1000) (hB f t u) := by
  unfold hB
  cases e : f (t + 1) with
  | none => exact fun t q e => (h t q e).mono (by omega)
  | some y => exact h.upd (mnO_B (fun q => h _ q) ((h _ y e).sub hu) (by omega)) (by omega)
def r2_1 : Sf := (sIf (tBl (eBin dIsNot (eBin dIx (eOwn 4) (eVar 6)) (eC .non))) (sKl [9] (sSeq (sAsg (eF (oCall F__law_add (aCons (eBin dIx (eOwn 4) (eVar 6)) (aCons (eBin dIx (eVar 0) (eC (.int 0))) aNil)))) (gNm 9)) (sSetIx 4 (eIf (tOr' (tBl (eBin dIs (eBin dIx (eOwn 4) (eBin dAdd (eVar 6) (eC (.int 1)))) (eC .non))) (tB (eF (oCall F__law_below (aCons (eBin dIx (eOwn 4) (eBin dAdd (eVar 6) (eC (.int 1)))) (aCons (eVar 9) aNil)))))) (eVar 9) (eBin dIx (eOwn 4) (eBin dAdd (eVar 6) (eC (.int 1))))) (eBin dAdd (eVar 6) (eC (.int 1)))))) sNil)
def r2_2 : Sf := (sIf (tBl (eBin dIsNot (eBin dIx (eOwn 5) (eVar 6)) (eC .non))) (sKl [9] (sSeq (sAsg (eF (oCall F__law_add (aCons (eBin dIx (eOwn 5) (eVar 6)) (aCons (eBin dIx (eVar 0) (eC (.int 1))) aNil)))) (gNm 9)) (sSetIx 5 (eIf (tOr' (tBl (eBin dIs (eBin dIx (eOwn 5) (eBin dAdd (eVar 6) (eC (.int 1)))) (eC .non))) (tB (eF (oCall F__law_below (aCons (eVar 9) (aCons (eBin dIx (eOwn 5) (eBin dAdd (eVar 6) (eC (.int 1)))) aNil)))))) (eVar 9) (eBin dIx (eOwn 5) (eBin dAdd (eVar 6) (eC (.int 1))))) (eBin dAdd (eVar 6) (eC (.int 1)))))) sNil)
def r2_3 : Sf := (sIf (tBl (eBin dIsNot (eBin dIx (eOwn 4) (eBin dAdd (eVar 6) (eC (.int 1)))) (eC .non))) (sKl [10] (sSeq (sAsg (eF (oCall F__law_less_by (aCons (eBin dIx (eOwn 4) (eBin dAdd (eVar 6) (eC (.int 1)))) (aCons (eBin dIx (eVar 0) (eC (.int 1))) aNil)))) (gNm 10)) (sSetIx 4 (eIf (tOr' (tBl (eBin dIs (eBin dIx (eOwn 4) (eVar 6)) (eC .non))) (tB (eF (oCall F__law_below (aCons (eBin dIx (eOwn 4) (eVar 6)) (aCons (eVar 10) aNil)))))) (eVar 10) (eBin dIx (eOwn 4) (eVar 6))) (eVar 6)))) sNil)
def r2_4 : Sf := (sIf (tBl (eBin dIsNot (eBin dIx (eOwn 5) (eBin dAdd (eVar 6) (eC (.int 1)))) (eC .non))) (sKl [10] (sSeq (sAsg (eF (oCall F__law_less_by (aCons (eBin dIx (eOwn 5) (eBin dAdd (eVar 6) (eC (.int 1)))) (aCons (eBin dIx (eVar 0) (eC (.int 0))) aNil)))) (gNm 10)) (sSetIx 5 (eIf (tOr' (tBl (eBin dIs (eBin dIx (eOwn 5) (eVar 6)) (eC .non))) (tB (eF (oCall F__law_below (aCons (eVar 10) (aCons (eBin dIx (eOwn 5) (eVar 6)) aNil)))))) (eVar 10) (eBin dIx (eOwn 5) (eVar 6))) (eVar 6)))) sNil)
theorem q2_parts : q2__law_ranges = sSeq r2_1 (sSeq r2_2 (sSeq r2_3 r2_4)) := rfl
theorem r21_ok {a b : Rat} (hd : OkDf a b) (z1 z2 z3 z5 : D) (n : Nat) (hn : n ≤ 900000) (f : Nat → Option Rat) (hf : Bf n f) (t : Nat) (ht : t < 60) :
    r2_1 [dfD a b, z1, z2, z3, LD f, z5, .int (t : Int), .non, .non, .non, .non] = some (.nx [dfD a b, z1, z2, z3, LD (sA f t a), z5, .int (t : Int), .non, .non, .non, .non]) := by
  have i0 := ld_ix f t (by omega)
  have i1 := ld_ix f (t + 1) (by omega)
  have d0 := dfD_0 a b
  simp only [Int.natCast_add, Int.cast_ofNat_Int] at i1
  unfold sA
  cases e : f t with
  | none =>
    rw [e] at i0
    simp only [oqD] at i0
    generalize LD f = L at *
    generalize dfD a b = DF at *
    simp [r2_1, i0]
  | some y =>
    rw [e] at i0
    simp only [oqD] at i0
    have hy := hf t y e
    have e1 := ladd_ok y a (Bq hy (by omega)) (Bq hd.a (by omega))
    have st := fun x => ld_set f (t + 1) x (by omega)
    simp only [Int.natCast_add, Int.cast_ofNat_Int] at st
    simp only
    cases e2 : f (t + 1) with
    | none =>
      rw [e2] at i1
      simp only [oqD] at i1
      have st := st (y + a)
      unfold mxO
      simp only
      unfold LD at *
      generalize ((List.range 61).map fun i => oqD (upd f (t + 1) (y + a) i)) = L2 at *
      generalize ((List.range 61).map fun t => oqD (f t)) = L at *
      have nq := non_q y
      generalize qD (y + a) = R at *
      generalize qD y = Y at *
      generalize qD a = A at *
      generalize dfD a b = DF at *
      simp [r2_1, i0, i1, nq, d0, e1, setIxOf, st, kill, -d_ix_l]
    | some z =>
      rw [e2] at i1
      simp only [oqD] at i1
      have hz := hf (t + 1) z e2
      have e3 := below_ok z (y + a) (Bq hz (by omega)) (Bq (hy.add hd.a) (by omega))
      have nq := non_q y
      have nz := non_q z
      unfold mxO
      simp only
      by_cases hlt : z < y + a
      · rw [if_pos hlt]
        rw [decide_eq_true hlt] at e3
        have st := st (y + a)
        unfold LD at *
        generalize ((List.range 61).map fun i => oqD (upd f (t + 1) (y + a) i)) = L2 at *
        generalize ((List.range 61).map fun t => oqD (f t)) = L at *
        generalize qD (y + a) = R at *
        generalize qD y = Y at *
        generalize qD z = Z at *
        generalize qD a = A at *
        generalize dfD a b = DF at *
        simp [r2_1, i0, i1, nq, nz, d0, e1, e3, setIxOf, st, kill, -d_ix_l]
      · rw [if_neg hlt]
        rw [decide_eq_false hlt] at e3
        have st := st z
        unfold LD at *
        generalize ((List.range 61).map fun i => oqD (upd f (t + 1) z i)) = L2 at *
        generalize ((List.range 61).map fun t => oqD (f t)) = L at *
        generalize qD (y + a) = R at *
        generalize qD y = Y at *
        generalize qD z = Z at *
        generalize qD a = A at *
        generalize dfD a b = DF at *
        simp [r2_1, i0, i1, nq, nz, d0, e1, e3, setIxOf, st, kill, -d_ix_l]
end K97

namespace K97
open PySem PySem.Spec PyProof.Rows L2 TL
theorem r22_ok {a b : Rat} (hd : OkDf a b) (z1 z2 z3 z4 : D) (n : Nat) (hn : n ≤ 900000) (f : Nat → Option Rat) (hf : Bf n f) (t : Nat) (ht : t < 60) :
    r2_2 [dfD a b, z1, z2, z3, z4, LD f, .int (t : Int), .non, .non, .non, .non] = some (.nx [dfD a b, z1, z2, z3, z4, LD (hA f t b), .int (t : Int), .non, .non, .non, .non]) := by
  have i0 := ld_ix f t (by omega)
  have i1 := ld_ix f (t + 1) (by omega)
  have d0 := dfD_1 a b
  simp only [Int.natCast_add, Int.cast_ofNat_Int] at i1
  unfold hA
  cases e : f t with
  | none =>
    rw [e] at i0
    simp only [oqD] at i0
    generalize LD f = L at *
    generalize dfD a b = DF at *
    simp [r2_2, i0, i1]
  | some y =>
    rw [e] at i0
    simp only [oqD] at i0
    have hy := hf t y e
    have e1 := ladd_ok y b (Bq hy (by omega)) (Bq hd.b (by omega))
    have st := fun x => ld_set f (t + 1) x (by omega)
    try simp only [Int.natCast_add, Int.cast_ofNat_Int] at st
    simp only
    cases e2 : f (t + 1) with
    | none =>
      rw [e2] at i1
      simp only [oqD] at i1
      have st := st (y + b)
      unfold mnO
      simp only
      unfold LD at *
      generalize ((List.range 61).map fun i => oqD (upd f (t + 1) (y + b) i)) = L2 at *
      generalize ((List.range 61).map fun t => oqD (f t)) = L at *
      have nq := non_q y
      generalize qD (y + b) = R at *
      generalize qD y = Y at *
      generalize qD b = A at *
      generalize dfD a b = DF at *
      simp [r2_2, i0, i1, nq, d0, e1, setIxOf, st, kill, -d_ix_l]
    | some z =>
      rw [e2] at i1
      simp only [oqD] at i1
      have hz := hf (t + 1) z e2
      have e3 := below_ok (y + b) z (Bq (hy.add hd.b) (by omega)) (Bq hz (by omega))
      have nq := non_q y
      have nz := non_q z
      unfold mnO
      simp only
      by_cases hlt : y + b < z
      · rw [if_pos hlt]
        rw [decide_eq_true hlt] at e3
        have st := st (y + b)
        unfold LD at *
        generalize ((List.range 61).map fun i => oqD (upd f (t + 1) (y + b) i)) = L2 at *
        generalize ((List.range 61).map fun t => oqD (f t)) = L at *
        generalize qD (y + b) = R at *
        generalize qD y = Y at *
        generalize qD z = Z at *
        generalize qD b = A at *
        generalize dfD a b = DF at *
        simp [r2_2, i0, i1, nq, nz, d0, e1, e3, setIxOf, st, kill, -d_ix_l]
      · rw [if_neg hlt]
        rw [decide_eq_false hlt] at e3
        have st := st z
        unfold LD at *
        generalize ((List.range 61).map fun i => oqD (upd f (t + 1) z i)) = L2 at *
        generalize ((List.range 61).map fun t => oqD (f t)) = L at *
        generalize qD (y + b) = R at *
        generalize qD y = Y at *
        generalize qD z = Z at *
        generalize qD b = A at *
        generalize dfD a b = DF at *
        simp [r2_2, i0, i1, nq, nz, d0, e1, e3, setIxOf, st, kill, -d_ix_l]
theorem r23_ok {a b : Rat} (hd : OkDf a b) (z1 z2 z3 z5 : D) (n : Nat) (hn : n ≤ 900000) (f : Nat → Option Rat) (hf : Bf n f) (t : Nat) (ht : t < 60) :
    r2_3 [dfD a b, z1, z2, z3, LD f, z5, .int (t : Int), .non, .non, .non, .non] = some (.nx [dfD a b, z1, z2, z3, LD (sB f t b), z5, .int (t : Int), .non, .non, .non, .non]) := by
  have i0 := ld_ix f t (by omega)
  have i1 := ld_ix f (t + 1) (by omega)
  have d0 := dfD_1 a b
  simp only [Int.natCast_add, Int.cast_ofNat_Int] at i1
  unfold sB
  cases e : f (t + 1) with
  | none =>
    rw [e] at i1
    simp only [oqD] at i1
    generalize LD f = L at *
    generalize dfD a b = DF at *
    simp [r2_3, i0, i1]
  | some y =>
    rw [e] at i1
    simp only [oqD] at i1
    have hy := hf (t + 1) y e
    have e1 := lsub_ok y b (Bq hy (by omega)) (Bq hd.b (by omega))
    have st := fun x => ld_set f t x (by omega)
    try simp only [Int.natCast_add, Int.cast_ofNat_Int] at st
    simp only
    cases e2 : f t with
    | none =>
      rw [e2] at i0
      simp only [oqD] at i0
      have st := st (y - b)
      unfold mxO
      simp only
      unfold LD at *
      generalize ((List.range 61).map fun i => oqD (upd f t (y - b) i)) = L2 at *
      generalize ((List.range 61).map fun t => oqD (f t)) = L at *
      have nq := non_q y
      generalize qD (y - b) = R at *
      generalize qD y = Y at *
      generalize qD b = A at *
      generalize dfD a b = DF at *
      simp [r2_3, i0, i1, nq, d0, e1, setIxOf, st, kill, -d_ix_l]
    | some z =>
      rw [e2] at i0
      simp only [oqD] at i0
      have hz := hf t z e2
      have e3 := below_ok z (y - b) (Bq hz (by omega)) (Bq (hy.sub hd.b) (by omega))
      have nq := non_q y
      have nz := non_q z
      unfold mxO
      simp only
      by_cases hlt : z < y - b
      · rw [if_pos hlt]
        rw [decide_eq_true hlt] at e3
        have st := st (y - b)
        unfold LD at *
        generalize ((List.range 61).map fun i => oqD (upd f t (y - b) i)) = L2 at *
        generalize ((List.range 61).map fun t => oqD (f t)) = L at *
        generalize qD (y - b) = R at *
        generalize qD y = Y at *
        generalize qD z = Z at *
        generalize qD b = A at *
        generalize dfD a b = DF at *
        simp [r2_3, i0, i1, nq, nz, d0, e1, e3, setIxOf, st, kill, -d_ix_l]
      · rw [if_neg hlt]
        rw [decide_eq_false hlt] at e3
        have st := st z
        unfold LD at *
        generalize ((List.range 61).map fun i => oqD (upd f t z i)) = L2 at *
        generalize ((List.range 61).map fun t => oqD (f t)) = L at *
        generalize qD (y - b) = R at *
        generalize qD y = Y at *
        generalize qD z = Z at *
        generalize qD b = A at *
        generalize dfD a b = DF at *
        simp [r2_3, i0, i1, nq, nz, d0, e1, e3, setIxOf, st, kill, -d_ix_l]
theorem r24_ok {a b : Rat} (hd : OkDf a b) (z1 z2 z3 z4 : D) (n : Nat) (hn : n ≤ 900000) (f : Nat → Option Rat) (hf : Bf n f) (t : Nat) (ht : t < 60) :
    r2_4 [dfD a b, z1, z2, z3, z4, LD f, .int (t : Int), .non, .non, .non, .non] = some (.nx [dfD a b, z1, z2, z3, z4, LD (hB f t a), .int (t : Int), .non, .non, .non, .non]) := by
  have i0 := ld_ix f t (by omega)
  have i1 := ld_ix f (t + 1) (by omega)
  have d0 := dfD_0 a b
  simp only [Int.natCast_add, Int.cast_ofNat_Int] at i1
  unfold hB
  cases e : f (t + 1) with
  | none =>
    rw [e] at i1
    simp only [oqD] at i1
    generalize LD f = L at *
    generalize dfD a b = DF at *
    simp [r2_4, i0, i1]
  | some y =>
    rw [e] at i1
    simp only [oqD] at i1
    have hy := hf (t + 1) y e
    have e1 := lsub_ok y a (Bq hy (by omega)) (Bq hd.a (by omega))
    have st := fun x => ld_set f t x (by omega)
    try simp only [Int.natCast_add, Int.cast_ofNat_Int] at st
    simp only
    cases e2 : f t with
    | none =>
      rw [e2] at i0
      simp only [oqD] at i0
      have st := st (y - a)
      unfold mnO
      simp only
      unfold LD at *
      generalize ((List.range 61).map fun i => oqD (upd f t (y - a) i)) = L2 at *
      generalize ((List.range 61).map fun t => oqD (f t)) = L at *
      have nq := non_q y
      generalize qD (y - a) = R at *
      generalize qD y = Y at *
      generalize qD a = A at *
      generalize dfD a b = DF at *
      simp [r2_4, i0, i1, nq, d0, e1, setIxOf, st, kill, -d_ix_l]
    | some z =>
      rw [e2] at i0
      simp only [oqD] at i0
      have hz := hf t z e2
      have e3 := below_ok (y - a) z (Bq (hy.sub hd.a) (by omega)) (Bq hz (by omega))
      have nq := non_q y
      have nz := non_q z
      unfold mnO
      simp only
      by_cases hlt : y - a < z
      · rw [if_pos hlt]
        rw [decide_eq_true hlt] at e3
        have st := st (y - a)
        unfold LD at *
        generalize ((List.range 61).map fun i => oqD (upd f t (y - a) i)) = L2 at *
        generalize ((List.range 61).map fun t => oqD (f t)) = L at *
        generalize qD (y - a) = R at *
        generalize qD y = Y at *
        generalize qD z = Z at *
        generalize qD a = A at *
        generalize dfD a b = DF at *
        simp [r2_4, i0, i1, nq, nz, d0, e1, e3, setIxOf, st, kill, -d_ix_l]
      · rw [if_neg hlt]
        rw [decide_eq_false hlt] at e3
        have st := st z
        unfold LD at *
        generalize ((List.range 61).map fun i => oqD (upd f t z i)) = L2 at *
        generalize ((List.range 61).map fun t => oqD (f t)) = L at *
        generalize qD (y - a) = R at *
        generalize qD y = Y at *
        generalize qD z = Z at *
        generalize qD a = A at *
        generalize dfD a b = DF at *
        simp [r2_4, i0, i1, nq, nz, d0, e1, e3, setIxOf, st, kill, -d_ix_l]
end K97

namespace K97
open PySem PySem.Spec PyProof.Rows L2 TL
/-! ### sweeps: values grow to what the stamps give -/
abbrev Fn := Nat → Option Rat
def Stp (u v : Rat) (f : Fn) (t : Nat) : Fn := sB (sA f t u) t v
def StpH (u v : Rat) (f : Fn) (t : Nat) : Fn := hB (hA f t u) t v
def lb (f : Fn) (t : Nat) (x : Rat) : Prop := ∃ y, f t = some y ∧ x ≤ y
theorem mxO_le (o : Option Rat) (x : Rat) : x ≤ mxO o x ∧ ∀ z, o = some z → z ≤ mxO o x := by
  unfold mxO
  cases o with
  | none => exact ⟨Rat.le_refl, fun z e => by cases e⟩
  | some z =>
    simp only
    by_cases h : z < x
    · rw [if_pos h]; exact ⟨Rat.le_refl, fun w e => by cases e; grind⟩
    · rw [if_neg h]; exact ⟨by grind, fun w e => by cases e; exact Rat.le_refl⟩
theorem mxO_cases (o : Option Rat) (x : Rat) : mxO o x = x ∨ o = some (mxO o x) := by
  unfold mxO
  cases o with
  | none => exact .inl rfl
  | some z => simp only; split; exact .inl rfl; exact .inr rfl
theorem lb_upd {f : Fn} {t i : Nat} {x y : Rat} (h : lb f t x) (hi : ∀ z, f i = some z → z ≤ y) : lb (upd f i y) t x := by
  obtain ⟨z, e, hz⟩ := h
  unfold upd lb
  by_cases hti : t = i
  · subst hti
    exact ⟨y, by simp, by have := hi z e; grind⟩
  · exact ⟨z, by simp [hti, e], hz⟩
theorem lb_sA {f : Fn} {t i : Nat} {x u : Rat} (h : lb f t x) : lb (sA f i u) t x := by
  unfold sA
  cases e : f i with
  | none => exact h
  | some y => exact lb_upd h (mxO_le _ _).2
theorem lb_sB {f : Fn} {t i : Nat} {x u : Rat} (h : lb f t x) : lb (sB f i u) t x := by
  unfold sB
  cases e : f (i + 1) with
  | none => exact h
  | some y => exact lb_upd h (mxO_le _ _).2
theorem lb_stp {u v : Rat} {f : Fn} {t i : Nat} {x : Rat} (h : lb f t x) : lb (Stp u v f i) t x := lb_sB (lb_sA h)
theorem lb_fw {u v : Rat} {f : Fn} {t : Nat} {x : Rat} (h : lb f t x) : lb (Stp u v f t) (t + 1) (x + u) := by
  refine lb_sB ?_
  obtain ⟨y, e, hy⟩ := h
  unfold sA
  rw [e]
  refine ⟨_, by simp [upd]; rfl, ?_⟩
  have := (mxO_le (f (t + 1)) (y + u)).1
  grind
theorem lb_bw {u v : Rat} {f : Fn} {t : Nat} {x : Rat} (h : lb f (t + 1) x) : lb (Stp u v f t) t (x - v) := by
  have h1 : lb (sA f t u) (t + 1) x := lb_sA h
  unfold Stp
  generalize sA f t u = g at *
  obtain ⟨y, e, hy⟩ := h1
  unfold sB
  rw [e]
  refine ⟨_, by simp [upd]; rfl, ?_⟩
  have := (mxO_le (g t) (y - v)).1
  grind
theorem lb_fold {u v : Rat} (l : List Nat) : ∀ {f : Fn} {t : Nat} {x : Rat}, lb f t x → lb (l.foldl (Stp u v) f) t x := by
  induction l with
  | nil => exact fun h => h
  | cons a l ih => exact fun h => ih (lb_stp h)
theorem sweep_fw {u v : Rat} {f : Fn} {a : Nat} {x : Rat} (h : lb f a x) : ∀ (n j : Nat), a + j ≤ n → lb ((List.range n).foldl (Stp u v) f) (a + j) (x + u * (j : Rat)) := by
  have ez : u * (((0 : Nat)) : Rat) = 0 := by
    have : (((0 : Nat)) : Rat) = 0 := rfl
    rw [this]; grind
  intro n
  induction n with
  | zero =>
    intro j hj
    obtain rfl : j = 0 := by omega
    rw [ez]
    have : x + 0 = x := by grind
    rw [this]
    exact h
  | succ n ih =>
    intro j hj
    rw [List.range_succ, List.foldl_append, List.foldl_cons, List.foldl_nil]
    by_cases hle : a + j ≤ n
    · exact lb_stp (ih j hle)
    · cases j with
      | zero =>
        rw [ez]
        have : x + 0 = x := by grind
        rw [this]
        exact lb_stp (lb_fold _ h)
      | succ j =>
        have h1 := ih j (by omega)
        have e : a + (j + 1) = n + 1 := by omega
        have e2 : a + j = n := by omega
        rw [e2] at h1
        rw [e]
        have := lb_fw (u := u) (v := v) h1
        have e3 : ((j + 1 : Nat) : Rat) = (j : Rat) + 1 := by push_cast; rfl
        rw [e3]
        have e4 : x + u * ((j : Rat) + 1) = x + u * (j : Rat) + u := by grind
        rw [e4]
        exact this
theorem sweep_bw {u v : Rat} : ∀ (n : Nat) {f : Fn} {a : Nat} {x : Rat}, lb f a x → a ≤ n → ∀ (j : Nat), j ≤ a → lb ((List.range n).reverse.foldl (Stp u v) f) (a - j) (x - v * (j : Rat)) := by
  have ez : v * (((0 : Nat)) : Rat) = 0 := by
    have : (((0 : Nat)) : Rat) = 0 := rfl
    rw [this]; grind
  intro n
  induction n with
  | zero =>
    intro f a x h ha j hj
    obtain rfl : j = 0 := by omega
    rw [ez]
    have : x - 0 = x := by grind
    rw [this]
    exact h
  | succ n ih =>
    intro f a x h ha j hj
    rw [List.range_succ, List.reverse_append, List.reverse_singleton, List.singleton_append, List.foldl_cons]
    by_cases hle : a ≤ n
    · exact ih (lb_stp h) hle j hj
    · obtain rfl : a = n + 1 := by omega
      cases j with
      | zero =>
        rw [ez]
        have : x - 0 = x := by grind
        rw [this]
        exact lb_fold _ (lb_stp h)
      | succ j =>
        have h1 := ih (lb_bw (u := u) (v := v) h) (Nat.le_refl n) j (by omega)
        have e : n + 1 - (j + 1) = n - j := by omega
        rw [e]
        have e3 : ((j + 1 : Nat) : Rat) = (j : Rat) + 1 := by push_cast; rfl
        rw [e3]
        have e4 : x - v * ((j : Rat) + 1) = x - v - v * (j : Rat) := by grind
        rw [e4]
        exact h1
/-! no value goes beyond -/
theorem upd_some {f : Fn} {i t : Nat} {x y : Rat} (h : upd f i x t = some y) : (t = i ∧ y = x) ∨ f t = some y := by
  unfold upd at h
  by_cases hti : t = i
  · rw [if_pos hti] at h; cases h; exact .inl ⟨hti, rfl⟩
  · rw [if_neg hti] at h; exact .inr h
def Up (c : Nat → Rat → Prop) (f : Fn) : Prop := ∀ t y, f t = some y → c t y
theorem up_stp {c : Nat → Rat → Prop} {u v : Rat} (c1 : ∀ t y, c t y → c (t + 1) (y + u)) (c2 : ∀ t y, c (t + 1) y → c t (y - v)) {f : Fn} (h : Up c f) (t : Nat) : Up c (Stp u v f t) := by
  have h1 : Up c (sA f t u) := by
    unfold sA
    cases e : f t with
    | none => exact h
    | some y =>
      intro i z ez
      rcases upd_some ez with ⟨hi, hz⟩ | ez
      · subst hi
        subst hz
        rcases mxO_cases (f (t + 1)) (y + u) with hc | hc
        · rw [hc]; exact c1 t y (h t y e)
        · exact h _ _ hc
      · exact h i z ez
  unfold Stp
  generalize sA f t u = g at *
  unfold sB
  cases e : g (t + 1) with
  | none => exact h1
  | some y =>
    intro i z ez
    rcases upd_some ez with ⟨hi, hz⟩ | ez
    · subst hi
      subst hz
      rcases mxO_cases (g i) (y - v) with hc | hc
      · rw [hc]; exact c2 i y (h1 _ y e)
      · exact h1 _ _ hc
    · exact h1 i z ez
theorem up_fold {c : Nat → Rat → Prop} {u v : Rat} (c1 : ∀ t y, c t y → c (t + 1) (y + u)) (c2 : ∀ t y, c (t + 1) y → c t (y - v)) (l : List Nat) : ∀ {f : Fn}, Up c f → Up c (l.foldl (Stp u v) f) := by
  induction l with
  | nil => exact fun h => h
  | cons a l ih => exact fun h => ih (up_stp c1 c2 h a)
/-- both sweeps, twice -/
def swp : List Nat := (List.range 60 ++ (List.range 60).reverse) ++ (List.range 60 ++ (List.range 60).reverse)
theorem swp_lb {u v : Rat} {f : Fn} {a : Nat} {x : Rat} (h : lb f a x) (ha : a ≤ 60) (t : Nat) (ht : t ≤ 60) :
    lb (swp.foldl (Stp u v) f) t (x + (if 0 ≤ (t : Int) - (a : Int) then u else v) * (((t : Int) - (a : Int) : Int) : Rat)) := by
  unfold swp
  rw [List.foldl_append]
  refine lb_fold (List.range 60 ++ (List.range 60).reverse) ?_
  rw [List.foldl_append]
  by_cases hle : a ≤ t
  · rw [if_pos (by omega)]
    have := sweep_fw (u := u) (v := v) h 60 (t - a) (by omega)
    rw [show a + (t - a) = t by omega] at this
    have e : ((t - a : Nat) : Rat) = (((t : Int) - (a : Int) : Int) : Rat) := by
      rw [show ((t : Int) - (a : Int)) = ((t - a : Nat) : Int) by omega]; rfl
    rw [e] at this
    exact lb_fold _ this
  · rw [if_neg (by omega)]
    have h1 : lb ((List.range 60).foldl (Stp u v) f) a x := lb_fold _ h
    have := sweep_bw (u := u) (v := v) 60 h1 ha (a - t) (by omega)
    rw [show a - (a - t) = t by omega] at this
    have e : x - v * ((a - t : Nat) : Rat) = x + v * (((t : Int) - (a : Int) : Int) : Rat) := by
      rw [show ((t : Int) - (a : Int)) = -((a - t : Nat) : Int) by omega, Rat.intCast_neg]
      have : (((a - t : Nat) : Int) : Rat) = ((a - t : Nat) : Rat) := rfl
      rw [this]; grind
    rw [e] at this
    exact this
end K97

namespace K97
open PySem PySem.Spec PyProof.Rows L2 TL
/-! ### high values are low ones turned round -/
def nf (f : Fn) : Fn := fun t => (f t).map fun q => -q
theorem nf_upd (f : Fn) (i : Nat) (x : Rat) : nf (upd f i x) = upd (nf f) i (-x) := by
  funext t
  unfold nf upd
  split <;> rfl
theorem neg_mn (o : Option Rat) (x : Rat) : -(mnO o x) = mxO (o.map fun q => -q) (-x) := by
  unfold mnO mxO
  cases o with
  | none => rfl
  | some z =>
    simp only [Option.map_some]
    by_cases h : x < z
    · rw [if_pos h, if_pos (by grind)]
    · rw [if_neg h, if_neg (by grind)]
theorem nf_hA (f : Fn) (t : Nat) (u : Rat) : nf (hA f t u) = sA (nf f) t (-u) := by
  unfold hA sA
  have e1 : nf f t = (f t).map fun q => -q := rfl
  rw [e1]
  cases f t with
  | none => rfl
  | some y =>
    simp only [Option.map_some]
    rw [nf_upd, neg_mn]
    have : -(y + u) = -y + -u := by grind
    rw [this]; rfl
theorem nf_hB (f : Fn) (t : Nat) (u : Rat) : nf (hB f t u) = sB (nf f) t (-u) := by
  unfold hB sB
  have e1 : nf f (t + 1) = (f (t + 1)).map fun q => -q := rfl
  rw [e1]
  cases f (t + 1) with
  | none => rfl
  | some y =>
    simp only [Option.map_some]
    rw [nf_upd, neg_mn]
    have : -(y - u) = -y - -u := by grind
    rw [this]; rfl
theorem nf_stp (u v : Rat) (f : Fn) (t : Nat) : nf (StpH u v f t) = Stp (-u) (-v) (nf f) t := by
  unfold StpH Stp
  rw [nf_hB, nf_hA]
theorem nf_fold (u v : Rat) (l : List Nat) : ∀ f : Fn, nf (l.foldl (StpH u v) f) = l.foldl (Stp (-u) (-v)) (nf f) := by
  induction l with
  | nil => exact fun f => rfl
  | cons a l ih => exact fun f => by rw [List.foldl_cons, List.foldl_cons, ih, nf_stp]
/-! ### what a stamp gives -/
def con (u v x : Rat) (ts t : Int) : Rat := x + (if 0 ≤ t - ts then u else v) * ((t - ts : Int) : Rat)
theorem con_step {u v x : Rat} (h : u ≤ v) (ts t : Int) : con u v x ts t + u ≤ con u v x ts (t + 1) ∧ con u v x ts (t + 1) - v ≤ con u v x ts t := by
  unfold con
  obtain ⟨T, hT⟩ : ∃ T : Int, T = t - ts := ⟨_, rfl⟩
  rw [show t + 1 - ts = T + 1 by omega, ← hT]
  have ec : ((T + 1 : Int) : Rat) = (T : Rat) + 1 := Rat.intCast_add T 1
  by_cases h1 : 0 ≤ T
  · rw [if_pos h1, if_pos (by omega), ec]
    constructor <;> grind
  · rw [if_neg h1]
    by_cases h2 : 0 ≤ T + 1
    · obtain rfl : T = -1 := by omega
      rw [if_pos h2]
      have e1 : (((-1 : Int)) : Rat) = -1 := rfl
      have e2 : (((-1 : Int) + 1 : Int) : Rat) = 0 := rfl
      rw [e1, e2]
      constructor <;> grind
    · rw [if_neg h2, ec]
      constructor <;> grind
theorem low_con (a b : Rat) (s : Sp) (t : Int) : lowBy a b s t = con a b s.lo s.t t := rfl
theorem hig_con (a b : Rat) (s : Sp) (t : Int) : -(higBy a b s t) = con (-b) (-a) (-s.hi) s.t t := by
  unfold higBy con
  split <;> grind
/-- the sweeps end with the greatest -/
theorem swp_end {u v : Rat} (huv : u ≤ v) (xs : List (Nat × Rat)) (f : Fn) (h1 : ∀ p ∈ xs, p.1 ≤ 60 ∧ lb f p.1 p.2) (h2 : ∀ t y, f t = some y → ∃ p ∈ xs, y ≤ con u v p.2 (p.1 : Int) (t : Int)) (hx : xs ≠ []) (t : Nat) (ht : t ≤ 60) :
    ∃ y, swp.foldl (Stp u v) f t = some y ∧ (∀ p ∈ xs, con u v p.2 (p.1 : Int) (t : Int) ≤ y) ∧ ∃ p ∈ xs, y ≤ con u v p.2 (p.1 : Int) (t : Int) := by
  have up := up_fold (c := fun t y => ∃ p ∈ xs, y ≤ con u v p.2 (p.1 : Int) (t : Int)) (u := u) (v := v) (fun t y ⟨p, hp, hy⟩ => ⟨p, hp, by
    have := (con_step (x := p.2) huv (p.1 : Int) (t : Int)).1
    have e : (((t + 1 : Nat)) : Int) = (t : Int) + 1 := by omega
    rw [e]; grind⟩) (fun t y ⟨p, hp, hy⟩ => ⟨p, hp, by
    have := (con_step (x := p.2) huv (p.1 : Int) (t : Int)).2
    have e : (((t + 1 : Nat)) : Int) = (t : Int) + 1 := by omega
    rw [e] at hy; grind⟩) swp h2
  have lo : ∀ p ∈ xs, lb (swp.foldl (Stp u v) f) t (con u v p.2 (p.1 : Int) (t : Int)) := fun p hp => swp_lb (h1 p hp).2 (h1 p hp).1 t ht
  obtain ⟨p0, hp0⟩ := List.exists_mem_of_ne_nil xs hx
  obtain ⟨y, ey, _⟩ := lo p0 hp0
  refine ⟨y, ey, fun p hp => ?_, up t y ey⟩
  obtain ⟨y', ey', hy'⟩ := lo p hp
  rw [ey] at ey'; cases ey'
  exact hy'
/-! ### the first entries -/
def ini (f : Fn) (s : Sp) : Fn := upd f s.t.toNat (mxO (f s.t.toNat) s.lo)
def iniH (f : Fn) (s : Sp) : Fn := upd f s.t.toNat (mnO (f s.t.toNat) s.hi)
theorem nf_ini (f : Fn) (s : Sp) : nf (iniH f s) = upd (nf f) s.t.toNat (mxO (nf f s.t.toNat) (-s.hi)) := by
  unfold iniH
  rw [nf_upd, neg_mn]; rfl
def iniX (f : Fn) (p : Nat × Rat) : Fn := upd f p.1 (mxO (f p.1) p.2)
theorem iniX_ok (u v : Rat) : ∀ (xs done : List (Nat × Rat)) (f : Fn), (∀ p ∈ done, lb f p.1 p.2) → (∀ t y, f t = some y → ∃ p ∈ done, y ≤ con u v p.2 (p.1 : Int) (t : Int)) →
    (∀ p ∈ done ++ xs, lb (xs.foldl iniX f) p.1 p.2) ∧ (∀ t y, xs.foldl iniX f t = some y → ∃ p ∈ done ++ xs, y ≤ con u v p.2 (p.1 : Int) (t : Int))
  | [], done, f, h1, h2 => by simpa using ⟨fun a b => h1 (a, b), fun t y e => by obtain ⟨⟨p1, p2⟩, hp, hy⟩ := h2 t y e; exact ⟨p1, p2, hp, hy⟩⟩
  | x :: xs, done, f, h1, h2 => by
    have k := iniX_ok u v xs (done ++ [x]) (iniX f x) (fun p hp => by
      rcases List.mem_append.mp hp with hp | hp
      · exact lb_upd (h1 p hp) (mxO_le _ _).2
      · obtain rfl : p = x := by simpa using hp
        exact ⟨_, by simp [iniX, upd]; rfl, (mxO_le _ _).1⟩) (fun t y e => by
      rcases upd_some e with ⟨rfl, rfl⟩ | e
      · rcases mxO_cases (f x.1) x.2 with hc | hc
        · rw [hc]
          refine ⟨x, by simp, ?_⟩
          unfold con
          rw [show ((x.1 : Int) - (x.1 : Int)) = 0 by omega]
          have : ((0 : Int) : Rat) = 0 := rfl
          rw [this]; grind
        · obtain ⟨p, hp, hy⟩ := h2 _ _ hc
          exact ⟨p, by simp [hp], hy⟩
      · obtain ⟨p, hp, hy⟩ := h2 _ _ e
        exact ⟨p, by simp [hp], hy⟩)
    simpa using k
end K97

namespace K97
open PySem PySem.Spec PyProof.Rows L2 TL
def r1_1 : Sf := (sSetIx 4 (eIf (tOr' (tBl (eBin dIs (eBin dIx (eOwn 4) (eVar 6)) (eC .non))) (tB (eF (oCall F__law_below (aCons (eBin dIx (eOwn 4) (eVar 6)) (aCons (eVar 7) aNil)))))) (eVar 7) (eBin dIx (eOwn 4) (eVar 6))) (eVar 6))
def r1_2 : Sf := (sSetIx 5 (eIf (tOr' (tBl (eBin dIs (eBin dIx (eOwn 5) (eVar 6)) (eC .non))) (tB (eF (oCall F__law_below (aCons (eVar 8) (aCons (eBin dIx (eOwn 5) (eVar 6)) aNil)))))) (eVar 8) (eBin dIx (eOwn 5) (eVar 6))) (eVar 6))
theorem q1_parts : q1__law_ranges = sSeq r1_1 r1_2 := rfl
theorem r11_ok (z0 z1 z2 z3 z5 z8 : D) (f : Fn) (hf : Bf 100000 f) (x : Rat) (hx : B 100000 x) (t : Nat) (ht : t < 61) :
    r1_1 [z0, z1, z2, z3, LD f, z5, .int (t : Int), qD x, z8, .non, .non] = some (.nx [z0, z1, z2, z3, LD (upd f t (mxO (f t) x)), z5, .int (t : Int), qD x, z8, .non, .non]) := by
  have i0 := ld_ix f t ht
  have st := fun x => ld_set f t x ht
  cases e : f t with
  | none =>
    rw [e] at i0
    simp only [oqD] at i0
    have st := st x
    unfold mxO
    simp only
    unfold LD at *
    generalize ((List.range 61).map fun i => oqD (upd f t x i)) = L2 at *
    generalize ((List.range 61).map fun t => oqD (f t)) = L at *
    generalize qD x = X at *
    simp [r1_1, i0, setIxOf, st, -d_ix_l]
  | some z =>
    rw [e] at i0
    simp only [oqD] at i0
    have hz := hf t z e
    have e3 := below_ok z x (Bq hz (by omega)) (Bq hx (by omega))
    have nz := non_q z
    unfold mxO
    simp only
    by_cases hlt : z < x
    · rw [if_pos hlt]
      rw [decide_eq_true hlt] at e3
      have st := st x
      unfold LD at *
      generalize ((List.range 61).map fun i => oqD (upd f t x i)) = L2 at *
      generalize ((List.range 61).map fun t => oqD (f t)) = L at *
      generalize qD x = X at *
      generalize qD z = Z at *
      simp [r1_1, i0, nz, e3, setIxOf, st, -d_ix_l]
    · rw [if_neg hlt]
      rw [decide_eq_false hlt] at e3
      have st := st z
      unfold LD at *
      generalize ((List.range 61).map fun i => oqD (upd f t z i)) = L2 at *
      generalize ((List.range 61).map fun t => oqD (f t)) = L at *
      generalize qD x = X at *
      generalize qD z = Z at *
      simp [r1_1, i0, nz, e3, setIxOf, st, -d_ix_l]
theorem r12_ok (z0 z1 z2 z3 z4 z7 : D) (f : Fn) (hf : Bf 100000 f) (x : Rat) (hx : B 100000 x) (t : Nat) (ht : t < 61) :
    r1_2 [z0, z1, z2, z3, z4, LD f, .int (t : Int), z7, qD x, .non, .non] = some (.nx [z0, z1, z2, z3, z4, LD (upd f t (mnO (f t) x)), .int (t : Int), z7, qD x, .non, .non]) := by
  have i0 := ld_ix f t ht
  have st := fun x => ld_set f t x ht
  cases e : f t with
  | none =>
    rw [e] at i0
    simp only [oqD] at i0
    have st := st x
    unfold mnO
    simp only
    unfold LD at *
    generalize ((List.range 61).map fun i => oqD (upd f t x i)) = L2 at *
    generalize ((List.range 61).map fun t => oqD (f t)) = L at *
    generalize qD x = X at *
    simp [r1_2, i0, setIxOf, st, -d_ix_l]
  | some z =>
    rw [e] at i0
    simp only [oqD] at i0
    have hz := hf t z e
    have e3 := below_ok x z (Bq hx (by omega)) (Bq hz (by omega))
    have nz := non_q z
    unfold mnO
    simp only
    by_cases hlt : x < z
    · rw [if_pos hlt]
      rw [decide_eq_true hlt] at e3
      have st := st x
      unfold LD at *
      generalize ((List.range 61).map fun i => oqD (upd f t x i)) = L2 at *
      generalize ((List.range 61).map fun t => oqD (f t)) = L at *
      generalize qD x = X at *
      generalize qD z = Z at *
      simp [r1_2, i0, nz, e3, setIxOf, st, -d_ix_l]
    · rw [if_neg hlt]
      rw [decide_eq_false hlt] at e3
      have st := st z
      unfold LD at *
      generalize ((List.range 61).map fun i => oqD (upd f t z i)) = L2 at *
      generalize ((List.range 61).map fun t => oqD (f t)) = L at *
      generalize qD x = X at *
      generalize qD z = Z at *
      simp [r1_2, i0, nz, e3, setIxOf, st, -d_ix_l]
def ini2 (st : Fn × Fn) (s : Sp) : Fn × Fn := (ini st.1 s, iniH st.2 s)
theorem ini_B {f : Fn} (h : Bf 100000 f) {s : Sp} (hs : OkSp s) : Bf 100000 (ini f s) := h.upd (mxO_B (fun q => h _ q) hs.lo (Nat.le_refl _)) (Nat.le_refl _)
theorem iniH_B {f : Fn} (h : Bf 100000 f) {s : Sp} (hs : OkSp s) : Bf 100000 (iniH f s) := h.upd (mnO_B (fun q => h _ q) hs.hi (Nat.le_refl _)) (Nat.le_refl _)
theorem q1_loop (z0 z1 z2 : D) (ss : List Sp) (h : ∀ s ∈ ss, OkSp s) :
    loopF (stepB (gTp (gsCons (gNm 6) (gsCons (gNm 7) (gsCons (gNm 8) gsNil)))) q1__law_ranges) [6, 7, 8] (ss.map stD) [z0, z1, z2, .non, LD (fun _ => none), LD (fun _ => none), .non, .non, .non, .non, .non] =
      some (.nx [z0, z1, z2, .non, LD (ss.foldl ini2 (fun _ => none, fun _ => none)).1, LD (ss.foldl ini2 (fun _ => none, fun _ => none)).2, .non, .non, .non, .non, .non]) ∧ Bf 100000 (ss.foldl ini2 (fun _ => none, fun _ => none)).1 ∧ Bf 100000 (ss.foldl ini2 (fun _ => none, fun _ => none)).2 := by
  have key := loop_all (b := stepB (gTp (gsCons (gNm 6) (gsCons (gNm 7) (gsCons (gNm 8) gsNil)))) q1__law_ranges) (ks := [6, 7, 8]) stD (fun st : Fn × Fn => [z0, z1, z2, .non, LD st.1, LD st.2, .non, .non, .non, .non, .non]) ini2 (fun _ st => Bf 100000 st.1 ∧ Bf 100000 st.2) ss [] (fun _ => none, fun _ => none) ⟨fun _ _ e => (by cases e), fun _ _ e => (by cases e)⟩ fun pre s post eq st hBB => by
    have hs : OkSp s := h s (by rw [List.nil_append] at eq; rw [eq]; simp)
    refine ⟨?_, ini_B hBB.1 hs, iniH_B hBB.2 hs⟩
    have ht0 := hs.t0
    have ht1 := hs.t1
    have et : ((s.t.toNat : Nat) : Int) = s.t := by omega
    have k1 := fun z5 z8 => r11_ok z0 z1 z2 .non z5 z8 st.1 hBB.1 s.lo hs.lo s.t.toNat (by omega)
    have k2 := fun z4 z7 => r12_ok z0 z1 z2 .non z4 z7 st.2 hBB.2 s.hi hs.hi s.t.toNat (by omega)
    rw [et] at k1 k2
    unfold ini2 ini iniH stD
    rw [q1_parts]
    generalize LD (upd st.1 s.t.toNat (mxO (st.1 s.t.toNat) s.lo)) = L2 at *
    generalize LD (upd st.2 s.t.toNat (mnO (st.2 s.t.toNat) s.hi)) = H2 at *
    generalize LD st.1 = L at *
    generalize LD st.2 = H at *
    generalize qD s.lo = X at *
    generalize qD s.hi = Y at *
    simp [k1, k2]
  exact key
/-! the sweeps -/
def stp2 (a b : Rat) (st : Fn × Fn) (t : Nat) : Fn × Fn := (Stp a b st.1 t, StpH b a st.2 t)
theorem q2_loop {a b : Rat} (hd : OkDf a b) (z1 z2 z3 : D) (n : Nat) (hn : n ≤ 500000) (st0 : Fn × Fn) (hBB : Bf n st0.1 ∧ Bf n st0.2) (l : List Nat) (hl : l.length ≤ 120) (h60 : ∀ t ∈ l, t < 60) :
    loopF (stepB (gNm 6) q2__law_ranges) [6, 9, 10] (l.map fun t : Nat => D.int (t : Int)) [dfD a b, z1, z2, z3, LD st0.1, LD st0.2, .non, .non, .non, .non, .non] =
      some (.nx [dfD a b, z1, z2, z3, LD (l.foldl (stp2 a b) st0).1, LD (l.foldl (stp2 a b) st0).2, .non, .non, .non, .non, .non]) ∧ Bf (n + 2000 * l.length) (l.foldl (stp2 a b) st0).1 ∧ Bf (n + 2000 * l.length) (l.foldl (stp2 a b) st0).2 := by
  have key := loop_all (b := stepB (gNm 6) q2__law_ranges) (ks := [6, 9, 10]) (fun t : Nat => D.int (t : Int)) (fun st : Fn × Fn => [dfD a b, z1, z2, z3, LD st.1, LD st.2, .non, .non, .non, .non, .non]) (stp2 a b) (fun pre st => Bf (n + 2000 * pre.length) st.1 ∧ Bf (n + 2000 * pre.length) st.2) l [] st0 hBB fun pre t post eq st hBB => by
    have ht : t < 60 := h60 t (by rw [List.nil_append] at eq; rw [eq]; simp)
    have hp : pre.length ≤ 120 := by
      have := congrArg List.length eq
      simp only [List.nil_append, List.length_append, List.length_cons] at this
      omega
    obtain ⟨hB1, hB2⟩ := hBB
    have f1 := sA_B hB1 t hd.a
    have f2 := hA_B hB2 t hd.b
    have f3 := sB_B f1 t hd.b
    have f4 := hB_B f2 t hd.a
    refine ⟨?_, fun i q e => (f3 i q e).mono (by simp; omega), fun i q e => (f4 i q e).mono (by simp; omega)⟩
    have k1 := fun z5 => r21_ok hd z1 z2 z3 z5 _ (by omega) st.1 hB1 t ht
    have k2 := fun z4 => r22_ok hd z1 z2 z3 z4 _ (by omega) st.2 hB2 t ht
    have k3 := fun z5 => r23_ok hd z1 z2 z3 z5 _ (by omega) _ f1 t ht
    have k4 := fun z4 => r24_ok hd z1 z2 z3 z4 _ (by omega) _ f2 t ht
    unfold stp2 Stp StpH
    rw [q2_parts]
    simp only
    generalize LD (sB (sA st.1 t a) t b) = L3 at *
    generalize LD (hB (hA st.2 t b) t a) = H3 at *
    generalize LD (sA st.1 t a) = L2 at *
    generalize LD (hA st.2 t b) = H2 at *
    generalize LD st.1 = L at *
    generalize LD st.2 = H at *
    generalize dfD a b = DF at *
    simp [k1, k2, k3, k4]
  obtain ⟨k1, k2⟩ := key
  exact ⟨k1, by simpa using k2⟩
end K97

namespace K97
open PySem PySem.Spec PyProof.Rows L2 TL
def RL (a b : Rat) (ss : List Sp) : D := .lst ((List.range 61).map fun t : Nat => qD (lowR a b ss (t : Int)))
def RH (a b : Rat) (ss : List Sp) : D := .lst ((List.range 61).map fun t : Nat => qD (higR a b ss (t : Int)))
def one : List Nat := List.range 60 ++ (List.range 60).reverse
theorem one_D : dAdd (.lst (intsD 0 60)) (.lst (dnsD 59 60)) = some (.lst (one.map fun t : Nat => D.int (t : Int))) := by
  have e1 : intsD 0 60 = (List.range 60).map fun t : Nat => D.int (t : Int) := by
    have := intsDn 0 60
    simpa using this
  have e2 : dnsD 59 60 = (List.range 60).reverse.map fun t : Nat => D.int (t : Int) := by
    unfold dnsD
    apply List.ext_getElem
    · simp
    · intro i h1 h2
      simp at h1
      simp
      omega
  rw [e1, e2]
  simp [one, okLen_of (n := 120) (by omega)]
theorem fold_1 (a b : Rat) (l : List Nat) : ∀ st : Fn × Fn, l.foldl (stp2 a b) st = (l.foldl (Stp a b) st.1, l.foldl (StpH b a) st.2) := by
  induction l with
  | nil => exact fun st => rfl
  | cons x l ih => exact fun st => by rw [List.foldl_cons, ih]; rfl
theorem ini_1 (l : List Sp) : ∀ st : Fn × Fn, l.foldl ini2 st = (l.foldl ini st.1, l.foldl iniH st.2) := by
  induction l with
  | nil => exact fun st => rfl
  | cons x l ih => exact fun st => by rw [List.foldl_cons, ih]; rfl
theorem ini_X (l : List Sp) : ∀ f : Fn, l.foldl ini f = (l.map fun s => (s.t.toNat, s.lo)).foldl iniX f := by
  induction l with
  | nil => exact fun st => rfl
  | cons x l ih => exact fun st => by rw [List.foldl_cons, ih]; rfl
theorem iniH_X (l : List Sp) : ∀ f : Fn, nf (l.foldl iniH f) = (l.map fun s => (s.t.toNat, -s.hi)).foldl iniX (nf f) := by
  induction l with
  | nil => exact fun st => rfl
  | cons x l ih => exact fun st => by rw [List.foldl_cons, ih, nf_ini]; rfl
theorem low_end {a b : Rat} (hd : OkDf a b) {ss : List Sp} (h : OkSs ss) (t : Nat) (ht : t ≤ 60) : swp.foldl (Stp a b) (ss.foldl ini fun _ => none) t = some (lowR a b ss (t : Int)) := by
  have k := iniX_ok a b (ss.map fun s => (s.t.toNat, s.lo)) [] (fun _ => none) (by simp) (by simp)
  rw [← ini_X] at k
  simp only [List.nil_append] at k
  have et : ∀ s ∈ ss, ((s.t.toNat : Nat) : Int) = s.t := fun s hs => by have := (h.2.2 s hs).t0; omega
  obtain ⟨y, e, h1, p, hp, hy⟩ := swp_end hd.le (ss.map fun s => (s.t.toNat, s.lo)) (ss.foldl ini fun _ => none) (fun p hp => ⟨by
    obtain ⟨s, hs, rfl⟩ := List.mem_map.mp hp
    have := (h.2.2 s hs).t1
    simp only; omega, k.1 p hp⟩) k.2 (by simpa using h.1) t ht
  rw [e]
  congr 1
  obtain ⟨⟨s0, hs0, e0⟩, m⟩ := lowR_mem (a := a) (b := b) h.1 (t : Int)
  have g1 := h1 _ (List.mem_map.mpr ⟨s0, hs0, rfl⟩)
  simp only [et s0 hs0] at g1
  rw [← low_con, ← e0] at g1
  obtain ⟨s, hs, rfl⟩ := List.mem_map.mp hp
  simp only [et s hs] at hy
  rw [← low_con] at hy
  have := m s hs
  grind
theorem hig_end {a b : Rat} (hd : OkDf a b) {ss : List Sp} (h : OkSs ss) (t : Nat) (ht : t ≤ 60) : swp.foldl (StpH b a) (ss.foldl iniH fun _ => none) t = some (higR a b ss (t : Int)) := by
  have k := iniX_ok (-b) (-a) (ss.map fun s => (s.t.toNat, -s.hi)) [] (nf fun _ => none) (by simp) (by simp [nf])
  rw [← iniH_X] at k
  simp only [List.nil_append] at k
  have et : ∀ s ∈ ss, ((s.t.toNat : Nat) : Int) = s.t := fun s hs => by have := (h.2.2 s hs).t0; omega
  obtain ⟨y, e, h1, p, hp, hy⟩ := swp_end (u := -b) (v := -a) (by have := hd.le; grind) (ss.map fun s => (s.t.toNat, -s.hi)) (nf (ss.foldl iniH fun _ => none)) (fun p hp => ⟨by
    obtain ⟨s, hs, rfl⟩ := List.mem_map.mp hp
    have := (h.2.2 s hs).t1
    simp only; omega, k.1 p hp⟩) k.2 (by simpa using h.1) t ht
  rw [← nf_fold] at e
  have ey : -y = higR a b ss (t : Int) := by
    obtain ⟨⟨s0, hs0, e0⟩, m⟩ := higR_mem (a := a) (b := b) h.1 (t : Int)
    have g1 := h1 _ (List.mem_map.mpr ⟨s0, hs0, rfl⟩)
    simp only [et s0 hs0] at g1
    rw [← hig_con, ← e0] at g1
    obtain ⟨s, hs, rfl⟩ := List.mem_map.mp hp
    simp only [et s hs] at hy
    rw [← hig_con] at hy
    have := m s hs
    grind
  unfold nf at e
  cases e2 : swp.foldl (StpH b a) (ss.foldl iniH fun _ => none) t with
  | none => rw [e2] at e; cases e
  | some z =>
    rw [e2] at e
    simp only [Option.map_some, Option.some.injEq] at e
    rw [← ey, ← e]
    congr 1
    grind
theorem ranges_ok {a b : Rat} (hd : OkDf a b) {ss : List Sp} (h : OkSs ss) : ∃ r, F__law_ranges [dfD a b, stsD ss, .int 60] = some (.tup [RL a b ss, RH a b ss], r) := by
  unfold F__law_ranges b__law_ranges
  rw [v_run3]
  refine exo ?_
  have hrep : dMulL (.lst [.non]) (.int (60 + 1)) = some ((List.range 61).map fun t => oqD none) := by
    have : (List.range 61).map (fun t : Nat => oqD none) = repL [D.non] 61 := by rfl
    rw [this]
    simp [dMulL, s62_of (i := 61) (by omega) (by omega), okLen_of (n := 61) (by omega)]
  obtain ⟨k1, k2, k3⟩ := q1_loop (dfD a b) (stsD ss) (.int 60) ss h.2.2
  generalize hI : ss.foldl ini2 (fun _ => none, fun _ => none) = I at *
  have o60 : ∀ t ∈ one, t < 60 := fun t ht => by
    unfold one at ht
    rcases List.mem_append.mp ht with ht | ht
    · exact List.mem_range.mp ht
    · exact List.mem_range.mp (List.mem_reverse.mp ht)
  have o120 : one.length = 120 := by simp [one]
  obtain ⟨m1, m2, m3⟩ := q2_loop hd (stsD ss) (.int 60) (.int 0) 100000 (by omega) I ⟨k2, k3⟩ one (by omega) o60
  generalize hJ : one.foldl (stp2 a b) I = J at *
  obtain ⟨n1, n2, n3⟩ := q2_loop hd (stsD ss) (.int 60) (.int 1) (100000 + 2000 * one.length) (by omega) J ⟨m2, m3⟩ one (by omega) o60
  generalize hK : one.foldl (stp2 a b) J = K at *
  have eK : K = (swp.foldl (Stp a b) (ss.foldl ini fun _ => none), swp.foldl (StpH b a) (ss.foldl iniH fun _ => none)) := by
    rw [← hK, ← hJ, ← hI, ini_1, fold_1, fold_1]
    unfold swp
    rw [List.foldl_append, List.foldl_append (f := StpH b a)]
    rfl
  have eL : LD K.1 = RL a b ss := by
    unfold LD RL
    congr 1
    apply List.map_congr_left
    intro t ht
    have := List.mem_range.mp ht
    rw [eK]
    simp only
    rw [low_end hd h t (by omega)]
    rfl
  have eH : LD K.2 = RH a b ss := by
    unfold LD RH
    congr 1
    apply List.map_congr_left
    intro t ht
    have := List.mem_range.mp ht
    rw [eK]
    simp only
    rw [hig_end hd h t (by omega)]
    rfl
  have q3 : ∀ (k : Int) (L H L' H' : D), loopF (stepB (gNm 6) q2__law_ranges) [6, 9, 10] (one.map fun t : Nat => D.int (t : Int)) [dfD a b, stsD ss, .int 60, .int k, L, H, .non, .non, .non, .non, .non] = some (.nx [dfD a b, stsD ss, .int 60, .int k, L', H', .non, .non, .non, .non, .non]) →
      (stepB (gNm 3) q3__law_ranges (.int k) [dfD a b, stsD ss, .int 60, .non, L, H, .non, .non, .non, .non, .non]).bind (nxOf [3, 6, 9, 10]) = some [dfD a b, stsD ss, .int 60, .non, L', H', .non, .non, .non, .non, .non] := by
    intro k L H L' H' e
    have od := one_D
    have eg : ((60 : Int) - 1 - -1).toNat = 60 := rfl
    have hl : (intsD 0 60).length = 60 := by simp
    have hl2 : (dnsD 59 60).length = 60 := by simp [dnsD]
    generalize stsD ss = SS at *
    generalize dfD a b = DF at *
    generalize one.map (fun t : Nat => D.int (t : Int)) = Z at *
    simp [q3__law_ranges, oRg1, oRgDn, s62_of (i := 60) (by omega) (by omega), s62_of (i := 59) (by omega) (by omega), s62_of (i := -1) (by omega) (by omega), okLen_of (n := 60) (by omega), od, e, -d_add_l]
  have p1 := q3 0 _ _ _ _ m1
  have p2 := q3 1 _ _ _ _ n1
  have e2 : intsD 0 2 = [.int 0, .int 1] := rfl
  have ei : seqD (.v (stsD ss)) = some (ss.map stD) := rfl
  have lp : loopF (stepB (gNm 3) q3__law_ranges) [3, 6, 9, 10] (intsD 0 2) [dfD a b, stsD ss, .int 60, .non, LD I.1, LD I.2, .non, .non, .non, .non, .non] = some (.nx [dfD a b, stsD ss, .int 60, .non, LD K.1, LD K.2, .non, .non, .non, .non, .non]) := by
    rw [e2, loop_go p1, loop_go p2]; rfl
  rw [eL, eH] at lp
  have eN : LD (fun _ => none) = .lst ((List.range 61).map fun t => oqD none) := rfl
  rw [eN] at k1
  clear q3 p1 p2 m1 n1
  generalize (List.range 61).map (fun t : Nat => oqD none) = N at *
  generalize RL a b ss = R1 at *
  generalize RH a b ss = R2 at *
  generalize LD I.1 = I1 at *
  generalize LD I.2 = I2 at *
  generalize ss.map stD = SM at *
  generalize stsD ss = SS at *
  generalize dfD a b = DF at *
  simp at hrep
  simp [hrep, ei, k1, lp, s62_of (i := 2) (by omega) (by omega), okLen_of (n := 1) (by omega), okLen_of (n := 2) (by omega)]
end K97

namespace K97
open PySem PySem.Spec PyProof.Rows L2 TL
theorem loop_first {α : Type} {b : D → Rho → Option Out} {ks : List Nat} (emb : α → D) (ρ : Rho) (g : α → Option D) : ∀ (l : List α),
    (∀ a ∈ l, (∀ d, g a = some d → ∃ r, b (emb a) ρ = some (.rt d r)) ∧ (g a = none → (b (emb a) ρ).bind (nxOf ks) = some ρ)) →
    (∀ d, l.findSome? g = some d → ∃ r, loopF b ks (l.map emb) ρ = some (.rt d r)) ∧ (l.findSome? g = none → loopF b ks (l.map emb) ρ = some (.nx ρ))
  | [], h => ⟨fun d e => by simp at e, fun _ => rfl⟩
  | a :: l, h => by
    obtain ⟨h1, h2⟩ := h a (by simp)
    obtain ⟨h3, h4⟩ := loop_first emb ρ g l fun a ha => h a (by simp [ha])
    cases hg : g a with
    | some d =>
      obtain ⟨r, e⟩ := h1 d hg
      refine ⟨fun d' e' => ⟨r, ?_⟩, fun e' => ?_⟩
      · rw [List.findSome?_cons, hg] at e'
        cases e'
        rw [List.map_cons, loop_rt e]
      · rw [List.findSome?_cons, hg] at e'; cases e'
    | none =>
      rw [List.findSome?_cons, hg, List.map_cons, loop_go (h2 hg)]
      exact ⟨h3, h4⟩
/-! ### calendars -/
def bD (b : Bool) : D := .int (if b then 1 else 0)
def tnD (l : List Bool) : D := .tup (l.map bD)
theorem bD_eq (a b : Bool) : dq (bD a) (bD b) = decide (a = b) := by cases a <;> cases b <;> rfl
theorem dqs_b : ∀ l m : List Bool, dqs (l.map bD) (m.map bD) = decide (l = m)
  | [], [] => rfl
  | [], _ :: _ => rfl
  | _ :: _, [] => rfl
  | a :: l, b :: m => by
    rw [List.map_cons, List.map_cons]
    show (dq (bD a) (bD b) && dqs (l.map bD) (m.map bD)) = _
    rw [bD_eq, dqs_b l m]
    cases a <;> cases b <;> simp
theorem tn_ok (l : List Bool) : pyOk 40 (tnD l) = true := by
  unfold tnD pyOk
  rw [List.all_map, List.all_eq_true]
  intro b _
  cases b <;> rfl
theorem tn_eq (l m : List Bool) : dEq (tnD l) (tnD m) = some (.bl (decide (l = m))) := by
  unfold dEq
  rw [tn_ok, tn_ok]
  simp only [Bool.and_self, if_true]
  show some (D.bl (dqs (l.map bD) (m.map bD))) = _
  rw [dqs_b]
def repB (l : List Bool) (k : Nat) : List Bool := (List.replicate k l).flatten
theorem rep_map (l : List Bool) (k : Nat) : repL (l.map bD) k = (repB l k).map bD := by
  unfold repL repB
  rw [List.map_flatten, List.map_replicate]
theorem rep_get (l : List Bool) (h : l ≠ []) : ∀ (k i : Nat), i < l.length * k → (repB l k).getD i false = l.getD (i % l.length) false
  | 0, i, hi => by simp at hi
  | k + 1, i, hi => by
    have hl : 0 < l.length := List.length_pos_iff.mpr h
    have e : repB l (k + 1) = l ++ repB l k := by simp [repB, List.replicate_succ]
    rw [e]
    by_cases hlt : i < l.length
    · rw [List.getD_eq_getElem?_getD, List.getElem?_append_left hlt, Nat.mod_eq_of_lt hlt, List.getD_eq_getElem?_getD]
    · rw [List.getD_eq_getElem?_getD, List.getElem?_append_right (by omega), ← List.getD_eq_getElem?_getD, rep_get l h k (i - l.length) (by rw [Nat.mul_succ] at hi; omega)]
      rw [show i % l.length = (i - l.length) % l.length from Nat.mod_eq_sub_mod (by omega)]
def Turn (l m : List Bool) : Prop := m ≠ [] ∧ m.length ≤ l.length ∧ ∀ t : Nat, m.getD (t % m.length) false = l.getD (t % l.length) false
theorem len_tn (l : List Bool) : lenD (tnD l) = some (.int (l.length : Int)) := by simp [tnD]
theorem tn_take (l : List Bool) (k : Nat) : dSl (tnD l) none (some (k : Int)) = some (tnD (l.take k)) := by
  unfold tnD
  rw [d_sl_t, cut_to _ (k : Int) (by omega), Int.toNat_natCast, ← List.map_take]
theorem tn_ix (l : List Bool) (i : Nat) (h : i < l.length) : dIx (tnD l) (.int (i : Int)) = some (bD (l.getD i false)) := by
  unfold tnD
  rw [d_ix_t, ix_nat _ i (by simpa using h)]
  simp [List.getD_eq_getElem?_getD, List.getElem?_eq_getElem h]
def ltG (l : List Bool) (k : Nat) : Option D := if l.length % (k + 1) = 0 ∧ l = repB (l.take (k + 1)) (l.length / (k + 1)) then some (tnD (l.take (k + 1))) else none
theorem lt_ok (l : List Bool) (h0 : l ≠ []) (hl : l.length ≤ 1000) : ∃ m, Turn l m ∧ ∃ r, F_least_turn [tnD l] = some (tnD m, r) := by
  have hp : 0 < l.length := List.length_pos_iff.mpr h0
  have key := loop_first (b := stepB (gNm 1) q1_least_turn) (ks := [1]) (fun i : Nat => D.int ((1 + i : Nat) : Int)) [tnD l, .non] (ltG l) (List.range (l.length - 1)) fun k hk => by
    have hk := List.mem_range.mp hk
    have eln := len_tn l
    have etk := tn_take l (k + 1)
    have hm : ((1 + k : Nat) : Int) = ((k + 1 : Nat) : Int) := by omega
    have es : sm ((k + 1 : Nat) : Int) = true := sm_of (by omega) (by omega)
    have h1 : (0 : Int) < ((k + 1 : Nat) : Int) := by omega
    have emod : ((l.length : Int)) % ((k + 1 : Nat) : Int) = ((l.length % (k + 1) : Nat) : Int) := by rw [Int.natCast_emod]
    have ediv : ((l.length : Int)) / ((k + 1 : Nat) : Int) = ((l.length / (k + 1) : Nat) : Int) := by rw [Int.natCast_ediv]
    rw [hm]
    by_cases hc : l.length % (k + 1) = 0
    · have hdm := Nat.div_add_mod l.length (k + 1)
      rw [hc] at hdm emod
      have hk2 : 2 ≤ l.length / (k + 1) := by
        generalize l.length / (k + 1) = q at hdm
        match q, hdm with
        | 0, hdm => simp at hdm; omega
        | 1, hdm => simp at hdm; omega
        | q + 2, _ => omega
      have hk3 : l.length / (k + 1) ≤ 1000 := Nat.le_trans (Nat.div_le_self _ _) hl
      have eml : dMul (tnD (l.take (k + 1))) (.int ((l.length / (k + 1) : Nat) : Int)) = some (tnD (repB (l.take (k + 1)) (l.length / (k + 1)))) := by
        unfold tnD
        rw [← rep_map]
        have e0 : ∀ (A : List D) (z : Int), dMul (.tup A) (.int z) = if !A.isEmpty && decide (2 ≤ z) && decide (z ≤ 1000) && decide (A.length ≤ 1000) then some (.tup (repL A z.toNat)) else none := fun _ _ => rfl
        rw [e0, if_pos]
        · rw [Int.toNat_natCast]
        · simp only [Bool.and_eq_true, decide_eq_true_eq, List.length_map, List.length_take]
          refine ⟨⟨⟨?_, by omega⟩, by omega⟩, by omega⟩
          cases l with
          | nil => exact absurd rfl h0
          | cons a r => rfl
      have eeq := tn_eq l (repB (l.take (k + 1)) (l.length / (k + 1)))
      have eg : ltG l k = if l = repB (l.take (k + 1)) (l.length / (k + 1)) then some (tnD (l.take (k + 1))) else none := by
        unfold ltG; simp [hc]
      rw [eg]
      by_cases hq : l = repB (l.take (k + 1)) (l.length / (k + 1))
      · rw [if_pos hq]
        rw [decide_eq_true hq] at eeq
        refine ⟨fun d e => ?_, fun e => (by cases e)⟩
        cases e
        refine ⟨[tnD l, .int ((k + 1 : Nat) : Int)], ?_⟩
        generalize tnD (repB (l.take (k + 1)) (l.length / (k + 1))) = R at *
        generalize tnD (l.take (k + 1)) = TK at *
        generalize tnD l = T at *
        generalize ((l.length / (k + 1) : Nat) : Int) = Q at *
        generalize hKK : ((k + 1 : Nat) : Int) = KK at *
        simp [q1_least_turn, eln, h1, es, emod, ediv, etk, eml, eeq]
      · rw [if_neg hq]
        rw [decide_eq_false hq] at eeq
        refine ⟨fun d e => (by cases e), fun _ => ?_⟩
        generalize tnD (repB (l.take (k + 1)) (l.length / (k + 1))) = R at *
        generalize tnD (l.take (k + 1)) = TK at *
        generalize tnD l = T at *
        generalize ((l.length / (k + 1) : Nat) : Int) = Q at *
        generalize hKK : ((k + 1 : Nat) : Int) = KK at *
        simp [q1_least_turn, eln, h1, es, emod, ediv, etk, eml, eeq]
    · have eg : ltG l k = none := by unfold ltG; simp [hc]
      rw [eg]
      refine ⟨fun d e => (by cases e), fun _ => ?_⟩
      have hc' : ¬ (((l.length % (k + 1) : Nat) : Int) = 0) := by omega
      generalize tnD l = T at *
      generalize hKK : ((k + 1 : Nat) : Int) = KK at *
      generalize ((l.length % (k + 1) : Nat) : Int) = MM at *
      simp [q1_least_turn, eln, h1, es, emod, hc']
  obtain ⟨k1, k2⟩ := key
  have eln := len_tn l
  have z1 := s62_of (i := (l.length : Int)) (by omega) (by omega)
  have z2 := s62_of (i := (1 : Int)) (by omega) (by omega)
  have ei := intsDn 1 (l.length - 1)
  have e3 : ((l.length : Int) - 1).toNat = l.length - 1 := by omega
  simp only [Int.natCast_add, Int.cast_ofNat_Int] at k1 k2 ei
  cases hf : (List.range (l.length - 1)).findSome? (ltG l) with
  | none =>
    refine ⟨l, ⟨h0, Nat.le_refl _, fun _ => rfl⟩, ?_⟩
    have e := k2 hf
    unfold F_least_turn b_least_turn
    rw [v_run1]
    refine exo ?_
    generalize tnD l = T at *
    simp [eln, z1, z2, e3, ei, e]
  | some d =>
    obtain ⟨k, hk, hg⟩ := List.exists_of_findSome?_eq_some hf
    have hk' := List.mem_range.mp hk
    unfold ltG at hg
    split at hg
    · rename_i hc
      cases hg
      obtain ⟨hc1, hc2⟩ := hc
      obtain ⟨r, e⟩ := k1 _ hf
      have hlt : (l.take (k + 1)).length = k + 1 := by rw [List.length_take]; omega
      refine ⟨l.take (k + 1), ⟨?_, by omega, fun t => ?_⟩, ?_⟩
      · intro e; rw [e] at hlt; simp at hlt
      · have hn : l.take (k + 1) ≠ [] := by intro e; rw [e] at hlt; simp at hlt
        have hdm := Nat.div_add_mod l.length (k + 1)
        have hr := rep_get (l.take (k + 1)) hn (l.length / (k + 1)) (t % l.length) (by
          rw [hlt]
          have := Nat.mod_lt t hp
          omega)
        rw [← hc2, hlt] at hr
        rw [hlt, hr, Nat.mod_mod_of_dvd t (Nat.dvd_of_mod_eq_zero hc1)]
      · unfold F_least_turn b_least_turn
        rw [v_run1]
        refine exo ?_
        generalize tnD (l.take (k + 1)) = T2 at *
        generalize tnD l = T at *
        simp [eln, z1, z2, e3, ei, e]
    · cases hg
end K97

namespace K97
open PySem PySem.Spec PyProof.Rows L2 TL
def calD (m : List Bool) : D := .tup [.tup [], tnD m]
/-- a calendar that tells f -/
def Cal (f : Nat → Bool) (d : D) : Prop := ∃ m : List Bool, m ≠ [] ∧ m.length ≤ 1000 ∧ d = calD m ∧ ∀ t : Nat, m.getD (t % m.length) false = f t
theorem flag_ok {f : Nat → Bool} {d : D} (h : Cal f d) (t : Nat) : ∃ r, F_flag_at [d, .int (t : Int)] = some (bD (f t), r) := by
  obtain ⟨m, h0, hl, rfl, hf⟩ := h
  have hp : 0 < m.length := List.length_pos_iff.mpr h0
  unfold F_flag_at b_flag_at
  rw [v_run2]
  refine exo ?_
  have e1 := len_tn m
  have e2 := tn_ix m (t % m.length) (Nat.mod_lt _ hp)
  rw [hf, Int.natCast_emod] at e2
  have es : sm (m.length : Int) = true := sm_of (by omega) (by omega)
  have h1 : (0 : Int) < (m.length : Int) := by omega
  have h2 : ¬ ((t : Int) < 0) := by omega
  unfold calD
  generalize bD (f t) = B at *
  generalize tnD m = T at *
  generalize (m.length : Int) = L at *
  simp [e1, e2, es, h1, h2]
theorem bD_1 (b : Bool) : dEq (bD b) (.int 1) = some (.bl b) := by cases b <;> rfl
theorem bD_0 (b : Bool) : dEq (bD b) (.int 0) = some (.bl (!b)) := by cases b <;> rfl
theorem holds_ok {f : Nat → Bool} {d : D} (h : Cal f d) (t : Nat) : ∃ r, F_holds [d, .int (t : Int)] = some (.bl (f t), r) := by
  obtain ⟨r, e⟩ := flag_ok h t
  unfold F_holds b_holds
  rw [v_run2]
  refine exo ?_
  have e2 := bD_1 (f t)
  generalize bD (f t) = B at *
  simp [e, e2]
theorem cal_ok (l : List Bool) (h0 : l ≠ []) (hl : l.length ≤ 1000) (f : Nat → Bool) (hf : ∀ t : Nat, l.getD (t % l.length) false = f t) : ∃ d, Cal f d ∧ ∃ r, F_calendar_of [.tup [], tnD l] = some (d, r) := by
  obtain ⟨m, ⟨m0, ml, mt⟩, r, e⟩ := lt_ok l h0 hl
  refine ⟨calD m, ⟨m, m0, by omega, rfl, fun t => by rw [mt, hf]⟩, ?_⟩
  unfold F_calendar_of b_calendar_of
  rw [v_run2]
  refine exo ?_
  have hp : 0 < m.length := List.length_pos_iff.mpr m0
  have e1 := len_tn m
  have es : sm (m.length : Int) = true := sm_of (by omega) (by omega)
  have h1 : (0 : Int) < (m.length : Int) := by omega
  have c1 : dSl (tnD m) (some 0) none = some (tnD m) := by
    unfold tnD
    rw [d_sl_t, cut_from _ 0 (by omega)]
    simp
  have c2 : dSl (tnD m) none (some 0) = some (.tup []) := by
    unfold tnD
    rw [d_sl_t, cut_to _ 0 (by omega)]
    simp
  have c3 : dSl (.tup []) none (some 0) = some (.tup []) := by
    rw [d_sl_t, cut_to _ 0 (by omega)]
    simp
  have c4 : dAdd (tnD m) (.tup []) = some (tnD m) := by
    unfold tnD
    rw [d_add_t, if_pos (okLen_of (by simp; omega))]
    simp
  have hw : ∀ (ρ : Rho) (z : D), ρ = [.tup [], z, .int 0, .non] → sWhile nT [] (tAnd' (tBl (eBin dGt (eVar 2) (eC (.int 0)))) (tBl (eBin dEq (eBin dIx (eVar 0) (eBin dSub (eVar 2) (eC (.int 1)))) (eBin dIx (eVar 1) (eBin dMod (eBin dSub (eBin dSub (eVar 2) (eCa (f1 lenD) (aCons (eVar 0) aNil))) (eC (.int 1))) (eCa (f1 lenD) (aCons (eVar 1) aNil))))))) q1_calendar_of ρ = some (.nx ρ) := by
    intro ρ z hρ
    subst hρ
    rw [sWhile_eq]
    obtain ⟨n, hn⟩ : ∃ n, nT = n + 1 := ⟨nT - 1, by decide⟩
    rw [hn]
    exact loopW_end (by simp [kill])
  unfold calD
  have h3 : (0 : Int) % (m.length : Int) = 0 := by simp
  generalize tnD m = T at *
  generalize tnD l = T0 at *
  generalize (m.length : Int) = L at *
  simp [e, hw _ T rfl, e1, es, h1, h3, c1, c2, c3, c4, -d_sl_t, -d_add_t, okLen_of (n := 2) (by omega)]
/-! ### times that come round -/
def rt (p r l : Nat) (t : Nat) : Bool := decide (((t : Int) - (r : Int)) % (p : Int) < (l : Int))
theorem rt_mod (p r l t : Nat) (k : Nat) (hk : p ∣ k) : rt p r l (t % k) = rt p r l t := by
  unfold rt
  congr 2
  have h1 : (p : Int) ∣ ((t % k : Nat) : Int) - (t : Int) := by
    rw [Int.natCast_emod]
    have h2 : (t : Int) % (k : Int) - (t : Int) = -((k : Int) * ((t : Int) / (k : Int))) := by
      have := Int.mul_ediv_add_emod (t : Int) (k : Int); omega
    rw [h2]
    exact Int.dvd_neg.mpr (Int.dvd_mul_of_dvd_left (Int.natCast_dvd_natCast.mpr hk))
  have h3 : (((t % k : Nat) : Int) - (r : Int)) = ((t : Int) - (r : Int)) + (((t % k : Nat) : Int) - (t : Int)) := by omega
  rw [h3]
  obtain ⟨c, hc⟩ := h1
  rw [hc, Int.add_mul_emod_self_left]
theorem range_getD (f : Nat → Bool) (n i : Nat) (h : i < n) : ((List.range n).map f).getD i false = f i := by
  rw [List.getD_eq_getElem?_getD, List.getElem?_map, List.getElem?_range h]; rfl
theorem round_ok (p r l : Nat) (hp : 0 < p) (hp2 : p ≤ 100) : ∃ d, Cal (rt p r l) d ∧ ∃ x, F_round_times [.int (p : Int), .int (r : Int), .int (l : Int)] = some (d, x) := by
  obtain ⟨d, hc, x, e⟩ := cal_ok ((List.range p).map (rt p r l)) (by simp; omega) (by simp; omega) (rt p r l) (fun t => by
    rw [List.length_map, List.length_range, range_getD _ _ _ (Nat.mod_lt t hp)]
    exact rt_mod p r l t p (Nat.dvd_refl p))
  refine ⟨d, hc, ?_⟩
  unfold F_round_times b_round_times
  rw [v_run3]
  refine exo ?_
  have hm : (0 : Int) < (p : Int) := by omega
  have e1 := lc_all (fun t : Nat => D.int (t : Int)) (fun t => bD (rt p r l t)) [.int (p : Int), .int (r : Int), .int (l : Int), .non, .non] (List.range p) (step := stepLc [4] (gNm 4) tYesF e1_round_times) fun t _ => by
    unfold bD rt
    by_cases hlt : ((t : Int) - (r : Int)) % (p : Int) < (l : Int)
    · simp [e1_round_times, hm, hp, hlt, sm_of (i := (p : Int)) (by omega) (by omega)]
    · simp [e1_round_times, hm, hp, hlt, sm_of (i := (p : Int)) (by omega) (by omega)]
  have e2 : (List.range p).map (fun t => bD (rt p r l t)) = ((List.range p).map (rt p r l)).map bD := by rw [List.map_map]; rfl
  rw [e2] at e1
  have e3 : tnD ((List.range p).map (rt p r l)) = .tup (((List.range p).map (rt p r l)).map bD) := rfl
  rw [e3] at e
  have hl : (((List.range p).map (rt p r l)).map bD).length = p := by simp
  have hl2 : ((List.range p).map fun t : Nat => D.int (t : Int)).length = p := by simp
  have e0 : intsD 0 p = (List.range p).map fun t : Nat => D.int (t : Int) := by
    have := intsDn 0 p
    simpa using this
  generalize ((List.range p).map (rt p r l)).map bD = BB at *
  generalize (List.range p).map (fun t : Nat => D.int (t : Int)) = LL at *
  simp [s62_of (i := (p : Int)) (by omega) (by omega), e0, hl2, okLen_of (n := p) (by omega), okLen_of (n := 0) (by omega), e1, hl, e]
structure Stn where
  p : Nat
  r : Nat
  l : Nat
structure Prb where
  p : Nat
  h : Nat
  k : Nat
  ds : List Nat
def snD (s : Stn) : D := .tup [.str "base", .int (s.p : Int), .int (s.r : Int), .int (s.l : Int)]
def pbD (s : Prb) : D := .tup [.str "far", .int (s.p : Int), .int (s.h : Int), .int (s.k : Int), .tup (s.ds.map fun d : Nat => .int (d : Int))]
structure OkSn (s : Stn) : Prop where
  p0 : 0 < s.p
  p1 : s.p ≤ 12
structure OkPb (s : Prb) : Prop where
  p0 : 0 < s.p
  p1 : s.p ≤ 10
  d0 : s.ds ≠ []
  d1 : s.ds.length ≤ 12
def upF (s : Stn) : Nat → Bool := rt s.p s.r s.l
def hiF (s : Prb) : Nat → Bool := rt s.p s.h s.k
def arF (s : Prb) (t : Nat) : Nat := t + s.ds.getD (t % s.ds.length) 0
def teF (s : Stn) (q : Prb) (t : Nat) : Bool := !hiF q t && upF s (arF q t)
theorem up_ok (s : Stn) (h : OkSn s) : ∃ d, Cal (upF s) d ∧ ∃ x, F_up_times [snD s] = some (d, x) := by
  obtain ⟨d, hc, x, e⟩ := round_ok s.p s.r s.l h.p0 (by have := h.p1; omega)
  refine ⟨d, hc, ?_⟩
  unfold F_up_times b_up_times
  rw [v_run1]
  refine exo ?_
  simp [snD, e]
theorem hid_ok (s : Prb) (h : OkPb s) : ∃ d, Cal (hiF s) d ∧ ∃ x, F_hidden_times [pbD s] = some (d, x) := by
  obtain ⟨d, hc, x, e⟩ := round_ok s.p s.h s.k h.p0 (by have := h.p1; omega)
  refine ⟨d, hc, ?_⟩
  unfold F_hidden_times b_hidden_times
  rw [v_run1]
  refine exo ?_
  simp [pbD, e]
theorem pb_4 (s : Prb) : dIx (pbD s) (.int 4) = some (.tup (s.ds.map fun d : Nat => .int (d : Int))) := by rfl
theorem ds_ix (s : Prb) (h : s.ds ≠ []) (t : Nat) : dIx (.tup (s.ds.map fun d : Nat => .int (d : Int))) (.int ((t % s.ds.length : Nat) : Int)) = some (.int ((s.ds.getD (t % s.ds.length) 0 : Nat) : Int)) := by
  have hp := Nat.mod_lt t (List.length_pos_iff.mpr h)
  rw [d_ix_t, ix_nat _ _ (by simpa using hp)]
  simp [List.getD_eq_getElem?_getD, List.getElem?_eq_getElem hp]
theorem arr_ok (s : Prb) (h : OkPb s) (t : Nat) : ∃ x, F_arrival [pbD s, .int (t : Int)] = some (.int (arF s t : Nat), x) := by
  unfold F_arrival b_arrival
  rw [v_run2]
  refine exo ?_
  have e1 := pb_4 s
  have e2 := ds_ix s h.d0 t
  have hl : lenD (.tup (s.ds.map fun d : Nat => D.int (d : Int))) = some (.int (s.ds.length : Int)) := by simp
  have hp : (0 : Int) < (s.ds.length : Int) := by have := List.length_pos_iff.mpr h.d0; omega
  have hs : sm (s.ds.length : Int) = true := sm_of (by have := h.d1; omega) (by have := h.d1; omega)
  rw [Int.natCast_emod] at e2
  unfold arF
  rw [Int.natCast_add]
  generalize ((s.ds.getD (t % s.ds.length) 0 : Nat) : Int) = V at *
  generalize D.tup (s.ds.map fun d : Nat => D.int (d : Int)) = DS at *
  generalize (s.ds.length : Int) = L at *
  generalize pbD s = P at *
  simp [e1, e2, hl, hp, hs]
theorem larr_ok (s : Prb) (h : OkPb s) (t : Nat) : ∃ x, F__law_arrival [pbD s, .int (t : Int)] = some (.int (arF s t : Nat), x) := by
  unfold F__law_arrival b__law_arrival
  rw [v_run2]
  refine exo ?_
  have e1 := pb_4 s
  have e2 := ds_ix s h.d0 t
  have hl : lenD (.tup (s.ds.map fun d : Nat => D.int (d : Int))) = some (.int (s.ds.length : Int)) := by simp
  have hp : (0 : Int) < (s.ds.length : Int) := by have := List.length_pos_iff.mpr h.d0; omega
  have hs : sm (s.ds.length : Int) = true := sm_of (by have := h.d1; omega) (by have := h.d1; omega)
  rw [Int.natCast_emod] at e2
  unfold arF
  rw [Int.natCast_add]
  generalize ((s.ds.getD (t % s.ds.length) 0 : Nat) : Int) = V at *
  generalize D.tup (s.ds.map fun d : Nat => D.int (d : Int)) = DS at *
  generalize (s.ds.length : Int) = L at *
  generalize pbD s = P at *
  simp [e1, e2, hl, hp, hs]
theorem lup_ok (s : Stn) (h : OkSn s) (t : Nat) : ∃ x, F__law_is_up [snD s, .int (t : Int)] = some (.bl (upF s t), x) := by
  unfold F__law_is_up b__law_is_up
  rw [v_run2]
  refine exo ?_
  have h0 := h.p0
  have h1 := h.p1
  simp [snD, upF, rt, h0, sm_of (i := (s.p : Int)) (by omega) (by omega)]
theorem lhid_ok (s : Prb) (h : OkPb s) (t : Nat) : ∃ x, F__law_is_hidden [pbD s, .int (t : Int)] = some (.bl (hiF s t), x) := by
  unfold F__law_is_hidden b__law_is_hidden
  rw [v_run2]
  refine exo ?_
  have h0 := h.p0
  have h1 := h.p1
  simp [pbD, hiF, rt, h0, sm_of (i := (s.p : Int)) (by omega) (by omega)]
theorem ltells_ok (s : Stn) (hs : OkSn s) (q : Prb) (hq : OkPb q) (t : Nat) : ∃ x, F__law_tells [snD s, pbD q, .int (t : Int)] = some (.bl (teF s q t), x) := by
  unfold F__law_tells b__law_tells
  rw [v_run3]
  refine exo ?_
  obtain ⟨x1, e1⟩ := lhid_ok q hq t
  obtain ⟨x2, e2⟩ := larr_ok q hq t
  obtain ⟨x3, e3⟩ := lup_ok s hs (arF q t)
  unfold teF
  generalize hiF q t = H at *
  generalize upF s (arF q t) = U at *
  generalize ((arF q t : Nat) : Int) = A at *
  generalize snD s = S at *
  generalize pbD q = P at *
  cases H <;> simp [e1, e2, e3]
end K97

namespace K97
open PySem PySem.Spec PyProof.Rows L2 TL
/-! ### the times at which a probe can tell -/
def lcN (a b c : Nat) : Nat := (a.lcm b).lcm c
theorem lc_small : ∀ a, a < 13 → ∀ b, b < 11 → ∀ c, c < 13 → lcN a b c ≤ 1000 := by decide +kernel
theorem lc_pos {a b c : Nat} (ha : 0 < a) (hb : 0 < b) (hc : 0 < c) : 0 < lcN a b c := Nat.lcm_pos (Nat.lcm_pos ha hb) hc
theorem turn_ok (s : Stn) (hs : OkSn s) (q : Prb) (hq : OkPb q) : ∃ x, F_sight_turn [snD s, pbD q] = some (.int (lcN s.p q.p q.ds.length : Nat), x) := by
  unfold F_sight_turn b_sight_turn
  rw [v_run2]
  refine exo ?_
  have h1 := hs.p1; have h2 := hq.p1; have h3 := hq.d1
  have e : lcm3D [.int (s.p : Int), .int (q.p : Int), .int (q.ds.length : Int)] = some (.int (lcN s.p q.p q.ds.length : Nat)) := by
    have e0 : ∀ i j k : Int, lcm3D [.int i, .int j, .int k] = if decide (i.natAbs < 1000000) && decide (j.natAbs < 1000000) && decide (k.natAbs < 1000000) then some (.int (((i.natAbs.lcm j.natAbs).lcm k.natAbs : Nat) : Int)) else none := fun _ _ _ => rfl
    rw [e0, if_pos (by simp only [Int.natAbs_natCast, Bool.and_eq_true, decide_eq_true_eq]; omega)]
    simp only [Int.natAbs_natCast]
    rfl
  have e0 : dIx (snD s) (.int 1) = some (.int (s.p : Int)) := by simp [snD]
  have e1 : dIx (pbD q) (.int 1) = some (.int (q.p : Int)) := by simp [pbD]
  have e4 := pb_4 q
  have hl : lenD (.tup (q.ds.map fun d : Nat => D.int (d : Int))) = some (.int (q.ds.length : Int)) := by simp
  generalize D.tup (q.ds.map fun d : Nat => D.int (d : Int)) = DS at *
  generalize (q.ds.length : Int) = L at *
  generalize snD s = S at *
  generalize pbD q = P at *
  simp [e0, e1, e4, hl, e]
theorem te_mod (s : Stn) (hs : OkSn s) (q : Prb) (hq : OkPb q) (t k : Nat) (h1 : s.p ∣ k) (h2 : q.p ∣ k) (h3 : q.ds.length ∣ k) : teF s q (t % k) = teF s q t := by
  unfold teF hiF upF arF
  rw [rt_mod _ _ _ _ _ h2, Nat.mod_mod_of_dvd t h3]
  congr 1
  generalize q.ds.getD (t % q.ds.length) 0 = d
  have e : rt s.p s.r s.l (t % k + d) = rt s.p s.r s.l ((t % k + d) % s.p) := (rt_mod _ _ _ _ _ (Nat.dvd_refl _)).symm
  have e2 : rt s.p s.r s.l (t + d) = rt s.p s.r s.l ((t + d) % s.p) := (rt_mod _ _ _ _ _ (Nat.dvd_refl _)).symm
  rw [e, e2, Nat.add_mod (t % k), Nat.mod_mod_of_dvd t h1, ← Nat.add_mod]
theorem tells_ok (s : Stn) (hs : OkSn s) (q : Prb) (hq : OkPb q) : ∃ d, Cal (teF s q) d ∧ ∃ x, F_tells [snD s, pbD q] = some (d, x) := by
  have hp : 0 < lcN s.p q.p q.ds.length := lc_pos hs.p0 hq.p0 (List.length_pos_iff.mpr hq.d0)
  have h1 := hs.p1; have h2 := hq.p1; have h3 := hq.d1
  have hle := lc_small s.p (by omega) q.p (by omega) q.ds.length (by omega)
  have d1 : s.p ∣ lcN s.p q.p q.ds.length := Nat.dvd_trans (Nat.dvd_lcm_left _ _) (Nat.dvd_lcm_left _ _)
  have d2 : q.p ∣ lcN s.p q.p q.ds.length := Nat.dvd_trans (Nat.dvd_lcm_right _ _) (Nat.dvd_lcm_left _ _)
  have d3 : q.ds.length ∣ lcN s.p q.p q.ds.length := Nat.dvd_lcm_right _ _
  obtain ⟨x4, e4⟩ := turn_ok s hs q hq
  generalize lcN s.p q.p q.ds.length = L at *
  obtain ⟨d, hc, x, e⟩ := cal_ok ((List.range L).map (teF s q)) (by simp; omega) (by simp; omega) (teF s q) (fun t => by
    rw [List.length_map, List.length_range, range_getD _ _ _ (Nat.mod_lt t hp)]
    exact te_mod s hs q hq t L d1 d2 d3)
  refine ⟨d, hc, ?_⟩
  obtain ⟨cu, hcu, xu, eu⟩ := up_ok s hs
  obtain ⟨ch, hch, xh, eh⟩ := hid_ok q hq
  have key := (loop_all (b := stepB (gNm 3) q1_tells) (ks := [3]) (fun t : Nat => D.int (t : Int)) (fun acc : List Bool => [snD s, pbD q, .lst (acc.map bD), .non, cu, ch]) (fun acc t => acc ++ [teF s q t]) (fun pre acc => acc.length = pre.length) (List.range L) [] [] rfl fun pre t post eq acc hacc => by
    have hpl : pre.length < L := (range_pre eq).2
    refine ⟨?_, by simp [hacc]⟩
    obtain ⟨y1, e1⟩ := holds_ok hch t
    obtain ⟨y2, e2⟩ := arr_ok q hq t
    obtain ⟨y3, e3⟩ := holds_ok hcu (arF q t)
    have em : (acc ++ [teF s q t]).map bD = acc.map bD ++ [bD (teF s q t)] := by simp
    have el : (acc.map bD).length = acc.length := by simp
    rw [em]
    have eb : bD (teF s q t) = .int (if (!hiF q t && upF s (arF q t)) then 1 else 0) := rfl
    rw [eb]
    generalize hiF q t = H at *
    generalize upF s (arF q t) = U at *
    generalize ((arF q t : Nat) : Int) = A at *
    generalize acc.map bD = AL at *
    generalize snD s = S at *
    generalize pbD q = P at *
    cases H <;> cases U <;> simp [q1_tells, e1, e2, e3, appOf, el, okLen_of (n := acc.length + 1) (by omega)]).1
  have ef : ∀ (l : List Nat) (acc : List Bool), l.foldl (fun acc t => acc ++ [teF s q t]) acc = acc ++ l.map (teF s q) := by
    intro l
    induction l with
    | nil => intro acc; simp
    | cons a l ih => intro acc; rw [List.foldl_cons, ih]; simp
  rw [ef, List.nil_append] at key
  unfold F_tells b_tells
  rw [v_run2]
  refine exo ?_
  have e3 : tnD ((List.range L).map (teF s q)) = .tup (((List.range L).map (teF s q)).map bD) := rfl
  rw [e3] at e
  simp only [List.map_nil] at key
  have hlen : (((List.range L).map (teF s q)).map bD).length = L := by simp
  have e0 : intsD 0 L = (List.range L).map fun t : Nat => D.int (t : Int) := by
    have := intsDn 0 L
    simpa using this
  generalize ((List.range L).map (teF s q)).map bD = BB at *
  generalize (List.range L).map (fun t : Nat => D.int (t : Int)) = LL at *
  generalize snD s = S at *
  generalize pbD q = P at *
  simp [eu, eh, e4, s62_of (i := (L : Int)) (by omega) (by omega), e0, okLen_of (n := 0) (by omega), key, hlen, e]
/-! ### spans -/
def prN (p : Nat × Nat) : D := .tup [.int (p.1 : Int), .int (p.2 : Int)]
def spStep (f : Nat → Bool) (acc : List (Nat × Nat)) (t : Nat) : List (Nat × Nat) :=
  if f t then (match acc.getLast? with
    | some p => if p.2 + 1 = t then acc.dropLast ++ [(p.1, t)] else acc ++ [(t, t)]
    | none => acc ++ [(t, t)]) else acc
def spansN (f : Nat → Bool) (n : Nat) : List (Nat × Nat) := (List.range n).foldl (spStep f) []
theorem sp_cases (acc : List (Nat × Nat)) : acc = [] ∨ ∃ l p, acc = l ++ [p] := by
  rcases List.eq_nil_or_concat acc with h | ⟨l, p, h⟩
  · exact .inl h
  · exact .inr ⟨l, p, by simpa using h⟩
theorem sp_len (f : Nat → Bool) (acc : List (Nat × Nat)) (t : Nat) : (spStep f acc t).length ≤ acc.length + 1 := by
  unfold spStep
  rcases sp_cases acc with rfl | ⟨l, p, rfl⟩
  · split <;> simp
  · rw [List.getLast?_concat, List.dropLast_concat]
    split
    · simp only
      split <;> simp
    · simp
theorem spans_ok {f : Nat → Bool} {d : D} (hc : Cal f d) : ∃ x, F_spans [d, .int 0, .int 30] = some (.lst ((spansN f 31).map prN), x) := by
  have key := (loop_all (b := stepB (gNm 4) q1_spans) (ks := [4]) (fun t : Nat => D.int (t : Int)) (fun acc : List (Nat × Nat) => [d, .int 0, .int 30, .lst (acc.map prN), .non]) (spStep f) (fun pre acc => acc.length ≤ pre.length) (List.range 31) [] [] (Nat.le_refl _) fun pre t post eq acc hacc => by
    have hpl : pre.length < 31 := (range_pre eq).2
    refine ⟨?_, Nat.le_trans (sp_len f acc t) (by simp; omega)⟩
    obtain ⟨y, e⟩ := flag_ok hc t
    have e0 := bD_0 (f t)
    cases hft : f t with
    | false =>
      rw [hft] at e e0
      have es : spStep f acc t = acc := by unfold spStep; rw [hft]; rfl
      rw [es]
      generalize bD false = B at *
      generalize acc.map prN = A at *
      simp [q1_spans, e, e0]
    | true =>
      rw [hft] at e e0
      rcases sp_cases acc with rfl | ⟨l, p, rfl⟩
      · have es : spStep f [] t = [(t, t)] := by unfold spStep; rw [hft]; rfl
        rw [es]
        generalize bD true = B at *
        simp [q1_spans, e, e0, appOf, prN, okLen_of (n := 1) (by omega), okLen_of (n := 2) (by omega)]
      · have hl1 : l.length + 1 ≤ 31 := by simp at hacc; omega
        have ell : (l.map prN).length = l.length := by simp
        have ix : dIx (.lst (l.map prN ++ [prN p])) (.int (-1)) = some (prN p) := by rw [d_ix_l]; exact ix_snoc _ _
        have em : (l ++ [p]).map prN = l.map prN ++ [prN p] := by simp
        have e1 : dIx (prN p) (.int 1) = some (.int (p.2 : Int)) := by simp [prN]
        have e2 : dIx (prN p) (.int 0) = some (.int (p.1 : Int)) := by simp [prN]
        have tr : truthD (.lst (l.map prN ++ [prN p])) = some true := by simp
        have st := setL_snoc (l.map prN) (prN p)
        have llen : (l.map prN ++ [prN p]).length = l.length + 1 := by simp
        by_cases h : p.2 + 1 = t
        · have es : spStep f (l ++ [p]) t = l ++ [(p.1, t)] := by
            unfold spStep; rw [hft, if_pos rfl, List.getLast?_concat, List.dropLast_concat]; simp [h]
          have hz : (p.2 : Int) = (t : Int) - 1 := by omega
          rw [es, em]
          have em2 : (l ++ [(p.1, t)]).map prN = l.map prN ++ [.tup [.int (p.1 : Int), .int (t : Int)]] := by simp [prN]
          rw [em2]
          generalize prN p = PP at *
          generalize l.map prN = A at *
          generalize bD true = B at *
          simp [q1_spans, e, e0, tr, ix, e1, e2, hz, setIxOf, st, -d_ix_l, okLen_of (n := 2) (by omega)]
        · have es : spStep f (l ++ [p]) t = (l ++ [p]) ++ [(t, t)] := by
            unfold spStep; rw [hft, if_pos rfl, List.getLast?_concat]; simp [h]
          have hz : ¬ (p.2 : Int) = (t : Int) - 1 := by omega
          rw [es, em]
          have em2 : ((l ++ [p]) ++ [(t, t)]).map prN = (l.map prN ++ [prN p]) ++ [.tup [.int (t : Int), .int (t : Int)]] := by simp [prN]
          rw [em2]
          generalize prN p = PP at *
          generalize hA : l.map prN ++ [PP] = A at *
          generalize bD true = B at *
          simp [q1_spans, e, e0, tr, ix, e1, e2, hz, appOf, llen, -d_ix_l, okLen_of (n := 2) (by omega), okLen_of (n := l.length + 1 + 1) (by omega)]).1
  have es : (List.range 31).foldl (spStep f) [] = spansN f 31 := rfl
  rw [es] at key
  unfold F_spans b_spans
  rw [v_run3]
  refine exo ?_
  have e0 : intsD 0 31 = (List.range 31).map fun t : Nat => D.int (t : Int) := by
    have := intsDn 0 31
    simpa using this
  simp only [List.map_nil] at key
  generalize (spansN f 31).map prN = R at *
  generalize (List.range 31).map (fun t : Nat => D.int (t : Int)) = LL at *
  simp [s62_of (i := 0) (by omega) (by omega), s62_of (i := 31) (by omega) (by omega), okLen_of (n := 0) (by omega), e0, key]
end K97

namespace K97
open PySem PySem.Spec PyProof.Rows L2 TL
theorem nxt (ns : List Int) (s : Dr) (h : s.ok) (m : Int) (h0 : 0 < m) (hm : m ≤ 1000000) : ∃ (v : Nat) (s' : Dr), s'.ok ∧ (v : Int) < m ∧ F__law_next [drD ns s, .int m] = some (.int (v : Int), [drD ns s', .int m]) := next_nat ns s h m h0 (by omega)
theorem mk_B (v d c : Nat) (hd : d * c = 60) : B (v * c) (mkRat (v : Int) d) ∧ 0 ≤ mkRat (v : Int) d ∧ (0 < v → 0 < mkRat (v : Int) d) := by
  have hd0 : d ≠ 0 := fun e => by rw [e] at hd; omega
  have e1 : mkRat (v : Int) d = (v : Rat) / (d : Rat) := by
    rw [← Rat.divInt_ofNat, Rat.divInt_eq_div]; rfl
  have e2 : (d : Rat) * (c : Rat) = 60 := by
    have : ((d * c : Nat) : Rat) = ((60 : Nat) : Rat) := by rw [hd]
    push_cast at this
    exact this
  have hdp : (0 : Rat) < (d : Rat) := by exact_mod_cast Nat.pos_of_ne_zero hd0
  have e3 : (v : Rat) / (d : Rat) * (d : Rat) = (v : Rat) := by
    rw [Rat.div_def, Rat.mul_assoc, Rat.mul_comm (d : Rat)⁻¹, Rat.mul_inv_cancel _ (by grind), Rat.mul_one]
  refine ⟨⟨((v * c : Nat) : Int), ?_, by omega, Int.le_refl _⟩, ?_, fun hv => ?_⟩
  · rw [e1, ← e2, ← Rat.mul_assoc, e3]
    push_cast; rfl
  · rw [e1, Rat.div_def]
    exact Rat.mul_nonneg (by exact_mod_cast Nat.zero_le v) (by have := Rat.inv_pos.mpr hdp; grind)
  · rw [e1, Rat.div_def]
    exact Rat.mul_pos (by exact_mod_cast hv) (Rat.inv_pos.mpr hdp)
theorem frac_ok (ns : List Int) (s : Dr) (h : s.ok) (m : Nat) (h0 : 0 < m) (hm : m ≤ 10) : ∃ q s', s'.ok ∧ 0 ≤ q ∧ B (60 * m) q ∧ F__law_fraction [drD ns s, .int (m : Int)] = some (qD q, [drD ns s', .int (m : Int)]) := by
  obtain ⟨v, s1, o1, h1, e1⟩ := nxt ns s h (m : Int) (by omega) (by omega)
  obtain ⟨w, s2, o2, h2, e2⟩ := nxt ns s1 o1 5 (by omega) (by omega)
  obtain ⟨d, c, hd, ix, hc⟩ : ∃ d c : Nat, d * c = 60 ∧ dIx (.lst [.int 1, .int 1, .int 2, .int 3, .int 4]) (.int (w : Int)) = some (.int (d : Int)) ∧ d ≤ 4 := by
    have : w = 0 ∨ w = 1 ∨ w = 2 ∨ w = 3 ∨ w = 4 := by omega
    rcases this with rfl | rfl | rfl | rfl | rfl
    · exact ⟨1, 60, rfl, rfl, by omega⟩
    · exact ⟨1, 60, rfl, rfl, by omega⟩
    · exact ⟨2, 30, rfl, rfl, by omega⟩
    · exact ⟨3, 20, rfl, rfl, by omega⟩
    · exact ⟨4, 15, rfl, rfl, by omega⟩
  obtain ⟨b1, b2, _⟩ := mk_B v d c hd
  have hd0 : 0 < d := Nat.pos_of_ne_zero fun e => by rw [e] at hd; omega
  have hcl : c ≤ 60 := by
    rw [← hd]; exact Nat.le_mul_of_pos_left c hd0
  have e3 := low_ok (v : Int) d hd0 (by omega)
  have hvc : v * c ≤ 60 * m := by
    have := Nat.mul_le_mul (show v ≤ m by omega) hcl
    rw [Nat.mul_comm 60 m]; exact this
  refine ⟨mkRat (v : Int) d, s2, o2, b2, b1.mono hvc, ?_⟩
  unfold F__law_fraction b__law_fraction
  rw [v_run2]
  generalize qD (mkRat (v : Int) d) = R at *
  simp [e1, e2, ix, e3, -d_ix_l, okLen_of (n := 5) (by omega)]
theorem drift_ok (ns : List Int) (s : Dr) (h : s.ok) : ∃ a b s', s'.ok ∧ OkDf a b ∧ F__law_drift [drD ns s] = some (dfD a b, [drD ns s']) := by
  obtain ⟨v, s1, o1, h1, e1⟩ := nxt ns s h 6 (by omega) (by omega)
  obtain ⟨w, s2, o2, h2, e2⟩ := nxt ns s1 o1 3 (by omega) (by omega)
  obtain ⟨q, s3, o3, q0, qb, e3⟩ := frac_ok ns s2 o2 3 (by omega) (by omega)
  obtain ⟨c, hc, hcl⟩ : ∃ c : Nat, (4 + w) * c = 60 ∧ c ≤ 15 := by
    have : w = 0 ∨ w = 1 ∨ w = 2 := by omega
    rcases this with rfl | rfl | rfl
    · exact ⟨15, rfl, by omega⟩
    · exact ⟨12, rfl, by omega⟩
    · exact ⟨10, rfl, by omega⟩
  obtain ⟨b1, b2, b3⟩ := mk_B (1 + v) (4 + w) c hc
  have b3 := b3 (by omega)
  have hb : (1 + v) * c ≤ 90 := by
    have := Nat.mul_le_mul (show 1 + v ≤ 6 by omega) hcl; omega
  have e4 := low_ok ((1 + v : Nat) : Int) (4 + w) (by omega) (by omega)
  have e5 := ladd_ok (mkRat ((1 + v : Nat) : Int) (4 + w)) q (Bq b1 (by omega)) (Bq qb (by omega))
  refine ⟨mkRat ((1 + v : Nat) : Int) (4 + w), mkRat ((1 + v : Nat) : Int) (4 + w) + q, s3, o3, ⟨b3, by grind, b1.mono (by omega), (b1.add qb).mono (by omega)⟩, ?_⟩
  unfold F__law_drift b__law_drift dfD
  rw [v_run1]
  simp only [Int.natCast_add, Int.cast_ofNat_Int] at e4 e5 ⊢
  simp only [Int.cast_ofNat_Int] at e3
  generalize qD (mkRat (1 + (v : Int)) (4 + w) + q) = R2 at *
  generalize qD (mkRat (1 + (v : Int)) (4 + w)) = R at *
  generalize qD q = Q at *
  simp [e1, e2, e3, e4, e5, okLen_of (n := 2) (by omega)]
end K97

namespace K97
open PySem PySem.Spec PyProof.Rows L2 TL
structure GS where
  dr : Dr
  q : Rat
  tm : Nat
  fd : List Sp
structure GI (n : Nat) (g : GS) : Prop where
  ok : g.dr.ok
  q : B (1000 + 4000 * n) g.q
  tm : g.tm ≤ 2 + 4 * n
  len : g.fd.length = n
  sp : ∀ s ∈ g.fd, OkSp s ∧ s.lo ≤ s.hi
def stG (ns : List Int) (a b : Rat) (many : D) (g : GS) : Rho := [drD ns g.dr, dfD a b, many, .non, .non, .non, .lst (g.fd.map stD), qD g.q, .int (g.tm : Int), .non, .non, .non, .non, .non, .non]
theorem q1_step (ns : List Int) {a b : Rat} (hd : OkDf a b) (many : D) (n : Nat) (hn : n < 5) (g : GS) (h : GI n g) (d : D) : ∃ g', (stepB (gNm 3) q1__law_stamps d (stG ns a b many g)).bind (nxOf [3, 9, 10, 11, 12, 13]) = some (stG ns a b many g') ∧ GI (n + 1) g' := by
  obtain ⟨v, s1, o1, h1, e1⟩ := nxt ns g.dr h.ok 5 (by omega) (by omega)
  obtain ⟨w, s2, o2, h2, e2⟩ := nxt ns s1 o1 2 (by omega) (by omega)
  obtain ⟨q1, s3, o3, p1, b1, e3⟩ := frac_ok ns s2 o2 4 (by omega) (by omega)
  obtain ⟨x, s4, o4, h4, e4⟩ := nxt ns s3 o3 2 (by omega) (by omega)
  obtain ⟨q2, s5, o5, p2, b2, e5⟩ := frac_ok ns s4 o4 4 (by omega) (by omega)
  obtain ⟨y, s6, o6, h6, e6⟩ := nxt ns s5 o5 12 (by omega) (by omega)
  obtain ⟨r, hr, ir⟩ : ∃ r, B 1000 r ∧ dIx (dfD a b) (.int (w : Int)) = some (qD r) := by
    have : w = 0 ∨ w = 1 := by omega
    rcases this with rfl | rfl
    · exact ⟨a, hd.a, dfD_0 a b⟩
    · exact ⟨b, hd.b, dfD_1 a b⟩
  have hq := h.q
  have hlen := h.len
  have htm := h.tm
  have k1 := lmul_ok r ((v : Int) : Rat) (Bq hr (by omega)) (Bq (B_int (v : Int) 10 (by omega) (by omega)) (by omega))
  have bm : B 4000 (r * ((v : Int) : Rat)) := (hr.mulInt (v : Int) 4 (by omega) (by omega)).mono (by omega)
  have k2 := ladd_ok g.q (r * ((v : Int) : Rat)) (Bq hq (by omega)) (Bq bm (by omega))
  obtain ⟨q', hq'⟩ : ∃ q', q' = g.q + r * ((v : Int) : Rat) := ⟨_, rfl⟩
  have bq : B (1000 + 4000 * (n + 1)) q' := by rw [hq']; exact (hq.add bm).mono (by omega)
  rw [← hq'] at k2
  have k3 := lsub_ok q' q1 (Bq bq (by omega)) (Bq b1 (by omega))
  have k4 := ladd_ok q' q2 (Bq bq (by omega)) (Bq b2 (by omega))
  have b3 : B 30000 (q' - q1) := (bq.sub b1).mono (by omega)
  have b4 : B 30000 (q' + q2) := (bq.add b2).mono (by omega)
  have bone : B 60 ((1 : Int) : Rat) := B_int 1 1 (by omega) (by omega)
  have k5 := ladd_ok (q' - q1) ((1 : Int) : Rat) (Bq b3 (by omega)) (Bq bone (by omega))
  have k6 := ladd_ok q' ((1 : Int) : Rat) (Bq bq (by omega)) (Bq bone (by omega))
  have k7 := ladd_ok (q' + q2) ((1 : Int) : Rat) (Bq b4 (by omega)) (Bq bone (by omega))
  rw [← q_int] at k1 k5 k6 k7
  have el : (g.fd.map stD).length = n := by simp [hlen]
  have em : ∀ s : Sp, (g.fd ++ [s]).map stD = g.fd.map stD ++ [.tup [.int s.t, qD s.lo, qD s.hi]] := fun s => by simp [stD]
  simp only [Int.cast_ofNat_Int] at e3 e5
  have done : ∀ (lo hi : Rat), B 40000 lo → B 40000 hi → lo ≤ hi → GI (n + 1) ⟨s6, q', g.tm + v, g.fd ++ [⟨((g.tm + v : Nat) : Int), lo, hi⟩]⟩ := fun lo hi hl hh hle => by
    refine ⟨o6, bq, by simp only; omega, by simp [hlen], fun s hs => ?_⟩
    rcases List.mem_append.mp hs with hs | hs
    · exact h.sp s hs
    · obtain rfl : s = ⟨((g.tm + v : Nat) : Int), lo, hi⟩ := by simpa using hs
      exact ⟨⟨by simp only; omega, by simp only; omega, hl.mono (by omega), hh.mono (by omega)⟩, hle⟩
  have eone : ((1 : Int) : Rat) = 1 := rfl
  by_cases hx : x = 0 <;> by_cases hy : y = 0
  · refine ⟨⟨s6, q', g.tm + v, g.fd ++ [⟨((g.tm + v : Nat) : Int), q' - q1 + ((1 : Int) : Rat), q' + q2 + ((1 : Int) : Rat)⟩]⟩, ?_, done _ _ ((b3.add bone).mono (by omega)) ((b4.add bone).mono (by omega)) (by grind)⟩
    subst hx; subst hy
    simp only [Int.cast_ofNat_Int] at e4 e6
    unfold stG
    simp only [em]
    generalize qD (q' - q1 + ((1 : Int) : Rat)) = R1 at *
    generalize qD (q' + q2 + ((1 : Int) : Rat)) = R2 at *
    generalize qD (q' + ((1 : Int) : Rat)) = R3 at *
    generalize qD (q' - q1) = R4 at *
    generalize qD (q' + q2) = R5 at *
    generalize qD (r * ((v : Int) : Rat)) = R6 at *
    generalize qD q' = Q' at *
    generalize qD g.q = Q at *
    generalize qD q1 = Q1 at *
    generalize qD q2 = Q2 at *
    generalize qD r = RR at *
    generalize dfD a b = DF at *
    generalize g.fd.map stD = FD at *
    simp [q1__law_stamps, e1, e2, e3, e4, e5, e6, ir, k1, k2, k3, k4, k5, k6, k7, appOf, el, okLen_of (n := 2) (by omega), okLen_of (n := 3) (by omega), okLen_of (n := n + 1) (by omega)]
  · refine ⟨⟨s6, q', g.tm + v, g.fd ++ [⟨((g.tm + v : Nat) : Int), q' - q1, q' + q2⟩]⟩, ?_, done _ _ (b3.mono (by omega)) (b4.mono (by omega)) (by grind)⟩
    subst hx
    simp only [Int.cast_ofNat_Int] at e4
    unfold stG
    simp only [em]
    generalize qD (q' - q1 + ((1 : Int) : Rat)) = R1 at *
    generalize qD (q' + q2 + ((1 : Int) : Rat)) = R2 at *
    generalize qD (q' + ((1 : Int) : Rat)) = R3 at *
    generalize qD (q' - q1) = R4 at *
    generalize qD (q' + q2) = R5 at *
    generalize qD (r * ((v : Int) : Rat)) = R6 at *
    generalize qD q' = Q' at *
    generalize qD g.q = Q at *
    generalize qD q1 = Q1 at *
    generalize qD q2 = Q2 at *
    generalize qD r = RR at *
    generalize dfD a b = DF at *
    generalize g.fd.map stD = FD at *
    simp [q1__law_stamps, e1, e2, e3, e4, e5, e6, hy, ir, k1, k2, k3, k4, k5, k6, k7, appOf, el, okLen_of (n := 2) (by omega), okLen_of (n := 3) (by omega), okLen_of (n := n + 1) (by omega)]
  · refine ⟨⟨s6, q', g.tm + v, g.fd ++ [⟨((g.tm + v : Nat) : Int), q' + ((1 : Int) : Rat), q' + q2 + ((1 : Int) : Rat)⟩]⟩, ?_, done _ _ ((bq.add bone).mono (by omega)) ((b4.add bone).mono (by omega)) (by grind)⟩
    subst hy
    simp only [Int.cast_ofNat_Int] at e6
    unfold stG
    simp only [em]
    generalize qD (q' - q1 + ((1 : Int) : Rat)) = R1 at *
    generalize qD (q' + q2 + ((1 : Int) : Rat)) = R2 at *
    generalize qD (q' + ((1 : Int) : Rat)) = R3 at *
    generalize qD (q' - q1) = R4 at *
    generalize qD (q' + q2) = R5 at *
    generalize qD (r * ((v : Int) : Rat)) = R6 at *
    generalize qD q' = Q' at *
    generalize qD g.q = Q at *
    generalize qD q1 = Q1 at *
    generalize qD q2 = Q2 at *
    generalize qD r = RR at *
    generalize dfD a b = DF at *
    generalize g.fd.map stD = FD at *
    simp [q1__law_stamps, e1, e2, e3, e4, e5, e6, hx, ir, k1, k2, k3, k4, k5, k6, k7, appOf, el, okLen_of (n := 2) (by omega), okLen_of (n := 3) (by omega), okLen_of (n := n + 1) (by omega)]
  · refine ⟨⟨s6, q', g.tm + v, g.fd ++ [⟨((g.tm + v : Nat) : Int), q', q' + q2⟩]⟩, ?_, done _ _ (bq.mono (by omega)) (b4.mono (by omega)) (by grind)⟩
    unfold stG
    simp only [em]
    generalize qD (q' - q1 + ((1 : Int) : Rat)) = R1 at *
    generalize qD (q' + q2 + ((1 : Int) : Rat)) = R2 at *
    generalize qD (q' + ((1 : Int) : Rat)) = R3 at *
    generalize qD (q' - q1) = R4 at *
    generalize qD (q' + q2) = R5 at *
    generalize qD (r * ((v : Int) : Rat)) = R6 at *
    generalize qD q' = Q' at *
    generalize qD g.q = Q at *
    generalize qD q1 = Q1 at *
    generalize qD q2 = Q2 at *
    generalize qD r = RR at *
    generalize dfD a b = DF at *
    generalize g.fd.map stD = FD at *
    simp [q1__law_stamps, e1, e2, e3, e4, e5, e6, hx, hy, ir, k1, k2, k3, k4, k5, k6, k7, appOf, el, okLen_of (n := 2) (by omega), okLen_of (n := 3) (by omega), okLen_of (n := n + 1) (by omega)]
/-! ### mixing -/
def stM (ns : List Int) (z1 z2 z3 z6 z7 z8 z9 z10 z11 z12 z13 : D) (g : Dr × List Sp) : Rho := [drD ns g.1, z1, z2, z3, .lst (g.2.map stD), .non, z6, z7, z8, z9, z10, z11, z12, z13, .non]
theorem q2_step (ns : List Int) (z1 z2 z3 z6 z7 z8 z9 z10 z11 z12 z13 : D) (g : Dr × List Sp) (m : Sp) (ho : g.1.ok) (hl : g.2.length ≤ 100) : ∃ g' : Dr × List Sp, (stepB (gNm 5) q2__law_stamps (stD m) (stM ns z1 z2 z3 z6 z7 z8 z9 z10 z11 z12 z13 g)).bind (nxOf [5, 14]) = some (stM ns z1 z2 z3 z6 z7 z8 z9 z10 z11 z12 z13 g') ∧ g'.1.ok ∧ g'.2.length = g.2.length + 1 ∧ ∀ x ∈ g'.2, x = m ∨ x ∈ g.2 := by
  obtain ⟨v, s1, o1, h1, e1⟩ := nxt ns g.1 ho ((g.2.length : Int) + 1) (by omega) (by omega)
  have c1 := cut_to (g.2.map stD) (v : Int) (by omega)
  have c2 := cut_from (g.2.map stD) (v : Int) (by omega)
  rw [Int.toNat_natCast, ← List.map_take] at c1
  rw [Int.toNat_natCast, ← List.map_drop] at c2
  refine ⟨(s1, g.2.take v ++ [m] ++ g.2.drop v), ?_, o1, ?_, ?_⟩
  · have el : (g.2.map stD).length = g.2.length := by simp
    have l1 : ((g.2.take v).map stD).length = v := by rw [List.length_map, List.length_take]; omega
    have l2 : ((g.2.drop v).map stD).length = g.2.length - v := by rw [List.length_map, List.length_drop]
    have ee : (g.2.take v ++ [m] ++ g.2.drop v).map stD = (g.2.take v).map stD ++ ([stD m] ++ (g.2.drop v).map stD) := by simp
    unfold stM
    simp only
    rw [ee]
    generalize (g.2.take v).map stD = A at *
    generalize (g.2.drop v).map stD = B at *
    generalize g.2.map stD = L at *
    generalize stD m = M at *
    simp [q2__law_stamps, el, e1, c1, c2, okLen_of (n := 1) (by omega), l1, l2, okLen_of (n := v + 1) (by omega), okLen_of (n := v + 1 + (g.2.length - v)) (by omega)]
  · simp only [List.length_append, List.length_take, List.length_drop, List.length_singleton]
    omega
  · intro x hx
    simp only [List.mem_append, List.mem_singleton] at hx
    rcases hx with (hx | hx) | hx
    · exact .inr (List.mem_of_mem_take hx)
    · exact .inl hx
    · exact .inr (List.mem_of_mem_drop hx)
theorem stamps_ok (ns : List Int) {a b : Rat} (hd : OkDf a b) (n : Nat) (hn : n ≤ 5) (dr : Dr) (ho : dr.ok) : ∃ ms dr', dr'.ok ∧ ms.length = n ∧ (∀ s ∈ ms, OkSp s ∧ s.lo ≤ s.hi) ∧ F__law_stamps [drD ns dr, dfD a b, .int (n : Int)] = some (stsD ms, [drD ns dr', dfD a b, .int (n : Int)]) := by
  obtain ⟨q0, s1, o1, p1, b1, e1⟩ := frac_ok ns dr ho 9 (by omega) (by omega)
  obtain ⟨v, s2, o2, h2, e2⟩ := nxt ns s1 o1 3 (by omega) (by omega)
  obtain ⟨g, eg, hg⟩ := loop_inv (b := stepB (gNm 3) q1__law_stamps) (ks := [3, 9, 10, 11, 12, 13]) (fun i : Nat => D.int (i : Int)) (stG ns a b (.int (n : Int))) (fun pre g => GI pre.length g) (List.range n) [] ⟨s2, q0, v, []⟩
    ⟨o2, b1.mono (by simp), by simp; omega, rfl, fun a ha => by simp at ha⟩ fun pre a' post eq g h => by
      obtain ⟨ea, hp⟩ := range_pre eq
      obtain ⟨g', e', h'⟩ := q1_step ns hd (.int (n : Int)) pre.length (by omega) g h (.int (a' : Int))
      exact ⟨g', e', by simpa using h'⟩
  simp only [List.nil_append, List.length_range] at hg
  obtain ⟨m, em, hm⟩ := loop_inv (b := stepB (gNm 5) q2__law_stamps) (ks := [5, 14]) stD (stM ns (dfD a b) (.int (n : Int)) .non (.lst (g.fd.map stD)) (qD g.q) (.int (g.tm : Int)) .non .non .non .non .non) (fun pre q => q.1.ok ∧ q.2.length = pre.length ∧ ∀ x ∈ q.2, x ∈ pre) g.fd [] (g.dr, [])
    ⟨hg.ok, rfl, by simp⟩ fun pre a' post eq q ⟨k1, k2, k3⟩ => by
      have hpl : pre.length ≤ n := by
        have := congrArg List.length eq
        simp at this
        have := hg.len
        omega
      obtain ⟨q', e', a1, a2, a3⟩ := q2_step ns (dfD a b) (.int (n : Int)) .non (.lst (g.fd.map stD)) (qD g.q) (.int (g.tm : Int)) .non .non .non .non .non q a' k1 (by omega)
      refine ⟨q', e', a1, by rw [a2, k2]; simp, fun x hx => ?_⟩
      rcases a3 x hx with h | h
      · simp [h]
      · simp [k3 x h]
  obtain ⟨m1, m2, m3⟩ := hm
  simp only [List.nil_append] at m2 m3
  have hlen := hg.len
  refine ⟨m.2, m.1, m1, by omega, fun x hx => hg.sp x (m3 x hx), ?_⟩
  unfold F__law_stamps b__law_stamps
  rw [v_run3]
  have z1 := s62_of (i := (n : Int)) (by omega) (by omega)
  have hs0 : stG ns a b (.int (n : Int)) ⟨s2, q0, v, []⟩ = [drD ns s2, dfD a b, .int (n : Int), .non, .non, .non, .lst [], qD q0, .int (v : Int), .non, .non, .non, .non, .non, .non] := rfl
  have hs1 : stG ns a b (.int (n : Int)) g = [drD ns g.dr, dfD a b, .int (n : Int), .non, .non, .non, .lst (g.fd.map stD), qD g.q, .int (g.tm : Int), .non, .non, .non, .non, .non, .non] := rfl
  have hs2 : stM ns (dfD a b) (.int (n : Int)) .non (.lst (g.fd.map stD)) (qD g.q) (.int (g.tm : Int)) .non .non .non .non .non (g.dr, []) = [drD ns g.dr, dfD a b, .int (n : Int), .non, .lst [], .non, .lst (g.fd.map stD), qD g.q, .int (g.tm : Int), .non, .non, .non, .non, .non, .non] := rfl
  have hs3 : stM ns (dfD a b) (.int (n : Int)) .non (.lst (g.fd.map stD)) (qD g.q) (.int (g.tm : Int)) .non .non .non .non .non m = [drD ns m.1, dfD a b, .int (n : Int), .non, .lst (m.2.map stD), .non, .lst (g.fd.map stD), qD g.q, .int (g.tm : Int), .non, .non, .non, .non, .non, .non] := rfl
  rw [hs0, hs1] at eg
  rw [hs2, hs3] at em
  have et : stsD m.2 = .tup (m.2.map stD) := rfl
  rw [et]
  simp only [Int.cast_ofNat_Int] at e1
  generalize g.fd.map stD = FD at *
  generalize m.2.map stD = MD at *
  generalize qD q0 = Q0 at *
  generalize qD g.q = Q at *
  generalize dfD a b = DF at *
  simp [e1, e2, okLen_of (n := 0) (by omega), z1, intsD0, eg, em]
end K97

namespace K97
open PySem PySem.Spec PyProof.Rows L2 TL
theorem station_ok (ns : List Int) (dr : Dr) (ho : dr.ok) : ∃ s dr', dr'.ok ∧ OkSn s ∧ F__law_station [drD ns dr, .str "base"] = some (snD s, [drD ns dr', .str "base"]) := by
  obtain ⟨v1, s1, o1, h1, e1⟩ := nxt ns dr ho 12 (by omega) (by omega)
  obtain ⟨v2, s2, o2, h2, e2⟩ := nxt ns s1 o1 (1 + (v1 : Int)) (by omega) (by omega)
  obtain ⟨v3, s3, o3, h3, e3⟩ := nxt ns s2 o2 (1 + (v1 : Int) + 1) (by omega) (by omega)
  refine ⟨⟨1 + v1, v2, v3⟩, s3, o3, ⟨by simp only; omega, by simp only; omega⟩, ?_⟩
  unfold F__law_station b__law_station snD
  rw [v_run2]
  simp [e1, e2, e3, okLen_of (n := 4) (by omega)]
def inD (l : List Nat) : List D := l.map fun d : Nat => .int (d : Int)
def stP (ns : List Int) (z1 z2 z5 z6 : D) (g : Dr × List Nat) : Rho := [drD ns g.1, z1, z2, .lst (inD g.2), .non, z5, z6]
structure DI (n : Nat) (g : Dr × List Nat) : Prop where
  ok : g.1.ok
  sh : ∃ l x, g.2 = l ++ [x] ∧ l.length ≤ n ∧ x ≤ 10 + n
theorem in_snoc (l : List Nat) (x : Nat) : inD (l ++ [x]) = inD l ++ [.int (x : Int)] := by simp [inD]
theorem q1_stepP (ns : List Int) (z1 z2 z5 z6 : D) (n : Nat) (hn : n ≤ 10) (g : Dr × List Nat) (h : DI n g) (d : D) : ∃ g', (stepB (gNm 4) q1__law_probe d (stP ns z1 z2 z5 z6 g)).bind (nxOf [4]) = some (stP ns z1 z2 z5 z6 g') ∧ DI (n + 1) g' := by
  obtain ⟨l, x, hs, hl, hx⟩ := h.sh
  obtain ⟨v, s1, o1, h1, e1⟩ := nxt ns g.1 h.ok 3 (by omega) (by omega)
  have hmx : max2D (.int 1) (.int ((x : Int) - 1 + (v : Int))) = some (.int ((max 1 (x + v - 1) : Nat) : Int)) := by
    show some (D.int (if (x : Int) - 1 + (v : Int) > 1 then _ else _)) = _
    congr 2
    split <;> omega
  refine ⟨(s1, g.2 ++ [max 1 (x + v - 1)]), ?_, o1, ⟨g.2, _, rfl, by rw [hs]; simp; omega, by omega⟩⟩
  unfold stP
  simp only
  rw [in_snoc, hs, in_snoc]
  have ix : dIx (.lst (inD l ++ [.int (x : Int)])) (.int (-1)) = some (.int (x : Int)) := by rw [d_ix_l]; exact ix_snoc _ _
  have ell : (inD l ++ [D.int (x : Int)]).length = l.length + 1 := by simp [inD]
  generalize inD l ++ [D.int (x : Int)] = L at *
  generalize ((max 1 (x + v - 1) : Nat) : Int) = M at *
  simp [q1__law_probe, e1, ix, hmx, -d_max2, -d_ix_l, appOf, ell, okLen_of (n := l.length + 1 + 1) (by omega)]
theorem wh_ok (dr z1 z2 z4 z5 z6 : D) : ∀ (x n : Nat) (l : List Nat), x + 1 ≤ n → l.length + x ≤ 500 →
    ∃ l' : List Nat, l' ≠ [] ∧ loopW (tBl (eBin dLt (eBin dIx (eOwn 3) (eC (.int 0))) (eBin dSub (eBin dIx (eOwn 3) (eUn dNeg (eC (.int 1)))) (eC (.int 1))))) q2__law_probe [] n [dr, z1, z2, .lst (inD (l ++ [x])), z4, z5, z6] = some (.nx [dr, z1, z2, .lst (inD l'), z4, z5, z6]) := by
  intro x
  induction x with
  | zero =>
    intro n l hn hl
    obtain ⟨m, rfl⟩ : ∃ m, n = m + 1 := ⟨n - 1, by omega⟩
    refine ⟨l ++ [0], by simp, ?_⟩
    obtain ⟨h, hh⟩ : ∃ h : Nat, dIx (.lst (inD (l ++ [0]))) (.int 0) = some (.int (h : Int)) := by
      cases l with
      | nil => exact ⟨0, rfl⟩
      | cons a r => exact ⟨a, by simp [inD]⟩
    have ix : dIx (.lst (inD (l ++ [0]))) (.int (-1)) = some (.int 0) := by rw [in_snoc, d_ix_l]; exact ix_snoc _ _
    generalize inD (l ++ [0]) = L at *
    refine loopW_end ?_
    have hc : ¬ ((h : Int) < 0 - 1) := by omega
    simp [hh, ix, -d_ix_l]
  | succ x ih =>
    intro n l hn hl
    obtain ⟨m, rfl⟩ : ∃ m, n = m + 1 := ⟨n - 1, by omega⟩
    obtain ⟨h, hh⟩ : ∃ h : Nat, dIx (.lst (inD (l ++ [x + 1]))) (.int 0) = some (.int (h : Int)) := by
      cases l with
      | nil => exact ⟨x + 1, by simp [inD]⟩
      | cons a r => exact ⟨a, by simp [inD]⟩
    have ix : dIx (.lst (inD (l ++ [x + 1]))) (.int (-1)) = some (.int ((x : Int) + 1)) := by
      rw [in_snoc, d_ix_l, ix_snoc]; simp
    have ell : (inD (l ++ [x + 1])).length = l.length + 1 := by simp [inD]
    by_cases hc : (h : Int) < (x : Int)
    · obtain ⟨l', n', e⟩ := ih m (l ++ [x + 1]) (by omega) (by simp; omega)
      refine ⟨l', n', ?_⟩
      rw [in_snoc] at e
      generalize inD (l ++ [x + 1]) = L at *
      rw [loopW_go (ρ1 := [dr, z1, z2, .lst L, z4, z5, z6]) (ρ2 := [dr, z1, z2, .lst (L ++ [.int (x : Int)]), z4, z5, z6]) (by simp [hh, ix, -d_ix_l]; exact_mod_cast hc), e]
      simp [q2__law_probe, ix, -d_ix_l, appOf, ell, kill, okLen_of (n := l.length + 1 + 1) (by omega)]
    · refine ⟨l ++ [x + 1], by simp, ?_⟩
      generalize inD (l ++ [x + 1]) = L at *
      refine loopW_end ?_
      simp [hh, ix, -d_ix_l]
      omega
theorem probe_ok (ns : List Int) (dr : Dr) (ho : dr.ok) : ∃ s dr', dr'.ok ∧ OkPb s ∧ F__law_probe [drD ns dr, .str "far"] = some (pbD s, [drD ns dr', .str "far"]) := by
  obtain ⟨v1, s1, o1, h1, e1⟩ := nxt ns dr ho 10 (by omega) (by omega)
  obtain ⟨v2, s2, o2, h2, e2⟩ := nxt ns s1 o1 (1 + (v1 : Int)) (by omega) (by omega)
  obtain ⟨v3, s3, o3, h3, e3⟩ := nxt ns s2 o2 ((1 + (v1 : Int) + 1) / 2 + 1) (by omega) (by omega)
  obtain ⟨v4, s4, o4, h4, e4⟩ := nxt ns s3 o3 6 (by omega) (by omega)
  obtain ⟨v5, s5, o5, h5, e5⟩ := nxt ns s4 o4 4 (by omega) (by omega)
  obtain ⟨g, eg, hg⟩ := loop_inv (b := stepB (gNm 4) q1__law_probe) (ks := [4]) (fun i : Nat => D.int (i : Int)) (stP ns (.str "far") (.int (1 + (v1 : Int))) (.int (v2 : Int)) (.int (v3 : Int))) (fun pre g => DI pre.length g) (List.range v5) [] (s5, [1 + v4])
    ⟨o5, [], 1 + v4, rfl, by simp, by simp; omega⟩ fun pre a' post eq g h => by
      obtain ⟨ea, hp⟩ := range_pre eq
      obtain ⟨g', e', h'⟩ := q1_stepP ns (.str "far") (.int (1 + (v1 : Int))) (.int (v2 : Int)) (.int (v3 : Int)) pre.length (by omega) g h (.int (a' : Int))
      exact ⟨g', e', by simpa using h'⟩
  simp only [List.nil_append, List.length_range] at hg
  obtain ⟨l, x, hs, hl, hx⟩ := hg.sh
  obtain ⟨l', n', ew⟩ := wh_ok (drD ns g.1) (.str "far") (.int (1 + (v1 : Int))) .non (.int (v2 : Int)) (.int (v3 : Int)) x nT l (Nat.le_trans (show x + 1 ≤ 20 by omega) (by decide)) (by omega)
  rw [← hs] at ew
  have hmn : min2D (.int (v3 : Int)) (.int (1 + (v1 : Int))) = some (.int ((min v3 (1 + v1) : Nat) : Int)) := by
    show some (D.int (if (1 + (v1 : Int)) < (v3 : Int) then _ else _)) = _
    congr 2
    split <;> omega
  have ct := cut_to (inD l') 12 (by omega)
  have c12 : (inD l').take 12 = inD (l'.take 12) := by unfold inD; rw [List.map_take]
  have t12 : (12 : Int).toNat = 12 := rfl
  rw [t12, c12] at ct
  refine ⟨⟨1 + v1, v2, min v3 (1 + v1), l'.take 12⟩, g.1, hg.ok, ⟨by simp only; omega, by simp only; omega, ?_, by simp only [List.length_take]; omega⟩, ?_⟩
  · simp only
    intro e
    have h1 := congrArg List.length e
    rw [List.length_take, List.length_nil] at h1
    have h2 := List.length_pos_iff.mpr n'
    omega
  · unfold F__law_probe b__law_probe pbD
    rw [v_run2]
    have hs0 : stP ns (.str "far") (.int (1 + (v1 : Int))) (.int (v2 : Int)) (.int (v3 : Int)) (s5, [1 + v4]) = [drD ns s5, .str "far", .int (1 + (v1 : Int)), .lst [.int (1 + (v4 : Int))], .non, .int (v2 : Int), .int (v3 : Int)] := by
      simp [stP, inD]
    have hs1 : stP ns (.str "far") (.int (1 + (v1 : Int))) (.int (v2 : Int)) (.int (v3 : Int)) g = [drD ns g.1, .str "far", .int (1 + (v1 : Int)), .lst (inD g.2), .non, .int (v2 : Int), .int (v3 : Int)] := rfl
    rw [hs0, hs1] at eg
    have ein : (l'.take 12).map (fun d : Nat => D.int (d : Int)) = inD (l'.take 12) := rfl
    simp only
    rw [ein]
    generalize inD (l'.take 12) = L12 at *
    generalize inD l' = L' at *
    generalize inD g.2 = L at *
    simp only [Int.natCast_add, Int.cast_ofNat_Int] at *
    generalize ((min v3 (1 + v1) : Nat) : Int) = MN at *
    simp [e1, e2, e3, e4, e5, sm_of (i := 2) (by omega) (by omega), s62_of (i := (v5 : Int)) (by omega) (by omega), intsD0, eg, okLen_of (n := 1) (by omega), sWhile_eq, kill, ew, hmn, -d_min2, ct, okLen_of (n := 5) (by omega)]
end K97

namespace K97
open PySem PySem.Spec PyProof.Rows L2 TL
theorem sm_ok' (d : D) (h : TL.plain 7 d = true) : F__law_same [d, d] = some (.bl true, [d, d]) := same_ok 7 d h
theorem q_plain (q : Rat) : TL.plain 7 (qD q) = true := by simp [qD, TL.plain, okS_of (n := 2) (by omega)]
theorem due_loop {s : Stn} (hs : OkSn s) {q : Prb} (hq : OkPb q) (w0 w1 w2 w3 w8 w9 w10 w11 w12 w13 w14 w15 w16 : D) :
    loopF (stepB (gNm 5) q1_law) [5] (intsD 0 31) [w0, w1, w2, w3, .lst [], .non, snD s, pbD q, w8, w9, w10, w11, w12, w13, w14, w15, w16] =
      some (.nx [w0, w1, w2, w3, .lst ((spansN (teF s q) 31).map prN), .non, snD s, pbD q, w8, w9, w10, w11, w12, w13, w14, w15, w16]) := by
  have key := (loop_all (b := stepB (gNm 5) q1_law) (ks := [5]) (fun t : Nat => D.int (t : Int)) (fun acc : List (Nat × Nat) => [w0, w1, w2, w3, .lst (acc.map prN), .non, snD s, pbD q, w8, w9, w10, w11, w12, w13, w14, w15, w16]) (spStep (teF s q)) (fun pre acc => acc.length ≤ pre.length) (List.range 31) [] [] (Nat.le_refl _) fun pre t post eq acc hacc => by
    have hpl : pre.length < 31 := (range_pre eq).2
    refine ⟨?_, Nat.le_trans (sp_len _ acc t) (by simp; omega)⟩
    obtain ⟨y, e⟩ := ltells_ok s hs q hq t
    cases hft : teF s q t with
    | false =>
      rw [hft] at e
      have es : spStep (teF s q) acc t = acc := by unfold spStep; rw [hft]; rfl
      rw [es]
      generalize acc.map prN = A at *
      generalize snD s = S at *
      generalize pbD q = P at *
      simp [q1_law, e]
    | true =>
      rw [hft] at e
      rcases sp_cases acc with rfl | ⟨l, p, rfl⟩
      · have es : spStep (teF s q) [] t = [(t, t)] := by unfold spStep; rw [hft]; rfl
        rw [es]
        generalize snD s = S at *
        generalize pbD q = P at *
        simp [q1_law, e, prN, okLen_of (n := 0) (by omega), okLen_of (n := 1) (by omega), okLen_of (n := 2) (by omega)]
      · have hl1 : l.length + 1 ≤ 31 := by simp at hacc; omega
        have ix : dIx (.lst (l.map prN ++ [prN p])) (.int (-1)) = some (prN p) := by rw [d_ix_l]; exact ix_snoc _ _
        have em : (l ++ [p]).map prN = l.map prN ++ [prN p] := by simp
        have e1 : dIx (prN p) (.int 1) = some (.int (p.2 : Int)) := by simp [prN]
        have e2 : dIx (prN p) (.int 0) = some (.int (p.1 : Int)) := by simp [prN]
        have tr : truthD (.lst (l.map prN ++ [prN p])) = some true := by simp
        have llen : (l.map prN ++ [prN p]).length = l.length + 1 := by simp
        have llen2 : (l.map prN).length = l.length := by simp
        have cut : dSl (.lst (l.map prN ++ [prN p])) none (some (-1)) = some (.lst (l.map prN)) := by
          rw [d_sl_l]
          congr 2
          have x1 : HT.sIx (l.map prN ++ [prN p]).length (l.map prN ++ [prN p]).length (some (-1)) = (l.map prN).length := by
            show (if (-1 : Int) < 0 then ((-1 : Int) + ((l.map prN ++ [prN p]).length : Int)).toNat else min (-1 : Int).toNat (l.map prN ++ [prN p]).length) = _
            rw [if_pos (by omega), llen, llen2]; omega
          unfold TL.cutD
          rw [x1, HT.sIx_none, List.drop_zero, Nat.sub_zero]
          simp
        by_cases h : p.2 + 1 = t
        · have es : spStep (teF s q) (l ++ [p]) t = l ++ [(p.1, t)] := by
            unfold spStep; rw [hft, if_pos rfl, List.getLast?_concat, List.dropLast_concat]; simp [h]
          have hz : (p.2 : Int) = (t : Int) - 1 := by omega
          rw [es, em]
          have em2 : (l ++ [(p.1, t)]).map prN = l.map prN ++ [.tup [.int (p.1 : Int), .int (t : Int)]] := by simp [prN]
          rw [em2]
          generalize prN p = PP at *
          generalize l.map prN = A at *
          generalize snD s = S at *
          generalize pbD q = P at *
          simp [q1_law, e, tr, ix, e1, e2, hz, cut, -d_sl_l, -d_ix_l, llen2, okLen_of (n := 1) (by omega), okLen_of (n := 2) (by omega), okLen_of (n := l.length + 1) (by omega)]
        · have es : spStep (teF s q) (l ++ [p]) t = (l ++ [p]) ++ [(t, t)] := by
            unfold spStep; rw [hft, if_pos rfl, List.getLast?_concat]; simp [h]
          have hz : ¬ (p.2 : Int) = (t : Int) - 1 := by omega
          rw [es, em]
          have em2 : ((l ++ [p]) ++ [(t, t)]).map prN = (l.map prN ++ [prN p]) ++ [.tup [.int (t : Int), .int (t : Int)]] := by simp [prN]
          rw [em2]
          generalize prN p = PP at *
          generalize hA : l.map prN ++ [PP] = A at *
          generalize snD s = S at *
          generalize pbD q = P at *
          simp [q1_law, e, tr, ix, e1, e2, hz, llen, -d_ix_l, okLen_of (n := 1) (by omega), okLen_of (n := 2) (by omega), okLen_of (n := l.length + 1 + 1) (by omega)]).1
  have e0 : intsD 0 31 = (List.range 31).map fun t : Nat => D.int (t : Int) := by
    have := intsDn 0 31
    simpa using this
  rw [e0]
  exact key
theorem sp_inv (f : Nat → Bool) : ∀ n : Nat, ∀ p ∈ spansN f n, p.1 ≤ p.2 ∧ p.2 < n
  | 0, p, hp => by simp [spansN] at hp
  | n + 1, p, hp => by
    have ih := sp_inv f n
    have e : spansN f (n + 1) = spStep f (spansN f n) n := by unfold spansN; rw [List.range_succ, List.foldl_append]; rfl
    rw [e] at hp
    generalize spansN f n = acc at *
    unfold spStep at hp
    rcases sp_cases acc with rfl | ⟨l, q, rfl⟩
    · cases hf : f n with
      | true => rw [hf] at hp; simp at hp; subst hp; simp
      | false => rw [hf] at hp; simp at hp
    · rw [List.getLast?_concat, List.dropLast_concat] at hp
      cases hf : f n with
      | false =>
        rw [hf] at hp
        have := ih p hp
        omega
      | true =>
        rw [hf, if_pos rfl] at hp
        simp only at hp
        have hq := ih q (by simp)
        split at hp
        · rcases List.mem_append.mp hp with hp | hp
          · have := ih p (by simp [hp]); omega
          · obtain rfl : p = (q.1, n) := by simpa using hp
            simp only; omega
        · rcases List.mem_append.mp hp with hp | hp
          · have := ih p hp; omega
          · obtain rfl : p = (n, n) := by simpa using hp
            simp
theorem sp_count (f : Nat → Bool) : ∀ n : Nat, (spansN f n).length ≤ n
  | 0 => by simp [spansN]
  | n + 1 => by
    have e : spansN f (n + 1) = spStep f (spansN f n) n := by unfold spansN; rw [List.range_succ, List.foldl_append]; rfl
    rw [e]
    have := sp_len f (spansN f n) n
    have := sp_count f n
    omega
theorem ints_eq0 (l : List Nat) : dEq (.lst (l.map fun t : Nat => D.int (t : Int))) (.lst []) = some (.bl l.isEmpty) := by
  have h1 : pyOk 40 (.lst (l.map fun t : Nat => D.int (t : Int))) = true := by simp [pyOk]
  have h2 : pyOk 40 (.lst []) = true := by simp [pyOk]
  unfold dEq
  rw [h1, h2]
  simp only [Bool.and_self, if_true]
  cases l <;> simp [dq, dqs]
theorem RL_ix (a b : Rat) (ss : List Sp) (t : Nat) (h : t < 61) : dIx (RL a b ss) (.int (t : Int)) = some (qD (lowR a b ss (t : Int))) := by
  unfold RL
  rw [d_ix_l, ix_nat _ t (by simpa using h)]
  simp
theorem RH_ix (a b : Rat) (ss : List Sp) (t : Nat) (h : t < 61) : dIx (RH a b ss) (.int (t : Int)) = some (qD (higR a b ss (t : Int))) := by
  unfold RH
  rw [d_ix_l, ix_nat _ t (by simpa using h)]
  simp
theorem q6_ok {a b : Rat} (hd : OkDf a b) {ss : List Sp} (h : OkSs ss) (hc : Con a b ss) (p : Nat × Nat) (hp : p.1 ≤ p.2 ∧ p.2 < 31) (w0 w1 w4 w6 w7 : D) :
    (stepB (gTp (gsCons (gNm 10) (gsCons (gNm 11) gsNil))) q6_law (prN p) [w0, w1, dfD a b, stsD ss, w4, .non, w6, w7, RL a b ss, RH a b ss, .non, .non, .non, .non, .non, .non, .non]).bind (nxOf [10, 11, 12, 13, 14, 15, 16]) =
      some [w0, w1, dfD a b, stsD ss, w4, .non, w6, w7, RL a b ss, RH a b ss, .non, .non, .non, .non, .non, .non, .non] := by
  obtain ⟨x, y⟩ := p
  simp only at hp
  obtain ⟨t1, t2, t3⟩ := sr_ok hd h x y (by omega) (by omega)
  by_cases hn : x ≠ 0 ∧ ¬ higR a b ss ((x : Int) - 1) < lowR a b ss (y : Int)
  · obtain ⟨r, e⟩ := t3 hn.1 hn.2
    unfold prN
    generalize dfD a b = DF at *
    generalize stsD ss = SS at *
    generalize RL a b ss = L at *
    generalize RH a b ss = H at *
    simp [q6_law, e]
  · have hx : x = 0 ∨ higR a b ss ((x : Int) - 1) < lowR a b ss (y : Int) := by
      by_cases h0 : x = 0
      · exact .inl h0
      · exact .inr (Decidable.byContradiction fun hh => hn ⟨h0, hh⟩)
    obtain ⟨T, e, iT⟩ : ∃ T : D, (∃ r, F_sure_readings [dfD a b, stsD ss, .int (x : Int), .int (y : Int)] = some (.tup [T, qD (lowR a b ss (y : Int))], r)) ∧ True := by
      by_cases h0 : x = 0
      · exact ⟨.non, t1 h0, trivial⟩
      · rcases hx with hx | hx
        · exact absurd hx h0
        · exact ⟨_, t2 h0 hx, trivial⟩
    obtain ⟨r, e⟩ := e
    have bq := lowR_B hd h (y : Int) (by omega) (by omega)
    obtain ⟨m, rm, n, rn, es, ef, c1, c2, c3⟩ := deed hd h.1 hc x y hp.1 (by omega) hx
    obtain ⟨M, ⟨M0, Ms⟩, dd, hdd, rr, et⟩ := to_ok hd h (lowR a b ss (y : Int)) bq
    obtain ⟨rb, eb⟩ := rd_ok hd h (y : Int) (by omega) (by omega)
    have hM : ¬ M < (x : Int) := by
      rcases hx with rfl | hx
      · omega
      · obtain ⟨s, hs, hf⟩ := fw_late hd h.1 _ _ hx
        have := Ms s hs
        omega
    have sm1 := sm_ok' _ (q_plain (lowR a b ss (y : Int)))
    have s1 : lcF (stepLc [5] (gNm 5) t2_law e3_law) (intsD 0 61) [w0, w1, dfD a b, stsD ss, w4, .non, w6, w7, RL a b ss, RH a b ss, .int (x : Int), .int (y : Int), .tup [T, qD (lowR a b ss (y : Int))], qD (lowR a b ss (y : Int)), .non, .non, .non] =
        some ((m :: rm).map fun t : Nat => D.int (t : Int), [w0, w1, dfD a b, stsD ss, w4, .non, w6, w7, RL a b ss, RH a b ss, .int (x : Int), .int (y : Int), .tup [T, qD (lowR a b ss (y : Int))], qD (lowR a b ss (y : Int)), .non, .non, .non]) := by
      have e0 : intsD 0 61 = (List.range 61).map fun t : Nat => D.int (t : Int) := by
        have := intsDn 0 61
        simpa using this
      rw [e0, lc_map (fun t : Nat => D.int (t : Int)) (fun t : Nat => if !decide (lowR a b ss (t : Int) < lowR a b ss (y : Int)) then some (D.int (t : Int)) else none) _ _ fun t ht => by
        have ht := List.mem_range.mp ht
        have i0 := RL_ix a b ss t ht
        have b0 := below_ok _ _ (Bq (lowR_B hd h (t : Int) (by omega) (by omega)) (by omega)) (Bq bq (by omega))
        generalize decide (lowR a b ss (t : Int) < lowR a b ss (y : Int)) = C at *
        generalize qD (lowR a b ss (t : Int)) = Q1 at *
        generalize qD (lowR a b ss (y : Int)) = Q2 at *
        generalize dfD a b = DF at *
        generalize stsD ss = SS at *
        generalize RL a b ss = L at *
        generalize RH a b ss = H at *
        cases C <;> simp [t2_law, e3_law, i0, b0]]
      rw [← es]
      unfold slowL
      congr 2
      induction List.range 61 with
      | nil => rfl
      | cons z l ih =>
        rw [List.filterMap_cons, List.filter_cons, ih]
        cases decide (lowR a b ss (z : Int) < lowR a b ss (y : Int)) <;> rfl
    have s2 : ∀ z14 : D, lcF (stepLc [5] (gNm 5) t4_law e5_law) (intsD 0 61) [w0, w1, dfD a b, stsD ss, w4, .non, w6, w7, RL a b ss, RH a b ss, .int (x : Int), .int (y : Int), .tup [T, qD (lowR a b ss (y : Int))], qD (lowR a b ss (y : Int)), z14, .non, .non] =
        some ((n :: rn).map fun t : Nat => D.int (t : Int), [w0, w1, dfD a b, stsD ss, w4, .non, w6, w7, RL a b ss, RH a b ss, .int (x : Int), .int (y : Int), .tup [T, qD (lowR a b ss (y : Int))], qD (lowR a b ss (y : Int)), z14, .non, .non]) := by
      intro z14
      have e0 : intsD 0 61 = (List.range 61).map fun t : Nat => D.int (t : Int) := by
        have := intsDn 0 61
        simpa using this
      rw [e0, lc_map (fun t : Nat => D.int (t : Int)) (fun t : Nat => if !decide (higR a b ss (t : Int) < lowR a b ss (y : Int)) then some (D.int (t : Int)) else none) _ _ fun t ht => by
        have ht := List.mem_range.mp ht
        have i0 := RH_ix a b ss t ht
        have b0 := below_ok _ _ (Bq (higR_B hd h (t : Int) (by omega) (by omega)) (by omega)) (Bq bq (by omega))
        generalize decide (higR a b ss (t : Int) < lowR a b ss (y : Int)) = C at *
        generalize qD (higR a b ss (t : Int)) = Q1 at *
        generalize qD (lowR a b ss (y : Int)) = Q2 at *
        generalize dfD a b = DF at *
        generalize stsD ss = SS at *
        generalize RL a b ss = L at *
        generalize RH a b ss = H at *
        cases C <;> simp [t4_law, e5_law, i0, b0]]
      rw [← ef]
      unfold fastL
      congr 2
      induction List.range 61 with
      | nil => rfl
      | cons z l ih =>
        rw [List.filterMap_cons, List.filter_cons, ih]
        cases decide (higR a b ss (z : Int) < lowR a b ss (y : Int)) <;> rfl
    have l61 : (intsD 0 61).length = 61 := by simp
    have i1 : dIx (.lst ((m :: rm).map fun t : Nat => D.int (t : Int))) (.int 0) = some (.int (m : Int)) := by simp
    have i2 : dIx (.lst ((n :: rn).map fun t : Nat => D.int (t : Int))) (.int 0) = some (.int (n : Int)) := by simp
    have q1 := ints_eq0 (m :: rm)
    have ie : (m :: rm).isEmpty = false := rfl
    rw [ie] at q1
    have c1' : (x : Int) ≤ (n : Int) := by omega
    have c2' : (n : Int) ≤ (m : Int) := by omega
    have c3' : (m : Int) ≤ (y : Int) := by omega
    have hdd1 : dIsNot dd .non = some (.bl true) → dIx dd (.int 0) = some (.int M) := by
      rcases hdd with rfl | ⟨l, rfl⟩
      · intro hh; cases hh
      · intro _; simp
    have hdd2 : dIsNot dd .non = some (.bl true) ∨ dIsNot dd .non = some (.bl false) := by
      rcases hdd with rfl | ⟨l, rfl⟩
      · exact .inr rfl
      · exact .inl rfl
    unfold prN
    simp only
    clear t1 t2 t3 hdd es ef Ms bq
    generalize (m :: rm).map (fun t : Nat => D.int (t : Int)) = ML at *
    generalize (n :: rn).map (fun t : Nat => D.int (t : Int)) = NL at *
    generalize qD (higR a b ss (y : Int)) = Q3 at *
    generalize qD (lowR a b ss (y : Int)) = Q2 at *
    generalize dfD a b = DF at *
    generalize stsD ss = SS at *
    generalize RL a b ss = L at *
    generalize RH a b ss = H at *
    have j1 := s62_of (i := 61) (by omega) (by omega)
    have j2 := okLen_of (n := 61) (by omega)
    have j3 := okLen_of (n := 0) (by omega)
    have hN : ∀ A C : D, dIsNot (.tup [A, C]) .non = some (.bl true) := fun _ _ => rfl
    rcases hdd2 with hh | hh
    · have hd1 := hdd1 hh
      simp [q6_law, hN, e, s1, s2, l61, i1, i2, q1, c1', c2', c3', et, eb, sm1, hh, hd1, hM, j1, j2, j3, eChain3, -d_ix_l, -d_isNot0]
    · simp [q6_law, hN, e, s1, s2, l61, i1, i2, q1, c1', c2', c3', et, eb, sm1, hh, hM, j1, j2, j3, eChain3, -d_ix_l, -d_isNot0]
end K97

namespace K97
open PySem PySem.Spec PyProof.Rows L2 TL
theorem prN_plain (l : List (Nat × Nat)) (h : l.length ≤ 100) : TL.plain 7 (.lst (l.map prN)) = true := by
  simp [TL.plain, prN, okS_of (n := l.length) (by omega), okS_of (n := 2) (by omega)]
theorem p5_ok {a b : Rat} (hd : OkDf a b) {ss : List Sp} (h : OkSs ss) (hc : Con a b ss) {s : Stn} (hs : OkSn s) {q : Prb} (hq : OkPb q) (w0 w1 : D) :
    Tru p5_law [w0, w1, dfD a b, stsD ss, .non, .non, snD s, pbD q, .non, .non, .non, .non, .non, .non, .non, .non, .non] := by
  obtain ⟨r1, e1⟩ := ranges_ok hd h
  have k7 := due_loop hs hq w0 w1 (dfD a b) (stsD ss) (RL a b ss) (RH a b ss) .non .non .non .non .non .non .non
  obtain ⟨cd, hcd, r2, e2⟩ := tells_ok s hs q hq
  obtain ⟨r3, e3⟩ := spans_ok hcd
  obtain ⟨r4, e4⟩ := rd_ok hd h 7 (by omega) (by omega)
  have i1 := RL_ix a b ss 7 (by omega)
  have i2 := RH_ix a b ss 7 (by omega)
  have cnt := sp_count (teF s q) 31
  have sm1 := sm_ok' _ (prN_plain (spansN (teF s q) 31) (by omega))
  have sm2 := sm_ok' (.tup [qD (lowR a b ss 7), qD (higR a b ss 7)]) (by simp [TL.plain, qD, okS_of (n := 2) (by omega)])
  have k9 := (loop_ret (b := stepB (gTp (gsCons (gNm 10) (gsCons (gNm 11) gsNil))) q6_law) (ks := [10, 11, 12, 13, 14, 15, 16]) prN [w0, w1, dfD a b, stsD ss, .lst ((spansN (teF s q) 31).map prN), .non, snD s, pbD q, RL a b ss, RH a b ss, .non, .non, .non, .non, .non, .non, .non] (fun _ => false) .non (spansN (teF s q) 31) fun p hp => ⟨fun hh => (by cases hh), fun _ => q6_ok hd h hc p (sp_inv _ 31 p hp) w0 w1 _ _ _⟩).2 (by simp)
  have c7 : ((7 : Nat) : Int) = 7 := rfl
  rw [c7] at i1 i2
  unfold p5_law
  generalize (spansN (teF s q) 31).map prN = SP at *
  generalize qD (lowR a b ss 7) = Q1 at *
  generalize qD (higR a b ss 7) = Q2 at *
  refine Tru.seq (ρ1 := [w0, w1, dfD a b, stsD ss, .non, .non, snD s, pbD q, RL a b ss, RH a b ss, .non, .non, .non, .non, .non, .non, .non]) ?_ ?_
  · generalize dfD a b = DF at *
    generalize stsD ss = SS at *
    generalize RL a b ss = L at *
    generalize RH a b ss = H at *
    generalize snD s = S at *
    generalize pbD q = P at *
    simp [e1]
  unfold p6_law
  refine Tru.seq (ρ1 := [w0, w1, dfD a b, stsD ss, .lst [], .non, snD s, pbD q, RL a b ss, RH a b ss, .non, .non, .non, .non, .non, .non, .non]) ?_ ?_
  · generalize dfD a b = DF at *
    generalize stsD ss = SS at *
    generalize RL a b ss = L at *
    generalize RH a b ss = H at *
    generalize snD s = S at *
    generalize pbD q = P at *
    simp [okLen_of (n := 0) (by omega)]
  unfold p7_law
  refine Tru.seq (ρ1 := [w0, w1, dfD a b, stsD ss, .lst SP, .non, snD s, pbD q, RL a b ss, RH a b ss, .non, .non, .non, .non, .non, .non, .non]) ?_ ?_
  · generalize dfD a b = DF at *
    generalize stsD ss = SS at *
    generalize RL a b ss = L at *
    generalize RH a b ss = H at *
    generalize snD s = S at *
    generalize pbD q = P at *
    simp [s62_of (i := 31) (by omega) (by omega), k7]
  unfold p8_law
  refine Tru.seq (ρ1 := [w0, w1, dfD a b, stsD ss, .lst SP, .non, snD s, pbD q, RL a b ss, RH a b ss, .non, .non, .non, .non, .non, .non, .non]) ?_ ?_
  · generalize dfD a b = DF at *
    generalize stsD ss = SS at *
    generalize RL a b ss = L at *
    generalize RH a b ss = H at *
    generalize snD s = S at *
    generalize pbD q = P at *
    simp [e2, e3, e4, i1, i2, sm1, sm2, okLen_of (n := 2) (by omega)]
  unfold p9_law
  refine Tru.seq (ρ1 := [w0, w1, dfD a b, stsD ss, .lst SP, .non, snD s, pbD q, RL a b ss, RH a b ss, .non, .non, .non, .non, .non, .non, .non]) ?_ ?_
  · generalize dfD a b = DF at *
    generalize stsD ss = SS at *
    generalize RL a b ss = L at *
    generalize RH a b ss = H at *
    generalize snD s = S at *
    generalize pbD q = P at *
    simp [k9]
  exact ⟨_, by unfold p10_law; simp; rfl⟩
theorem sts_take (ms : List Sp) (k : Nat) : dSl (stsD ms) none (some (k : Int)) = some (stsD (ms.take k)) := by
  unfold stsD
  rw [d_sl_t, cut_to _ (k : Int) (by omega), Int.toNat_natCast, ← List.map_take]
theorem p3_ok {a b : Rat} (hd : OkDf a b) {ms : List Sp} (h0 : ms ≠ []) (hl : ms.length ≤ 5) (hm : ∀ s ∈ ms, OkSp s ∧ s.lo ≤ s.hi) (ns : List Int) (dr : Dr) (ho : dr.ok) (w0 : D) :
    Tru p3_law [w0, drD ns dr, dfD a b, stsD ms, .non, .non, .non, .non, .non, .non, .non, .non, .non, .non, .non, .non, .non] := by
  have hz : OkSs ms := ⟨h0, by omega, fun s hs => (hm s hs).1⟩
  have e1 := lbars_ok hd ms hz
  have e2 := sts_take ms 1
  obtain ⟨s, d1, o1, hs, e3⟩ := station_ok ns dr ho
  obtain ⟨q, d2, o2, hq, e4⟩ := probe_ok ns d1 o1
  have key : ∃ ss, OkSs ss ∧ Con a b ss ∧ (∀ (w4 : D), (sAsg (eIf (tB (eF (oCall F__law_bars (aCons (eVar 2) (aCons (eVar 3) aNil))))) (eSl dSl (eVar 3) pNo (pSome (eC (.int 1)))) (eVar 3)) (gNm 3)) [w0, drD ns dr, dfD a b, stsD ms, w4, .non, .non, .non, .non, .non, .non, .non, .non, .non, .non, .non, .non] = some (.nx [w0, drD ns dr, dfD a b, stsD ss, w4, .non, .non, .non, .non, .non, .non, .non, .non, .non, .non, .non, .non])) := by
    cases hb : (bars a b ms).isEmpty with
    | true =>
      have hb' := List.isEmpty_iff.mp hb
      refine ⟨ms, hz, con_of hd (fun s hs => (hm s hs).2) hb', fun w4 => ?_⟩
      rw [hb'] at e1
      generalize dfD a b = DF at *
      generalize stsD ms = SS at *
      simp [e1]
    | false =>
      have hne : bars a b ms ≠ [] := fun e => by rw [e] at hb; cases hb
      obtain ⟨s0, r, rfl⟩ : ∃ s0 r, ms = s0 :: r := by cases ms with | nil => exact absurd rfl h0 | cons s r => exact ⟨s, r, rfl⟩
      have hb1 : bars a b [s0] = [] := by simp [bars, rowB]
      refine ⟨[s0], ⟨by simp, by simp, fun s hs => by
        obtain rfl : s = s0 := by simpa using hs
        exact (hm s (by simp)).1⟩, con_of hd (fun s hs => by
        obtain rfl : s = s0 := by simpa using hs
        exact (hm s (by simp)).2) hb1, fun w4 => ?_⟩
      have et : (s0 :: r).take 1 = [s0] := rfl
      rw [et] at e2
      have tr : truthD (.lst ((bars a b (s0 :: r)).map prD)) = some true := by
        cases h : bars a b (s0 :: r) with
        | nil => exact absurd h hne
        | cons p l => simp
      generalize (bars a b (s0 :: r)).map prD = BS at *
      generalize dfD a b = DF at *
      generalize stsD (s0 :: r) = SS at *
      generalize stsD [s0] = S1 at *
      simp only [Int.cast_ofNat_Int] at e2
      simp [e1, e2, tr, -d_tr_l]
  obtain ⟨ss, hss, hcc, hk⟩ := key
  unfold p3_law
  refine Tru.seq (hk .non) ?_
  unfold p4_law
  refine Tru.seq ?_ (p5_ok hd hss hcc hs hq w0 (drD ns d2))
  generalize dfD a b = DF at *
  generalize stsD ss = SS at *
  generalize snD s = S at *
  generalize pbD q = P at *
  simp [e3, e4]
theorem law_true : lawF F_law := by
  intro ns _
  have e0 := draw_ok ns
  have e0' : F__law_draw [.scr ns] = some (drD ns Dr0, [.scr ns]) := e0
  refine Tru.law (b := b_law) (m := 16) ?_
  obtain ⟨a, b, d1, o1, hd, e1⟩ := drift_ok ns Dr0 Dr0.ok
  obtain ⟨v, d2, o2, h2, e2⟩ := nxt ns d1 o1 4 (by omega) (by omega)
  obtain ⟨ms, d3, o3, hl, hm, e3⟩ := stamps_ok ns hd (1 + v) (by omega) d2 o2
  have k3 := p3_ok hd (ms := ms) (by intro e; rw [e] at hl; simp at hl; omega) (by omega) hm ns d3 o3 (.scr ns)
  simp only [Int.natCast_add, Int.cast_ofNat_Int] at e3
  unfold b_law
  refine Tru.seq (ρ1 := [.scr ns, drD ns Dr0, .non, .non, .non, .non, .non, .non, .non, .non, .non, .non, .non, .non, .non, .non, .non]) (by simp [e0']) ?_
  refine Tru.seq (ρ1 := [.scr ns, drD ns d1, dfD a b, .non, .non, .non, .non, .non, .non, .non, .non, .non, .non, .non, .non, .non, .non]) ?_ ?_
  · generalize dfD a b = DF at *
    simp [e1]
  unfold p2_law
  refine Tru.seq ?_ k3
  generalize dfD a b = DF at *
  generalize stsD ms = SS at *
  simp [e2, e3]
end K97

open PySem PySem.W PyProof.Rows
set_option maxHeartbeats 0 in
theorem PySem.Challenge.cw_farcall_k97_deeds_aboard_in_sight_holds : PySem.Challenge.rw_farcall_k97_deeds_aboard_in_sight.Holds := by
  w_on; o_law; k_head; (case hw => w_witness2)
  k_fill
  refine L2.walk_of (l := PySem.Challenge.rw_farcall_k97_deeds_aboard_in_sight) (n := 63) (k := 10) (x := "script") (CX := fun _ => L2.CX0) (sp := fun w => TL.spL _) rfl (by decide) rfl ⟨rfl, by decide, by decide⟩ (fun w h Y => PySem.W.kIn_of Y) ?F (fun _ _ a ns hl _ hS => ⟨a, ns, rfl, hS, hl, fun _ => rfl⟩) (fun _ _ _ _ _ h => h)
  case F =>
    intro w mg fa h KX G hmg
    refine' TL.toL K97.law_true (K97.all_mk KX G hmg ?a0 ?l0 ?c0 ?k0 ?a1 ?l1 ?c1 ?k1 ?a2 ?l2 ?c2 ?k2 ?a3 ?l3 ?c3 ?k3 ?a4 ?l4 ?c4 ?k4 ?a5 ?l5 ?c5 ?k5 ?a6 ?l6 ?c6 ?k6 ?a7 ?l7 ?c7 ?k7 ?a8 ?l8 ?c8 ?k8 ?a9 ?l9 ?c9 ?k9 ?a10 ?l10 ?c10 ?k10 ?a11 ?l11 ?c11 ?k11 ?a12 ?l12 ?c12 ?k12 ?a13 ?l13 ?c13 ?k13 ?a14 ?l14 ?c14 ?k14 ?a15 ?l15 ?c15 ?k15 ?a16 ?l16 ?c16 ?k16 ?a17 ?l17 ?c17 ?k17 ?a18 ?l18 ?c18 ?k18 ?a19 ?l19 ?c19 ?k19 ?a20 ?l20 ?c20 ?k20 ?a21 ?l21 ?c21 ?k21 ?a22 ?l22 ?c22 ?k22 ?a23 ?l23 ?c23 ?k23 ?a24 ?l24 ?c24 ?k24 ?a25 ?l25 ?c25 ?k25 ?a26 ?l26 ?c26 ?k26 ?a27 ?l27 ?c27 ?k27 ?a28 ?l28 ?c28 ?k28 ?a29 ?l29 ?c29 ?k29 ?a30 ?l30 ?c30 ?k30 ?a31 ?l31 ?c31 ?k31 ?a32 ?l32 ?c32 ?k32 ?a33 ?l33 ?c33 ?k33 ?a34 ?l34 ?c34 ?k34 ?a35 ?l35 ?c35 ?k35 ?a36 ?l36 ?c36 ?k36 ?a37 ?l37 ?c37 ?k37 ?a38 ?l38 ?c38 ?k38 ?a39 ?l39 ?c39 ?k39 ?a40 ?l40 ?c40 ?k40 ?a41 ?l41 ?c41 ?k41 ?a42 ?l42 ?c42 ?k42 ?a43 ?l43 ?c43 ?k43 ?a44 ?l44 ?c44 ?k44 ?a45 ?l45 ?c45 ?k45 ?a46 ?l46 ?c46 ?k46 ?a47 ?l47 ?c47 ?k47 ?a48 ?l48 ?c48 ?k48 ?a49 ?l49 ?c49 ?k49 ?a50 ?l50 ?c50 ?k50 ?a51 ?l51 ?c51 ?k51 ?z0 ?z1 ?z2 ?z3 ?z4 ?z5 ?z6 ?z7 ?z8 ?z9 ?z10 ?z11 ?i0 ?i1)
    (case a0 => k_is); (case l0 => k_is); (case c0 => k_is); (case k0 => k_is); (case a1 => k_is); (case l1 => k_is); (case c1 => k_is); (case k1 => k_is); (case a2 => k_is); (case l2 => k_is); (case c2 => k_is); (case k2 => k_is); (case a3 => k_is); (case l3 => k_is); (case c3 => k_is); (case k3 => k_is); (case a4 => k_is); (case l4 => k_is); (case c4 => k_is); (case k4 => k_is); (case a5 => k_is); (case l5 => k_is); (case c5 => k_is); (case k5 => k_is); (case a6 => k_is); (case l6 => k_is); (case c6 => k_is); (case k6 => k_is); (case a7 => k_is); (case l7 => k_is); (case c7 => k_is); (case k7 => k_is); (case a8 => k_is); (case l8 => k_is); (case c8 => k_is); (case k8 => k_is); (case a9 => k_is); (case l9 => k_is); (case c9 => k_is); (case k9 => k_is); (case a10 => k_is); (case l10 => k_is); (case c10 => k_is); (case k10 => k_is); (case a11 => k_is); (case l11 => k_is); (case c11 => k_is); (case k11 => k_is); (case a12 => k_is); (case l12 => k_is); (case c12 => k_is); (case k12 => k_is); (case a13 => k_is); (case l13 => k_is); (case c13 => k_is); (case k13 => k_is); (case a14 => k_is); (case l14 => k_is); (case c14 => k_is); (case k14 => k_is); (case a15 => k_is); (case l15 => k_is); (case c15 => k_is); (case k15 => k_is); (case a16 => k_is); (case l16 => k_is); (case c16 => k_is); (case k16 => k_is); (case a17 => k_is); (case l17 => k_is); (case c17 => k_is); (case k17 => k_is); (case a18 => k_is); (case l18 => k_is); (case c18 => k_is); (case k18 => k_is); (case a19 => k_is); (case l19 => k_is); (case c19 => k_is); (case k19 => k_is); (case a20 => k_is); (case l20 => k_is); (case c20 => k_is); (case k20 => k_is); (case a21 => k_is); (case l21 => k_is); (case c21 => k_is); (case k21 => k_is); (case a22 => k_is); (case l22 => k_is); (case c22 => k_is); (case k22 => k_is); (case a23 => k_is); (case l23 => k_is); (case c23 => k_is); (case k23 => k_is); (case a24 => k_is); (case l24 => k_is); (case c24 => k_is); (case k24 => k_is); (case a25 => k_is); (case l25 => k_is); (case c25 => k_is); (case k25 => k_is); (case a26 => k_is); (case l26 => k_is); (case c26 => k_is); (case k26 => k_is); (case a27 => k_is); (case l27 => k_is); (case c27 => k_is); (case k27 => k_is); (case a28 => k_is); (case l28 => k_is); (case c28 => k_is); (case k28 => k_is); (case a29 => k_is); (case l29 => k_is); (case c29 => k_is); (case k29 => k_is); (case a30 => k_is); (case l30 => k_is); (case c30 => k_is); (case k30 => k_is); (case a31 => k_is); (case l31 => k_is); (case c31 => k_is); (case k31 => k_is); (case a32 => k_is); (case l32 => k_is); (case c32 => k_is); (case k32 => k_is); (case a33 => k_is); (case l33 => k_is); (case c33 => k_is); (case k33 => k_is); (case a34 => k_is); (case l34 => k_is); (case c34 => k_is); (case k34 => k_is); (case a35 => k_is); (case l35 => k_is); (case c35 => k_is); (case k35 => k_is); (case a36 => k_is); (case l36 => k_is); (case c36 => k_is); (case k36 => k_is); (case a37 => k_is); (case l37 => k_is); (case c37 => k_is); (case k37 => k_is); (case a38 => k_is); (case l38 => k_is); (case c38 => k_is); (case k38 => k_is); (case a39 => k_is); (case l39 => k_is); (case c39 => k_is); (case k39 => k_is); (case a40 => k_is); (case l40 => k_is); (case c40 => k_is); (case k40 => k_is); (case a41 => k_is); (case l41 => k_is); (case c41 => k_is); (case k41 => k_is); (case a42 => k_is); (case l42 => k_is); (case c42 => k_is); (case k42 => k_is); (case a43 => k_is); (case l43 => k_is); (case c43 => k_is); (case k43 => k_is); (case a44 => k_is); (case l44 => k_is); (case c44 => k_is); (case k44 => k_is); (case a45 => k_is); (case l45 => k_is); (case c45 => k_is); (case k45 => k_is); (case a46 => k_is); (case l46 => k_is); (case c46 => k_is); (case k46 => k_is); (case a47 => k_is); (case l47 => k_is); (case c47 => k_is); (case k47 => k_is); (case a48 => k_is); (case l48 => k_is); (case c48 => k_is); (case k48 => k_is); (case a49 => k_is); (case l49 => k_is); (case c49 => k_is); (case k49 => k_is); (case a50 => k_is); (case l50 => k_is); (case c50 => k_is); (case k50 => k_is); (case a51 => k_is); (case l51 => k_is); (case c51 => k_is); (case k51 => k_is); (case z0 => k_is); (case z1 => k_is); (case z2 => k_is); (case z3 => k_is); (case z4 => k_is); (case z5 => k_is); (case z6 => k_is); (case z7 => k_is); (case z8 => k_is); (case z9 => k_is); (case z10 => k_is); (case z11 => k_is); (case i0 => k_is); (case i1 => k_is)

