import PyProof.Rows.All
import HandS.ForMost
import HandS.TupAny
import HandS.TupLe
import HandS.Deep
import HandS.Style
import HandS.Wide
import HandS.Flow
import HandS.IsInst
import HandS.SortInts
import HandS.TupMul
import HandS.SortRule
import HandS.Zip
import KE.LtData
import KE.SortData
import KE.DataMinMax
import HandS.RepeatKit
import HandS.Conv
import HandS.Sort
import HandS.Records
import KE.GoesEnum
import HandS.Gcd
import HandS.Small
import HandS.WideBits
import HandS.ListItems
import HandS.DictComp
import PySem.Challenge.RW_farcall_k64_amends
set_option Elab.async false
set_option linter.all false
set_option maxRecDepth 100000
set_option maxHeartbeats 4000000
namespace TL
open PySem PySem.Spec PyProof.Rows L2

/-! ### data as trees -/
inductive D where
  | non | bl (b : Bool) | int (i : Int) | str (s : Str)
  | tup (l : List D) | lst (l : List D) | dct (l : List (D × D)) | dtt (l : List (D × D)) | set (l : List D) | obj (c : Str) (l : List (Str × D)) | scr (ns : List Int)
  deriving Inhabited

def keyD : Key → D
  | .inl i => .int i
  | .inr s => .str s
def keysD (k : List Key) : D := .tup (k.map keyD)

/-! ### what is kept apart -/
def hide (S : List Addr) (H : Hp) : Hp := fun a => if a ∈ S then none else H a
def Le (G G' : Hp) : Prop := ∀ a o, G a = some o → G' a = some o
theorem Le.refl (G : Hp) : Le G G := fun _ _ h => h
theorem Le.trans {A B C : Hp} (h : Le A B) (k : Le B C) : Le A C := fun a o e => k a o (h a o e)
theorem hide_le (S : List Addr) (H : Hp) : Le (hide S H) H := fun a o e => by
  unfold hide at e
  by_cases h : a ∈ S
  · simp [h] at e
  · simpa [h] using e
theorem hide_some {S : List Addr} {H : Hp} {a : Addr} {o : HO} : hide S H a = some o ↔ a ∉ S ∧ H a = some o := by
  unfold hide
  by_cases h : a ∈ S <;> simp [h]
theorem hide_mono {S S' : List Addr} {H H' : Hp} (hS : ∀ a o, a ∉ S → H a = some o → a ∉ S' ∧ H' a = some o) : Le (hide S H) (hide S' H') := fun a o e => by
  rw [hide_some] at e ⊢
  exact hS a o e.1 e.2
theorem Le.seqT {K : PySem.W.Frag} {G G' : Hp} {a : Addr} {xs : List V} (e : Le G G') (h : SqT K G a xs) : SqT K G' a xs := by
  rcases h with (h | ⟨o, h⟩) | h
  · exact .inl (.inl (e _ _ h))
  · exact .inl (.inr ⟨o, e _ _ h⟩)
  · exact .inr h

theorem Le.seqL {K : PySem.W.Frag} {G G' : Hp} {a : Addr} {xs : List V} (e : Le G G') (h : SqL K G a xs) : SqL K G' a xs := by
  rcases h with (h | ⟨o, h⟩) | h
  · exact .inl (.inl (e _ _ h))
  · exact .inl (.inr ⟨o, e _ _ h⟩)
  · exact .inr h

/-- a tuple that could be a key: ints and texts only -/
def keyish (vs : List V) : Bool := !vs.isEmpty && vs.all fun v => match v with
  | .int _ => true
  | .str _ => true
  | _ => false
/-- a tuple; one that could be a key stands in the heap itself -/
def SqU (K : PySem.W.Frag) (G : Hp) (a : Addr) (vs : List V) : Prop := G a = some (.tup vs) ∨ (keyish vs = false ∧ SqT K G a vs)
theorem SqU.of {K : PySem.W.Frag} {G : Hp} {a : Addr} {vs : List V} (h : G a = some (.tup vs)) : SqU K G a vs := .inl h
theorem SqU.t {K : PySem.W.Frag} {G : Hp} {a : Addr} {vs : List V} (h : SqU K G a vs) : SqT K G a vs := h.elim (fun e => .inl (.inl e)) (·.2)
theorem Le.seqU {K : PySem.W.Frag} {G G' : Hp} {a : Addr} {xs : List V} (e : Le G G') (h : SqU K G a xs) : SqU K G' a xs := h.elim (fun k => .inl (e _ _ k)) fun k => .inr ⟨k.1, e.seqT k.2⟩

/-! ### frozen trees -/
mutual
inductive Rf (K : PySem.W.Frag) (mg : Str → Option Value) (G : Hp) : D → V → Prop
  | non : Rf K mg G .non .non
  | bl (b : Bool) : Rf K mg G (.bl b) (.bl b)
  | int (i : Int) : Rf K mg G (.int i) (.int i)
  | str (s : Str) : Rf K mg G (.str s) (.str s)
  | tup {a : Addr} {vs : List V} {ds : List D} : SqU K G a vs → Rfs K mg G ds vs → Rf K mg G (.tup ds) (.ref a)
  | lst {a : Addr} {vs : List V} {ds : List D} : G a = some (.lst vs) → Rfs K mg G ds vs → Rf K mg G (.lst ds) (.ref a)
  | dK {a : Addr} {kvs : List (Key × V)} {kds : List (D × D)} : G a = some (.dK kvs) → kds.map (·.1) = kvs.map (fun p => keyD p.1) → Rfs K mg G (kds.map (·.2)) (kvs.map (·.2)) → Rf K mg G (.dct kds) (.ref a)
  | dT {a : Addr} {kvs : List (List Key × V)} {kds : List (D × D)} : G a = some (.dT kvs) → kds.map (·.1) = kvs.map (fun p => keysD p.1) → Rfs K mg G (kds.map (·.2)) (kvs.map (·.2)) → Rf K mg G (.dtt kds) (.ref a)
  | obj {a C dx : Addr} {fvs : List (Str × V)} {fds : List (Str × D)} {c : Str} : mg c = some (.ref C) → G a = some (.ins C dx fvs) → fds.map (·.1) = fvs.map (·.1) → Rfs K mg G (fds.map (·.2)) (fvs.map (·.2)) → Rf K mg G (.obj c fds) (.ref a)
  | scr {a : Addr} {ns : List Int} : SqL K G a (ns.map V.int) → Rf K mg G (.scr ns) (.ref a)
inductive Rfs (K : PySem.W.Frag) (mg : Str → Option Value) (G : Hp) : List D → List V → Prop
  | nil : Rfs K mg G [] []
  | cons {d : D} {v : V} {ds : List D} {vs : List V} : Rf K mg G d v → Rfs K mg G ds vs → Rfs K mg G (d :: ds) (v :: vs)
end

section
variable {K : PySem.W.Frag} {mg : Str → Option Value} {G G' : Hp}
mutual
theorem Rf.mono (e : Le G G') : ∀ {d : D} {v : V}, Rf K mg G d v → Rf K mg G' d v
  | _, _, .non => .non
  | _, _, .bl b => .bl b
  | _, _, .int i => .int i
  | _, _, .str s => .str s
  | _, _, .tup h r => .tup (e.seqU h) (Rfs.mono e r)
  | _, _, .lst h r => .lst (e _ _ h) (Rfs.mono e r)
  | _, _, .dK h k r => .dK (e _ _ h) k (Rfs.mono e r)
  | _, _, .dT h k r => .dT (e _ _ h) k (Rfs.mono e r)
  | _, _, .obj m h k r => .obj m (e _ _ h) k (Rfs.mono e r)
  | _, _, .scr h => .scr (e.seqL h)
theorem Rfs.mono (e : Le G G') : ∀ {ds : List D} {vs : List V}, Rfs K mg G ds vs → Rfs K mg G' ds vs
  | _, _, .nil => .nil
  | _, _, .cons h r => .cons (Rf.mono e h) (Rfs.mono e r)
end
theorem Rfs.length : ∀ {ds : List D} {vs : List V}, Rfs K mg G ds vs → ds.length = vs.length
  | _, _, .nil => rfl
  | _, _, .cons _ r => congrArg (· + 1) (Rfs.length r)
theorem Rfs.get : ∀ {ds : List D} {vs : List V} {i : Nat} {d : D}, Rfs K mg G ds vs → ds[i]? = some d → ∃ v, vs[i]? = some v ∧ Rf K mg G d v
  | _, _, 0, _, .cons h _, e => ⟨_, rfl, by simpa using (Option.some.inj e) ▸ h⟩
  | _, _, i + 1, _, .cons _ r, e => Rfs.get (i := i) r (by simpa using e)
  | _, _, _, _, .nil, e => by simp at e
theorem Rfs.get' {ds : List D} {vs : List V} {i : Nat} {v : V} (r : Rfs K mg G ds vs) (e : vs[i]? = some v) : ∃ d, ds[i]? = some d ∧ Rf K mg G d v := by
  have hl := r.length
  have hi : i < ds.length := by
    have := (List.getElem?_eq_some_iff.mp e).1
    omega
  obtain ⟨v', e', q⟩ := Rfs.get r (List.getElem?_eq_getElem hi)
  rw [e] at e'; cases e'
  exact ⟨_, List.getElem?_eq_getElem hi, q⟩
theorem Rfs.append : ∀ {ds es : List D} {vs ws : List V}, Rfs K mg G ds vs → Rfs K mg G es ws → Rfs K mg G (ds ++ es) (vs ++ ws)
  | _, _, _, _, .nil, s => s
  | _, _, _, _, .cons h r, s => .cons h (Rfs.append r s)
theorem Rfs.take : ∀ {ds : List D} {vs : List V} (n : Nat), Rfs K mg G ds vs → Rfs K mg G (ds.take n) (vs.take n)
  | _, _, 0, _ => by simpa using Rfs.nil
  | _, _, _ + 1, .nil => .nil
  | _, _, n + 1, .cons h r => .cons h (Rfs.take n r)
theorem Rfs.drop : ∀ {ds : List D} {vs : List V} (n : Nat), Rfs K mg G ds vs → Rfs K mg G (ds.drop n) (vs.drop n)
  | _, _, 0, r => r
  | _, _, _ + 1, .nil => .nil
  | _, _, n + 1, .cons _ r => Rfs.drop n r
theorem Rfs.set : ∀ {ds : List D} {vs : List V} {d : D} {v : V} (i : Nat), Rfs K mg G ds vs → Rf K mg G d v → Rfs K mg G (ds.set i d) (vs.set i v)
  | _, _, _, _, _, .nil, _ => .nil
  | _, _, _, _, 0, .cons _ r, h => .cons h r
  | _, _, _, _, i + 1, .cons q r, h => .cons q (Rfs.set i r h)
theorem Rfs.one {d : D} {v : V} (h : Rf K mg G d v) : Rfs K mg G [d] [v] := .cons h .nil
theorem Rfs.reverse : ∀ {ds : List D} {vs : List V}, Rfs K mg G ds vs → Rfs K mg G ds.reverse vs.reverse
  | _, _, .nil => .nil
  | _, _, .cons h r => by
    rw [List.reverse_cons, List.reverse_cons]
    exact (Rfs.reverse r).append (.one h)
theorem Rfs.rep {ds : List D} {vs : List V} (h : Rfs K mg G ds vs) : ∀ n : Nat, Rfs K mg G (List.replicate n ds).flatten (List.replicate n vs).flatten
  | 0 => .nil
  | n + 1 => by
    rw [List.replicate_succ, List.replicate_succ, List.flatten_cons, List.flatten_cons]
    exact h.append (Rfs.rep h n)
theorem Rfs.ints : ∀ {ns : List Int} {vs : List V}, Rfs K mg G (ns.map D.int) vs → vs = ns.map V.int
  | [], _, .nil => rfl
  | _ :: _, _, .cons (.int _) r => congrArg _ (Rfs.ints r)
theorem Rfs.of_ints : ∀ (ns : List Int), Rfs K mg G (ns.map D.int) (ns.map V.int)
  | [] => .nil
  | n :: r => .cons (.int n) (Rfs.of_ints r)
theorem Rfs.bls : ∀ {ns : List Bool} {vs : List V}, Rfs K mg G (ns.map D.bl) vs → vs = ns.map V.bl
  | [], _, .nil => rfl
  | _ :: _, _, .cons (.bl _) r => congrArg _ (Rfs.bls r)
end

/-! ### kinds of slots; trees with owned parts -/
inductive Ty where
  | no | sh | oL (t : Ty) | oK (t : Ty) | oT (t : Ty) | oO (c : Str) (ns : List Str) (l : List Ty)
  deriving Inhabited

mutual
inductive Rp (K : PySem.W.Frag) (mg : Str → Option Value) (H G : Hp) : Ty → D → V → List Addr → Prop
  | sh {d : D} {v : V} : Rf K mg G d v → Rp K mg H G .sh d v []
  | oL {t : Ty} {a : Addr} {vs : List V} {ds : List D} {f : List Addr} : H a = some (.lst vs) → Rps K mg H G (List.replicate ds.length t) ds vs f → Rp K mg H G (.oL t) (.lst ds) (.ref a) (a :: f)
  | oK {t : Ty} {a : Addr} {kvs : List (Key × V)} {kds : List (D × D)} {f : List Addr} : H a = some (.dK kvs) → kds.map (·.1) = kvs.map (fun p => keyD p.1) →
      Rps K mg H G (List.replicate kds.length t) (kds.map (·.2)) (kvs.map (·.2)) f → Rp K mg H G (.oK t) (.dct kds) (.ref a) (a :: f)
  | oT {t : Ty} {a : Addr} {kvs : List (List Key × V)} {kds : List (D × D)} {f : List Addr} : H a = some (.dT kvs) → kds.map (·.1) = kvs.map (fun p => keysD p.1) →
      Rps K mg H G (List.replicate kds.length t) (kds.map (·.2)) (kvs.map (·.2)) f → Rp K mg H G (.oT t) (.dtt kds) (.ref a) (a :: f)
  | nT {t : Ty} : Rp K mg H G (.oT t) .non .non []
  | oO {ts : List Ty} {ns : List Str} {a C dx : Addr} {fvs : List (Str × V)} {fds : List (Str × D)} {c : Str} {f : List Addr} : mg c = some (.ref C) → H a = some (.ins C dx fvs) → fds.map (·.1) = ns ∧ fvs.map (·.1) = ns →
      Rps K mg H G ts (fds.map (·.2)) (fvs.map (·.2)) f → Rp K mg H G (.oO c ns ts) (.obj c fds) (.ref a) (a :: f)
inductive Rps (K : PySem.W.Frag) (mg : Str → Option Value) (H G : Hp) : List Ty → List D → List V → List Addr → Prop
  | nil : Rps K mg H G [] [] [] []
  | cons {t : Ty} {d : D} {v : V} {f g : List Addr} {ts : List Ty} {ds : List D} {vs : List V} : Rp K mg H G t d v f → Rps K mg H G ts ds vs g → Rps K mg H G (t :: ts) (d :: ds) (v :: vs) (f ++ g)
end

section
variable {K : PySem.W.Frag} {mg : Str → Option Value} {H H' G G' : Hp}
mutual
theorem Rp.mono (e : Le G G') : ∀ {t : Ty} {d : D} {v : V} {f : List Addr}, (∀ a ∈ f, H' a = H a) → Rp K mg H G t d v f → Rp K mg H' G' t d v f
  | _, _, _, _, _, .sh r => .sh (r.mono e)
  | _, _, _, _, k, .oL h r => .oL ((k _ (by simp)).trans h) (Rps.mono e (fun a ha => k a (List.mem_cons_of_mem _ ha)) r)
  | _, _, _, _, k, .oK h n r => .oK ((k _ (by simp)).trans h) n (Rps.mono e (fun a ha => k a (List.mem_cons_of_mem _ ha)) r)
  | _, _, _, _, k, .oT h n r => .oT ((k _ (by simp)).trans h) n (Rps.mono e (fun a ha => k a (List.mem_cons_of_mem _ ha)) r)
  | _, _, _, _, _, .nT => .nT
  | _, _, _, _, k, .oO m h n r => .oO m ((k _ (by simp)).trans h) n (Rps.mono e (fun a ha => k a (List.mem_cons_of_mem _ ha)) r)
theorem Rps.mono (e : Le G G') : ∀ {ts : List Ty} {ds : List D} {vs : List V} {f : List Addr}, (∀ a ∈ f, H' a = H a) → Rps K mg H G ts ds vs f → Rps K mg H' G' ts ds vs f
  | _, _, _, _, _, .nil => .nil
  | _, _, _, _, k, .cons h r => .cons (Rp.mono e (fun a ha => k a (List.mem_append_left _ ha)) h) (Rps.mono e (fun a ha => k a (List.mem_append_right _ ha)) r)
end
mutual
/-- the owned parts given away: a frozen tree -/
theorem Rp.frz (e : Le G G') : ∀ {t : Ty} {d : D} {v : V} {f : List Addr}, (∀ a ∈ f, ∀ o, H a = some o → G' a = some o) → Rp K mg H G t d v f → Rf K mg G' d v
  | _, _, _, _, _, .sh r => r.mono e
  | _, _, _, _, k, .oL h r => .lst (k _ (by simp) _ h) (Rps.frz e (fun a ha => k a (List.mem_cons_of_mem _ ha)) r)
  | _, _, _, _, k, .oK h n r => .dK (k _ (by simp) _ h) n (Rps.frz e (fun a ha => k a (List.mem_cons_of_mem _ ha)) r)
  | _, _, _, _, k, .oT h n r => .dT (k _ (by simp) _ h) n (Rps.frz e (fun a ha => k a (List.mem_cons_of_mem _ ha)) r)
  | _, _, _, _, _, .nT => .non
  | _, _, _, _, k, .oO m h n r => .obj m (k _ (by simp) _ h) (n.1.trans n.2.symm) (Rps.frz e (fun a ha => k a (List.mem_cons_of_mem _ ha)) r)
theorem Rps.frz (e : Le G G') : ∀ {ts : List Ty} {ds : List D} {vs : List V} {f : List Addr}, (∀ a ∈ f, ∀ o, H a = some o → G' a = some o) → Rps K mg H G ts ds vs f → Rfs K mg G' ds vs
  | _, _, _, _, _, .nil => .nil
  | _, _, _, _, k, .cons h r => .cons (Rp.frz e (fun a ha => k a (List.mem_append_left _ ha)) h) (Rps.frz e (fun a ha => k a (List.mem_append_right _ ha)) r)
end
/-- what may stand at an owned address -/
def Own : HO → Prop
  | .lst _ => True
  | .dK _ => True
  | .dT _ => True
  | .ins _ _ _ => True
  | _ => False
mutual
theorem Rp.there : ∀ {t : Ty} {d : D} {v : V} {f : List Addr}, Rp K mg H G t d v f → ∀ a ∈ f, ∃ o, H a = some o ∧ Own o
  | _, _, _, _, .sh _, _, h => nomatch h
  | _, _, _, _, .oL h r, a, ha => (List.mem_cons.mp ha).elim (fun z => by subst z; exact ⟨_, h, trivial⟩) (Rps.there r a)
  | _, _, _, _, .oK h n r, a, ha => (List.mem_cons.mp ha).elim (fun z => by subst z; exact ⟨_, h, trivial⟩) (Rps.there r a)
  | _, _, _, _, .oT h n r, a, ha => (List.mem_cons.mp ha).elim (fun z => by subst z; exact ⟨_, h, trivial⟩) (Rps.there r a)
  | _, _, _, _, .nT, _, h => nomatch h
  | _, _, _, _, .oO m h n r, a, ha => (List.mem_cons.mp ha).elim (fun z => by subst z; exact ⟨_, h, trivial⟩) (Rps.there r a)
theorem Rps.there : ∀ {ts : List Ty} {ds : List D} {vs : List V} {f : List Addr}, Rps K mg H G ts ds vs f → ∀ a ∈ f, ∃ o, H a = some o ∧ Own o
  | _, _, _, _, .nil, _, h => nomatch h
  | _, _, _, _, .cons h r, a, ha => (List.mem_append.mp ha).elim (Rp.there h a) (Rps.there r a)
end
theorem Rps.of_sh : ∀ {ds : List D} {vs : List V}, Rfs K mg G ds vs → Rps K mg H G (List.replicate ds.length .sh) ds vs []
  | _, _, .nil => .nil
  | _, _, .cons h r => by
    have q := Rps.cons (Rp.sh (K := K) (mg := mg) (H := H) h) (Rps.of_sh r)
    exact q
theorem Rps.to_sh : ∀ {n : Nat} {ds : List D} {vs : List V} {f : List Addr}, Rps K mg H G (List.replicate n .sh) ds vs f → Rfs K mg G ds vs ∧ f = []
  | 0, _, _, _, r => by cases r; exact ⟨.nil, rfl⟩
  | n + 1, _, _, _, r => by
    rw [List.replicate_succ] at r
    cases r with
    | cons h r =>
      cases h with
      | sh q =>
        obtain ⟨q2, e⟩ := Rps.to_sh r
        subst e
        exact ⟨.cons q q2, rfl⟩
end

/-! ### the slots -/
inductive Sl (K : PySem.W.Frag) (mg : Str → Option Value) (H G : Hp) : List Ty → List D → L2.St → List Addr → Prop
  | nil : Sl K mg H G [] [] [] []
  | no {d : D} {v : Option V} {ts : List Ty} {ds : List D} {vs : L2.St} {f : List Addr} : Sl K mg H G ts ds vs f → Sl K mg H G (.no :: ts) (d :: ds) (v :: vs) f
  | cons {t : Ty} {d : D} {v : V} {ts : List Ty} {ds : List D} {vs : L2.St} {f g : List Addr} : Rp K mg H G t d v f → Sl K mg H G ts ds vs g → Sl K mg H G (t :: ts) (d :: ds) (some v :: vs) (f ++ g)

section
variable {K : PySem.W.Frag} {mg : Str → Option Value} {H H' G G' : Hp}
theorem Sl.mono (e : Le G G') : ∀ {τ : List Ty} {ρ : List D} {σ : L2.St} {f : List Addr}, (∀ a ∈ f, H' a = H a) → Sl K mg H G τ ρ σ f → Sl K mg H' G' τ ρ σ f
  | _, _, _, _, _, .nil => .nil
  | _, _, _, _, k, .no r => .no (Sl.mono e k r)
  | _, _, _, _, k, .cons h r => .cons (h.mono e fun a ha => k a (List.mem_append_left _ ha)) (Sl.mono e (fun a ha => k a (List.mem_append_right _ ha)) r)
theorem Sl.there : ∀ {τ : List Ty} {ρ : List D} {σ : L2.St} {f : List Addr}, Sl K mg H G τ ρ σ f → ∀ a ∈ f, ∃ o, H a = some o ∧ Own o
  | _, _, _, _, .nil, _, h => nomatch h
  | _, _, _, _, .no r, a, ha => Sl.there r a ha
  | _, _, _, _, .cons h r, a, ha => (List.mem_append.mp ha).elim (h.there a) (Sl.there r a)
theorem Sl.len : ∀ {τ : List Ty} {ρ : List D} {σ : L2.St} {f : List Addr}, Sl K mg H G τ ρ σ f → τ.length = ρ.length ∧ σ.length = ρ.length
  | _, _, _, _, .nil => ⟨rfl, rfl⟩
  | _, _, _, _, .no r => by have := Sl.len r; simp [this.1, this.2]
  | _, _, _, _, .cons h r => by have := Sl.len r; simp [this.1, this.2]
/-- one slot taken out, something else put in, in another heap -/
theorem Sl.split : ∀ {τ : List Ty} {ρ : List D} {σ : L2.St} {f : List Addr} {i : Nat} {t : Ty}, Sl K mg H G τ ρ σ f → τ[i]? = some t →
    ∃ f1 fo f2, f = f1 ++ fo ++ f2 ∧ ((t = .no ∧ fo = []) ∨ ∃ v, σ[i]? = some (some v) ∧ Rp K mg H G t (ρ.getD i .non) v fo) ∧ i < ρ.length ∧
      (∀ {H' G' : Hp} {t' : Ty} {d' : D} {v' : V} {f' : List Addr}, (∀ a ∈ f1 ++ f2, H' a = H a) → Le G G' → Rp K mg H' G' t' d' v' f' → Sl K mg H' G' (τ.set i t') (ρ.set i d') (σ.set i (some v')) (f1 ++ f' ++ f2)) ∧
      (∀ {H' G' : Hp} {t' : Ty} {d' : D} {v' : V} {f' : List Addr}, (∀ a ∈ f1 ++ f2, H' a = H a) → Le G G' → σ[i]? = some (some v') → Rp K mg H' G' t' d' v' f' → Sl K mg H' G' (τ.set i t') (ρ.set i d') σ (f1 ++ f' ++ f2)) ∧
      (∀ {H' G' : Hp} {d' : D}, (∀ a ∈ f1 ++ f2, H' a = H a) → Le G G' → Sl K mg H' G' (τ.set i .no) (ρ.set i d') σ (f1 ++ f2))
  | _, _, _, _, _, _, .nil, e => by simp at e
  | _, _, _, _, 0, t, .no (d := d) (v := v) (f := f) r, e => by
    have e' : Ty.no = t := by simpa using e
    subst e'
    refine ⟨[], [], f, by simp, .inl ⟨rfl, rfl⟩, by simp, fun {H' G' t' d' v' f'} k le h => ?_, fun {H' G' t' d' v' f'} k le ev h => ?_, fun {H' G' d'} k le => ?_⟩
    · exact .cons h (r.mono le fun a ha => k a (by simpa using ha))
    · have : v = some v' := by simpa using ev
      subst this
      exact .cons h (r.mono le fun a ha => k a (by simpa using ha))
    · exact .no (r.mono le fun a ha => k a (by simpa using ha))
  | _, _, _, _, 0, t, .cons (t := t0) (d := d) (v := v) (f := f0) (g := g) h0 r, e => by
    have e' : t0 = t := by simpa using e
    subst e'
    refine ⟨[], f0, g, by simp, .inr ⟨v, rfl, by simpa using h0⟩, by simp, fun {H' G' t' d' v' f'} k le h => ?_, fun {H' G' t' d' v' f'} k le ev h => ?_, fun {H' G' d'} k le => ?_⟩
    · exact .cons h (r.mono le fun a ha => k a (by simpa using ha))
    · have : v = v' := by simpa using ev
      subst this
      exact .cons h (r.mono le fun a ha => k a (by simpa using ha))
    · exact .no (r.mono le fun a ha => k a (by simpa using ha))
  | _, _, _, _, i + 1, t, .no (d := d) (v := v) r, e => by
    obtain ⟨f1, fo, f2, ef, ho, hi, h1, h2, h3⟩ := Sl.split (i := i) r (by simpa using e)
    refine ⟨f1, fo, f2, ef, ?_, by simpa using hi, fun k le h => ?_, fun k le ev h => ?_, fun k le => ?_⟩
    · rcases ho with ho | ⟨v, e1, q⟩
      · exact .inl ho
      · exact .inr ⟨v, by simpa using e1, by simpa using q⟩
    · exact .no (h1 k le h)
    · exact .no (h2 k le (by simpa using ev) h)
    · exact .no (h3 k le)
  | _, _, _, _, i + 1, t, .cons (t := t0) (d := d) (v := v) (f := f0) (g := g) h0 r, e => by
    obtain ⟨f1, fo, f2, ef, ho, hi, h1, h2, h3⟩ := Sl.split (i := i) r (by simpa using e)
    refine ⟨f0 ++ f1, fo, f2, by rw [ef]; simp, ?_, by simpa using hi, fun {H' G' t' d' v' f'} k le h => ?_, fun {H' G' t' d' v' f'} k le ev h => ?_, fun {H' G' d'} k le => ?_⟩
    · rcases ho with ho | ⟨v, e1, q⟩
      · exact .inl ho
      · exact .inr ⟨v, by simpa using e1, by simpa using q⟩
    · have := Sl.cons (h0.mono le fun a ha => k a (by simp [ha])) (h1 (fun a ha => k a (by simp at ha ⊢; rcases ha with h | h <;> simp [h])) le h)
      simpa using this
    · have := Sl.cons (h0.mono le fun a ha => k a (by simp [ha])) (h2 (fun a ha => k a (by simp at ha ⊢; rcases ha with h | h <;> simp [h])) le (by simpa using ev) h)
      simpa using this
    · have := Sl.cons (h0.mono le fun a ha => k a (by simp [ha])) (h3 (fun a ha => k a (by simp at ha ⊢; rcases ha with h | h <;> simp [h])) le (d' := d'))
      simpa using this
end
end TL

namespace TL
open PySem PySem.Spec PyProof.Rows L2

abbrev Rho := List D
/-- a value, or the slot of an owned list that is read where it is used -/
inductive Hd where
  | v (d : D) | x (i : Nat)
def Hd.res (h : Hd) (ρ : Rho) : D := match h with
  | .v d => d
  | .x i => ρ.getD i .non
abbrev Ef := Rho → Option (Hd × Rho)
abbrev Of := Rho → Option (D × Rho)
abbrev Tf := Rho → Option (Bool × Rho)
abbrev Af := Rho → Option (List Hd × Rho)

def Grow (H H' : Hp) : Prop := ∀ a o, H a = some o → H' a = some o
theorem Grow.refl (H : Hp) : Grow H H := fun _ _ h => h
theorem Grow.trans {A B C : Hp} (h : Grow A B) (k : Grow B C) : Grow A C := fun a o e => k a o (h a o e)
theorem Grow.upd {H : Hp} {p : Addr} {o : HO} (h : H p = none) : Grow H (upd H p o) := fun a u e => by
  rw [upd_ne (ne_of_none e h)]; exact e
theorem Grow.free {H H' : Hp} (g : Grow H H') {p : Addr} (h : H' p = none) : H p = none := by
  cases e : H p with
  | none => rfl
  | some o => rw [g _ _ e] at h; cases h

structure Step (H H' : Hp) (fs fs' : List Addr) : Prop where
  ext : ∀ a o, a ∉ fs → H a = some o → H' a = some o
  sub : ∀ a ∈ fs', a ∈ fs ∨ H a = none
  ne : ∀ a o, H a = some o → ∃ o', H' a = some o'
theorem Step.refl (H : Hp) (fs : List Addr) : Step H H fs fs := ⟨fun _ _ _ h => h, fun _ h => .inl h, fun _ o h => ⟨o, h⟩⟩
theorem Step.grow {H H' : Hp} (g : Grow H H') (fs : List Addr) : Step H H' fs fs := ⟨fun a o _ h => g a o h, fun _ h => .inl h, fun a o h => ⟨o, g a o h⟩⟩
theorem Step.trans {A B C : Hp} {f g h : List Addr} (s : Step A B f g) (t : Step B C g h) : Step A C f h where
  ext := fun a o n e => by
    refine t.ext a o (fun z => ?_) (s.ext a o n e)
    rcases s.sub a z with q | q
    · exact n q
    · rw [q] at e; cases e
  sub := fun a ha => by
    rcases t.sub a ha with q | q
    · exact s.sub a q
    · cases e : A a with
      | none => exact .inr rfl
      | some o =>
        obtain ⟨o', e'⟩ := s.ne a o e
        rw [e'] at q; cases q
  ne := fun a o e => by
    obtain ⟨o', e'⟩ := s.ne a o e
    exact t.ne a o' e'
theorem Step.less {H H' : Hp} {f g h : List Addr} (s : Step H H' f g) (k : ∀ a ∈ h, a ∈ g) : Step H H' f h := ⟨s.ext, fun a ha => s.sub a (k a ha), s.ne⟩

/-- the state: R held elsewhere, the slots' owned parts at fs -/
structure SR (K : PySem.W.Frag) (mg : Str → Option Value) (R : List Addr) (τ : List Ty) (ρ : Rho) (σ : L2.St) (H : Hp) (fs : List Addr) : Prop where
  sl : Sl K mg H (hide (R ++ fs) H) τ ρ σ fs
  nd : (R ++ fs).Nodup
  al : ∀ a ∈ R, ∃ o, H a = some o ∧ Own o

section
variable {K : PySem.W.Frag} {mg : Str → Option Value} {R : List Addr} {τ : List Ty} {ρ : Rho} {σ : L2.St} {H H' : Hp} {fs fs' : List Addr}
theorem hide_grow (S : List Addr) (g : Grow H H') : Le (hide S H) (hide S H') := hide_mono fun a o n e => ⟨n, g a o e⟩
theorem SR.own (s : SR K mg R τ ρ σ H fs) : ∀ a ∈ R ++ fs, ∃ o, H a = some o ∧ Own o := fun a ha => (List.mem_append.mp ha).elim (s.al a) (s.sl.there a)
theorem SR.grow (s : SR K mg R τ ρ σ H fs) (g : Grow H H') : SR K mg R τ ρ σ H' fs := by
  refine ⟨s.sl.mono (hide_grow _ g) fun a ha => ?_, s.nd, fun a ha => ?_⟩
  · obtain ⟨o, e, _⟩ := s.sl.there a ha
    rw [e, g a o e]
  · obtain ⟨o, e, q⟩ := s.al a ha
    exact ⟨o, g a o e, q⟩
theorem SR.fresh (s : SR K mg R τ ρ σ H fs) {p : Addr} (h : H p = none) : p ∉ R ++ fs := fun hp => by
  obtain ⟨o, e, _⟩ := s.own p hp
  rw [e] at h; cases h
/-- frozen parts stay behind a step -/
theorem SR.le (s : SR K mg R τ ρ σ H fs) (t : Step H H' fs fs') : Le (hide (R ++ fs) H) (hide (R ++ fs') H') := hide_mono fun a o n e => by
  have n1 : a ∉ R := fun z => n (List.mem_append_left _ z)
  have n2 : a ∉ fs := fun z => n (List.mem_append_right _ z)
  refine ⟨fun z => ?_, t.ext a o n2 e⟩
  rcases List.mem_append.mp z with z | z
  · exact n1 z
  · rcases t.sub a z with q | q
    · exact n2 q
    · rw [q] at e; cases e
/-- a frozen tree, relative to a whole heap; flat owned lists and dicts seen from outside -/
inductive Rv (K : PySem.W.Frag) (mg : Str → Option Value) (S : List Addr) (H : Hp) : D → V → Prop
  | rf {d : D} {v : V} : Rf K mg (hide S H) d v → Rv K mg S H d v
  | lst {a : Addr} {vs : List V} {ds : List D} : H a = some (.lst vs) → Rfs K mg (hide S H) ds vs → Rv K mg S H (.lst ds) (.ref a)
  | dK {a : Addr} {kvs : List (Key × V)} {kds : List (D × D)} : H a = some (.dK kvs) → kds.map (·.1) = kvs.map (fun p => keyD p.1) → Rfs K mg (hide S H) (kds.map (·.2)) (kvs.map (·.2)) → Rv K mg S H (.dct kds) (.ref a)
  | dT {a : Addr} {kvs : List (List Key × V)} {kds : List (D × D)} : H a = some (.dT kvs) → kds.map (·.1) = kvs.map (fun p => keysD p.1) → Rfs K mg (hide S H) (kds.map (·.2)) (kvs.map (·.2)) → Rv K mg S H (.dtt kds) (.ref a)
def flatT : Ty → Bool
  | .sh => true
  | .oL .sh => true
  | .oK .sh => true
  | .oT .sh => true
  | _ => false
theorem Rp.rv {S : List Addr} {t : Ty} {d : D} {v : V} {f : List Addr} (ft : flatT t = true) (r : Rp K mg H (hide S H) t d v f) : Rv K mg S H d v := by
  cases r with
  | sh q => exact .rf q
  | @oL t' a vs ds f e q =>
    cases t' <;> simp [flatT] at ft
    exact .lst e q.to_sh.1
  | @oK t' a kvs kds f e n q =>
    cases t' <;> simp [flatT] at ft
    have hl : kds.length = (kds.map (·.2)).length := by simp
    exact .dK e n q.to_sh.1
  | @oT t' a kvs kds f e n q =>
    cases t' <;> simp [flatT] at ft
    exact .dT e n q.to_sh.1
  | nT => exact .rf .non
  | oO => simp [flatT] at ft
/-- what a handle is -/
def RH (K : PySem.W.Frag) (mg : Str → Option Value) (S : List Addr) (τ : List Ty) (σ : L2.St) (H : Hp) (h : Hd) (v : V) : Prop := match h with
  | .v d => Rf K mg (hide S H) d v
  | .x i => σ[i]? = some (some v) ∧ ∃ t, τ[i]? = some t ∧ flatT t = true
theorem SR.get (s : SR K mg R τ ρ σ H fs) {i : Nat} {t : Ty} (e : τ[i]? = some t) (n : t ≠ .no) : ∃ v f, σ[i]? = some (some v) ∧ Rp K mg H (hide (R ++ fs) H) t (ρ.getD i .non) v f ∧ ∀ a ∈ f, a ∈ fs := by
  obtain ⟨f1, fo, f2, ef, ho, _⟩ := s.sl.split e
  rcases ho with ⟨rfl, _⟩ | ⟨v, ev, q⟩
  · exact absurd rfl n
  · exact ⟨v, fo, ev, q, fun a ha => by rw [ef]; simp [ha]⟩
theorem SR.res (s : SR K mg R τ ρ σ H fs) {h : Hd} {v : V} (r : RH K mg (R ++ fs) τ σ H h v) : Rv K mg (R ++ fs) H (h.res ρ) v := by
  cases h with
  | v d => exact .rf r
  | x i =>
    obtain ⟨ev, t, et, ft⟩ := r
    obtain ⟨v', f, ev', q, _⟩ := s.get et (by intro z; rw [z] at ft; cases ft)
    rw [ev] at ev'; cases ev'
    exact q.rv ft
theorem SR.holdH (s : SR K mg R τ ρ σ H fs) (t : Step H H' fs fs') {h : Hd} {v : V} (r : RH K mg (R ++ fs) τ σ H h v) : RH K mg (R ++ fs') τ σ H' h v := by
  cases h with
  | v d => exact Rf.mono (s.le t) r
  | x i => exact r
inductive RHs (K : PySem.W.Frag) (mg : Str → Option Value) (S : List Addr) (τ : List Ty) (σ : L2.St) (H : Hp) : List Hd → List V → Prop
  | nil : RHs K mg S τ σ H [] []
  | cons {h : Hd} {v : V} {hs : List Hd} {vs : List V} : RH K mg S τ σ H h v → RHs K mg S τ σ H hs vs → RHs K mg S τ σ H (h :: hs) (v :: vs)
theorem RHs.vals : ∀ {hs : List Hd} {vs : List V} {S : List Addr} {ds : List D}, RHs K mg S τ σ H hs vs → hs = ds.map .v → Rfs K mg (hide S H) ds vs
  | _, _, _, [], .nil, _ => .nil
  | _, _, _, d :: ds, .nil, e => by simp at e
  | _, _, _, [], .cons _ _, e => by simp at e
  | _, _, _, d :: ds, .cons h r, e => by
    simp at e
    obtain ⟨rfl, e⟩ := e
    exact .cons h (RHs.vals r e)
end

/-! ### the judgements -/
def tD (X : Cx) (τ : List Ty) (f : Ef) : TE := fun σ H Q => ∃ R ρ fs h ρ', SR X.K X.mg R τ ρ σ H fs ∧ f ρ = some (h, ρ') ∧
  ∀ v H' fs', Step H H' fs fs' → SR X.K X.mg R τ ρ' σ H' fs' → RH X.K X.mg (R ++ fs') τ σ H' h v → Q v H'
def tO (X : Cx) (τ : List Ty) (f : Of) (t : Ty) : TE := fun σ H Q => ∃ R ρ fs d ρ', SR X.K X.mg R τ ρ σ H fs ∧ f ρ = some (d, ρ') ∧
  ∀ v H' fs' fv, Step H H' fs (fv ++ fs') → SR X.K X.mg (fv ++ R) τ ρ' σ H' fs' → Rp X.K X.mg H' (hide (fv ++ R ++ fs') H') t d v fv → Q v H'
def tT (X : Cx) (τ : List Ty) (f : Tf) : TT := fun σ H Q => ∃ R ρ fs b ρ', SR X.K X.mg R τ ρ σ H fs ∧ f ρ = some (b, ρ') ∧
  ∀ H' fs', Step H H' fs fs' → SR X.K X.mg R τ ρ' σ H' fs' → Q b H'
def tA (X : Cx) (τ : List Ty) (f : Af) : TA := fun σ H Q => ∃ R ρ fs hs ρ', SR X.K X.mg R τ ρ σ H fs ∧ f ρ = some (hs, ρ') ∧
  ∀ vs H' fs', Step H H' fs fs' → SR X.K X.mg R τ ρ' σ H' fs' → RHs X.K X.mg (R ++ fs') τ σ H' hs vs → Q vs H'
abbrev DE (X : Cx) (e : Expr) (τ : List Ty) (f : Ef) : Prop := PE X e (tD X τ f)
abbrev DO (X : Cx) (e : Expr) (τ : List Ty) (f : Of) (t : Ty) : Prop := PE X e (tO X τ f t)
abbrev DT (X : Cx) (e : Expr) (τ : List Ty) (f : Tf) : Prop := PT X e (tT X τ f)
abbrev DA (X : Cx) (es : List Expr) (τ : List Ty) (f : Af) : Prop := PA X es (tA X τ f)

theorem pe_imp {X : Cx} {e : Expr} {t t' : TE} (h : PE X e t) (k : ∀ σ H Q, t' σ H Q → t σ H Q) : PE X e t' := ⟨fun pins s σ H Q I q => h.run pins s σ H Q I (k σ H Q q)⟩
theorem pt_imp {X : Cx} {e : Expr} {t t' : TT} (h : PT X e t) (k : ∀ σ H Q, t' σ H Q → t σ H Q) : PT X e t' := ⟨fun pins s σ H Q I q => h.run pins s σ H Q I (k σ H Q q)⟩
theorem pw_imp {X : Cx} {e : Expr} {t t' : TT} (h : PW X e t) (k : ∀ σ H Q, t' σ H Q → t σ H Q) : PW X e t' := ⟨fun wh pins s σ H Q I q => h.run wh pins s σ H Q I (k σ H Q q)⟩
theorem pa_imp {X : Cx} {es : List Expr} {t t' : TA} (h : PA X es t) (k : ∀ σ H Q, t' σ H Q → t σ H Q) : PA X es t' := ⟨fun pos pins s σ H Q I q => h.run pos pins s σ H Q I (k σ H Q q)⟩

/-! ### names, constants -/
def eC (d : D) : Ef := fun ρ => some (.v d, ρ)
def eVar (i : Nat) : Ef := fun ρ => some (.v (ρ.getD i .non), ρ)
def eOwn (i : Nat) : Ef := fun ρ => some (.x i, ρ)
section
variable {X : Cx} {τ : List Ty} {a b c : Expr} {pos : Pos}
theorem de_C {e : Expr} {d : D} {v : V} (h : PE X e (tC v)) (r : ∀ G, Rf X.K X.mg G d v) : DE X e τ (eC d) := pe_imp h fun σ H Q ⟨R, ρ, fs, h, ρ', s, e, q⟩ => by
  cases e
  exact q v H fs (Step.refl H fs) s (r _)
theorem de_int {i j} : DE X (.Constant (.int i) j pos) τ (eC (.int i)) := de_C pe_int fun _ => .int _
theorem de_bl {i j} : DE X (.Constant (.bool i) j pos) τ (eC (.bl i)) := de_C pe_bl fun _ => .bl _
theorem de_non {j} : DE X (.Constant .none j pos) τ (eC .non) := de_C pe_non fun _ => .non
theorem de_str {i j} : DE X (.Constant (.str i) j pos) τ (eC (.str i)) := de_C pe_str fun _ => .str _
theorem de_var {e : Expr} (i : Nat) (h : PE X e (tVar i)) (ht : τ[i]? = some .sh := by rfl) : DE X e τ (eVar i) := pe_imp h fun σ H Q ⟨R, ρ, fs, h, ρ', s, e, q⟩ => by
  cases e
  obtain ⟨v, f, ev, r, _⟩ := s.get ht (by intro z; cases z)
  cases r with
  | sh r => exact ⟨v, ev, q v H fs (Step.refl H fs) s r⟩
theorem de_own {e : Expr} (i : Nat) {t : Ty} (h : PE X e (tVar i)) (ht : τ[i]? = some t := by rfl) (hf : flatT t = true := by rfl) : DE X e τ (eOwn i) := pe_imp h fun σ H Q ⟨R, ρ, fs, h, ρ', s, e, q⟩ => by
  cases e
  obtain ⟨v, f, ev, r, _⟩ := s.get ht (by intro z; rw [z] at hf; cases hf)
  exact ⟨v, ev, q v H fs (Step.refl H fs) s ⟨ev, t, ht, hf⟩⟩

/-! ### operators by values -/
/-- a rule r of HandS does what g says on trees; the result is frozen -/
def OpD (X : Cx) (r : R2) (g : D → D → Option D) : Prop := ∀ (S : List Addr) (H : Hp) (d1 d2 d : D) (v1 v2 : V) (Q : VK), (∀ a ∈ S, ∃ o, H a = some o ∧ Own o) → Rv X.K X.mg S H d1 v1 → Rv X.K X.mg S H d2 v2 → g d1 d2 = some d →
  (∀ v H', Grow H H' → Rf X.K X.mg (hide S H') d v → Q v H') → r v1 v2 H Q
/-- .. the result is a new list -/
def OpO (X : Cx) (r : R2) (g : D → D → Option (List D)) : Prop := ∀ (S : List Addr) (H : Hp) (d1 d2 : D) (ds : List D) (v1 v2 : V) (Q : VK), (∀ a ∈ S, ∃ o, H a = some o ∧ Own o) → Rv X.K X.mg S H d1 v1 → Rv X.K X.mg S H d2 v2 → g d1 d2 = some ds →
  (∀ p vs, H p = none → Rfs X.K X.mg (hide S H) ds vs → Q (.ref p) (upd H p (.lst vs))) → r v1 v2 H Q
def orG {α β γ : Type} (g g' : α → β → Option γ) : α → β → Option γ := fun a b => (g a b).or (g' a b)
theorem OpD.or {r r' : R2} {g g' : D → D → Option D} (h : OpD X r g) (h' : OpD X r' g') : OpD X (fun x y H Q => r x y H Q ∨ r' x y H Q) (orG g g') := fun S H d1 d2 d v1 v2 Q al r1 r2 e q => by
  unfold orG at e
  cases e1 : g d1 d2 with
  | some z =>
    rw [e1] at e
    exact .inl (h S H d1 d2 d v1 v2 Q al r1 r2 (by rw [e1]; exact e) q)
  | none =>
    rw [e1] at e
    exact .inr (h' S H d1 d2 d v1 v2 Q al r1 r2 (by simpa using e) q)
def eBin (g : D → D → Option D) (f1 f2 : Ef) : Ef := fun ρ => (f1 ρ).bind fun p => (f2 p.2).bind fun q => (g (p.1.res q.2) (q.1.res q.2)).bind fun d => some (.v d, q.2)
def eBinO (g : D → D → Option (List D)) (f1 f2 : Ef) : Of := fun ρ => (f1 ρ).bind fun p => (f2 p.2).bind fun q => (g (p.1.res q.2) (q.1.res q.2)).bind fun d => some (.lst d, q.2)
/-- two operands, one after the other -/
theorem two {f1 f2 : Ef} {R : List Addr} {ρ : Rho} {σ : L2.St} {H : Hp} {fs : List Addr} {p q : Hd × Rho} {k : V → V → Hp → Prop} (s : SR X.K X.mg R τ ρ σ H fs) (e1 : f1 ρ = some p) (e2 : f2 p.2 = some q)
    (h : ∀ v1 v2 H' fs', Step H H' fs fs' → SR X.K X.mg R τ q.2 σ H' fs' → RH X.K X.mg (R ++ fs') τ σ H' p.1 v1 → RH X.K X.mg (R ++ fs') τ σ H' q.1 v2 → k v1 v2 H') :
    tD X τ f1 σ H fun x H1 => tD X τ f2 σ H1 fun y H2 => k x y H2 :=
  ⟨R, ρ, fs, p.1, p.2, s, e1, fun v1 H1 fs1 t1 s1 r1 => ⟨R, p.2, fs1, q.1, q.2, s1, e2, fun v2 H2 fs2 t2 s2 r2 => h v1 v2 H2 fs2 (t1.trans t2) s2 (s1.holdH t2 r1) r2⟩⟩
theorem eBin_inv {g : D → D → Option D} {f1 f2 : Ef} {ρ : Rho} {r : Hd × Rho} (e : eBin g f1 f2 ρ = some r) : ∃ p q d, f1 ρ = some p ∧ f2 p.2 = some q ∧ g (p.1.res q.2) (q.1.res q.2) = some d ∧ r = (.v d, q.2) := by
  unfold eBin at e
  cases h1 : f1 ρ with
  | none => rw [h1] at e; cases e
  | some p =>
    rw [h1] at e
    cases h2 : f2 p.2 with
    | none => simp [h2] at e
    | some q =>
      simp only [Option.bind_some, h2] at e
      cases h3 : g (p.1.res q.2) (q.1.res q.2) with
      | none => simp [h3] at e
      | some d =>
        simp only [h3, Option.bind_some, Option.some.injEq] at e
        exact ⟨p, q, d, rfl, h2, h3, e.symm⟩
theorem eBinO_inv {g : D → D → Option (List D)} {f1 f2 : Ef} {ρ : Rho} {r : D × Rho} (e : eBinO g f1 f2 ρ = some r) : ∃ p q d, f1 ρ = some p ∧ f2 p.2 = some q ∧ g (p.1.res q.2) (q.1.res q.2) = some d ∧ r = (.lst d, q.2) := by
  unfold eBinO at e
  cases h1 : f1 ρ with
  | none => rw [h1] at e; cases e
  | some p =>
    rw [h1] at e
    cases h2 : f2 p.2 with
    | none => simp [h2] at e
    | some q =>
      simp only [Option.bind_some, h2] at e
      cases h3 : g (p.1.res q.2) (q.1.res q.2) with
      | none => simp [h3] at e
      | some d =>
        simp only [h3, Option.bind_some, Option.some.injEq] at e
        exact ⟨p, q, d, rfl, h2, h3, e.symm⟩
/-- the reading of a two-place operation -/
theorem tOp_of {r : R2} {g : D → D → Option D} {f1 f2 : Ef} (o : OpD X r g) : ∀ σ H Q, tD X τ (eBin g f1 f2) σ H Q → tOp r (tD X τ f1) (tD X τ f2) σ H Q := fun σ H Q ⟨R, ρ, fs, h, ρ', s, e, k⟩ => by
  obtain ⟨p, q, d, e1, e2, e3, er⟩ := eBin_inv e
  cases er
  refine two s e1 e2 fun v1 v2 H' fs' t s' r1 r2 => ?_
  refine o (R ++ fs') H' _ _ _ v1 v2 Q s'.own (s'.res r1) (s'.res r2) e3 fun v H2 g2 rf => ?_
  exact k v H2 fs' (t.trans (Step.grow g2 _)) (s'.grow g2) rf
theorem de_bin {op : Operator} {r : R2} {g : D → D → Option D} {f1 f2 : Ef} (ho : OpR X (binaryOp op) r) (o : OpD X r g) (ha : DE X a τ f1) (hb : DE X b τ f2) : DE X (.BinOp a op b pos) τ (eBin g f1 f2) := pe_imp (pe_op ho ha hb) (tOp_of o)
theorem de_cmp {op : CmpOp} {r : R2} {g : D → D → Option D} {f1 f2 : Ef} (ho : OpR X (compareOp op) r) (o : OpD X r g) (ha : DE X a τ f1) (hb : DE X b τ f2) (hm : behindInMarks op b = false) : DE X (.Compare a [op] [b] pos) τ (eBin g f1 f2) := pe_imp (pe_cmpR ho ha hb hm) (tOp_of o)
theorem de_ix {r : R2} {g : D → D → Option D} {f1 f2 : Ef} (hr : IxR X r) (o : OpD X r g) (ha : DE X a τ f1) (hb : DE X b τ f2) (hs : PlainIx b) : DE X (.Subscript a b pos) τ (eBin g f1 f2) := pe_imp (pe_ix hr ha hb hs) (tOp_of o)
theorem hide_upd {S : List Addr} {H : Hp} {p : Addr} {o : HO} (h : H p = none) : Le (hide S H) (hide (p :: S) (upd H p o)) := hide_mono fun a u n e => by
  have ne : a ≠ p := ne_of_none e h
  exact ⟨by simp [ne, n], by rw [upd_ne ne]; exact e⟩
theorem hide_upd' {S S' : List Addr} {H : Hp} {p : Addr} {o : HO} (h : H p = none) (k : ∀ a, a ∈ S' → a = p ∨ a ∈ S) : Le (hide S H) (hide S' (upd H p o)) := hide_mono fun a u n e => by
  have ne : a ≠ p := ne_of_none e h
  exact ⟨fun z => (k a z).elim ne n, by rw [upd_ne ne]; exact e⟩
/-- a new list at p: owned by the value -/
theorem SR.newL {R : List Addr} {ρ : Rho} {σ : L2.St} {H : Hp} {fs : List Addr} {p : Addr} {vs : List V} {ds : List D} (s : SR X.K X.mg R τ ρ σ H fs) (hp : H p = none) (r : Rfs X.K X.mg (hide (R ++ fs) H) ds vs) :
    SR X.K X.mg ([p] ++ R) τ ρ σ (upd H p (.lst vs)) fs ∧ Rp X.K X.mg (upd H p (.lst vs)) (hide ([p] ++ R ++ fs) (upd H p (.lst vs))) (.oL .sh) (.lst ds) (.ref p) [p] ∧ Step H (upd H p (.lst vs)) fs ([p] ++ fs) := by
  have hf := s.fresh hp
  have le : Le (hide (R ++ fs) H) (hide ([p] ++ R ++ fs) (upd H p (.lst vs))) := hide_upd' hp fun a z => by simpa using z
  have np : ∀ a ∈ R ++ fs, a ≠ p := fun a ha e => hf (e ▸ ha)
  refine ⟨⟨s.sl.mono le fun a ha => upd_ne (np a (List.mem_append_right _ ha)), ?_, fun a ha => ?_⟩, ?_, ⟨fun a o _ e => ?_, fun a ha => ?_, fun a o e => ?_⟩⟩
  · have := s.nd
    simpa [hf] using this
  · rcases List.mem_append.mp ha with ha | ha
    · have e : a = p := by simpa using ha
      exact ⟨.lst vs, by rw [e, upd_same], trivial⟩
    · obtain ⟨o, e, w⟩ := s.al a ha
      exact ⟨o, by rw [upd_ne (np a (List.mem_append_left _ ha))]; exact e, w⟩
  · exact Rp.oL upd_same (Rps.of_sh (r.mono le))
  · rw [upd_ne (ne_of_none e hp)]; exact e
  · rcases List.mem_append.mp ha with ha | ha
    · have e : a = p := by simpa using ha
      exact .inr (e ▸ hp)
    · exact .inl ha
  · exact ⟨o, by rw [upd_ne (ne_of_none e hp)]; exact e⟩
theorem tOpO_of {r : R2} {g : D → D → Option (List D)} {f1 f2 : Ef} (o : OpO X r g) : ∀ σ H Q, tO X τ (eBinO g f1 f2) (.oL .sh) σ H Q → tOp r (tD X τ f1) (tD X τ f2) σ H Q := fun σ H Q ⟨R, ρ, fs, h, ρ', s, e, k⟩ => by
  obtain ⟨p, q, d, e1, e2, e3, er⟩ := eBinO_inv e
  cases er
  refine two s e1 e2 fun v1 v2 H' fs' t s' r1 r2 => ?_
  refine o (R ++ fs') H' _ _ _ v1 v2 Q s'.own (s'.res r1) (s'.res r2) e3 fun a vs ha rf => ?_
  obtain ⟨n1, n2, n3⟩ := s'.newL ha rf
  exact k _ _ fs' [a] (t.trans n3) n1 n2
theorem do_bin {op : Operator} {r : R2} {g : D → D → Option (List D)} {f1 f2 : Ef} (ho : OpR X (binaryOp op) r) (o : OpO X r g) (ha : DE X a τ f1) (hb : DE X b τ f2) : DO X (.BinOp a op b pos) τ (eBinO g f1 f2) (.oL .sh) := pe_imp (pe_op ho ha hb) (tOpO_of o)

/-! ### an owned result given away -/
def eF (f : Of) : Ef := fun ρ => (f ρ).bind fun p => some (.v p.1, p.2)
theorem SR.drop {K : PySem.W.Frag} {mg : Str → Option Value} {fv R : List Addr} {ρ : Rho} {σ : L2.St} {H : Hp} {fs : List Addr} (s : SR K mg (fv ++ R) τ ρ σ H fs) : SR K mg R τ ρ σ H fs := by
  refine ⟨s.sl.mono (hide_mono fun a o n e => ⟨fun z => n ?_, e⟩) fun _ _ => rfl, ?_, fun a ha => s.al a (List.mem_append_right _ ha)⟩
  · rw [List.append_assoc]; exact List.mem_append_right _ z
  · have := s.nd
    rw [List.append_assoc] at this
    exact (List.nodup_append.mp this).2.1
theorem Rp.give {K : PySem.W.Frag} {mg : Str → Option Value} {fv R : List Addr} {ρ : Rho} {σ : L2.St} {H : Hp} {fs : List Addr} {t : Ty} {d : D} {v : V} (s : SR K mg (fv ++ R) τ ρ σ H fs) (r : Rp K mg H (hide (fv ++ R ++ fs) H) t d v fv) : Rf K mg (hide (R ++ fs) H) d v := by
  refine r.frz (hide_mono fun a o n e => ⟨fun z => n ?_, e⟩) fun a ha o e => hide_some.mpr ⟨fun z => ?_, e⟩
  · rw [List.append_assoc]; exact List.mem_append_right _ z
  · have := s.nd
    rw [List.append_assoc] at this
    exact (List.nodup_append.mp this).2.2 a ha a z rfl
theorem de_F {e : Expr} {f : Of} {t : Ty} (h : DO X e τ f t) : DE X e τ (eF f) := pe_imp h fun σ H Q ⟨R, ρ, fs, hd, ρ', s, e, k⟩ => by
  unfold eF at e
  cases h1 : f ρ with
  | none => rw [h1] at e; cases e
  | some p =>
    rw [h1] at e
    cases e
    exact ⟨R, ρ, fs, p.1, p.2, s, h1, fun v H' fs' fv t s' r => k v H' fs' (t.less fun a ha => List.mem_append_right _ ha) s'.drop (r.give s')⟩
end
end TL

namespace TL
open PySem PySem.Spec PyProof.Rows L2

def okLen (n : Nat) : Bool := Nat.ble n 16777216
theorem okLen_le {n : Nat} (h : okLen n = true) : n ≤ sizeLine := Nat.le_of_ble_eq_true h

section
variable {K : PySem.W.Frag} {mg : Str → Option Value} {S : List Addr} {H : Hp}
/-! ### what a seen tree is -/
theorem Rv.int_inv {i : Int} {v : V} (r : Rv K mg S H (.int i) v) : v = .int i := by
  cases r with
  | rf r => cases r; rfl
theorem Rv.bl_inv {i : Bool} {v : V} (r : Rv K mg S H (.bl i) v) : v = .bl i := by
  cases r with
  | rf r => cases r; rfl
theorem Rv.non_inv {v : V} (r : Rv K mg S H .non v) : v = .non := by
  cases r with
  | rf r => cases r; rfl
theorem Rv.str_inv {i : Str} {v : V} (r : Rv K mg S H (.str i) v) : v = .str i := by
  cases r with
  | rf r => cases r; rfl
theorem Rv.lst_inv {ds : List D} {v : V} (r : Rv K mg S H (.lst ds) v) : ∃ a vs, v = .ref a ∧ H a = some (.lst vs) ∧ Rfs K mg (hide S H) ds vs := by
  cases r with
  | rf r =>
    cases r with
    | lst h r => exact ⟨_, _, rfl, hide_le _ _ _ _ h, r⟩
  | lst h r => exact ⟨_, _, rfl, h, r⟩
theorem Rv.tup_inv {ds : List D} {v : V} (r : Rv K mg S H (.tup ds) v) : ∃ a vs, v = .ref a ∧ SqT K H a vs ∧ SqU K (hide S H) a vs ∧ Rfs K mg (hide S H) ds vs := by
  cases r with
  | rf r =>
    cases r with
    | tup h r => exact ⟨_, _, rfl, (hide_le _ _).seqT h.t, h, r⟩
theorem ifSome' {α : Type} {c : Bool} {x r : α} (e : (if c then some x else none) = some r) : c = true ∧ x = r := by
  cases c with
  | true => exact ⟨rfl, by simpa using e⟩
  | false => cases e
def truthD : D → Option Bool
  | .non => some false
  | .bl b => some b
  | .int i => some (i != 0)
  | .str s => if okLen s.length then some ((s.length : Int) != 0) else none
  | .tup l => some (!l.isEmpty)
  | .lst l => some (!l.isEmpty)
  | .dct l => some (!l.isEmpty)
  | _ => none
theorem Rfs.isEmpty {G : Hp} {ds : List D} {vs : List V} (r : Rfs K mg G ds vs) : ds.isEmpty = vs.isEmpty := by
  cases r <;> rfl
theorem Rv.tru {d : D} {v : V} {k : Bool} (r : Rv K mg S H d v) (e : truthD d = some k) : TruV K v H k := by
  cases d with
  | non => rw [r.non_inv]; cases e; rfl
  | bl b => rw [r.bl_inv]; cases e; rfl
  | int i => rw [r.int_inv]; cases e; rfl
  | str s =>
    rw [r.str_inv]
    obtain ⟨h, e⟩ := ifSome' e
    subst e
    exact ⟨okLen_le h, rfl⟩
  | tup l =>
    obtain ⟨a, vs, rfl, h, _, q⟩ := r.tup_inv
    cases e
    exact .inr (.inl ⟨vs, h, by rw [q.isEmpty]⟩)
  | lst l =>
    obtain ⟨a, vs, rfl, h, q⟩ := r.lst_inv
    cases e
    exact .inl ⟨vs, .of h, by rw [q.isEmpty]⟩
  | dct l =>
    cases e
    have fin : ∀ {a : Addr} {kvs : List (Key × V)}, H a = some (.dK kvs) → l.map (·.1) = kvs.map (fun p => keyD p.1) → TruV K (.ref a) H (!l.isEmpty) := fun {a kvs} ha hn => .inr (.inr ⟨kvs, ha, by
      have := congrArg List.length hn
      cases l <;> cases kvs <;> first | rfl | simp at this⟩)
    cases r with
    | rf r => cases r with
      | dK ha hn _ => exact fin (hide_le _ _ _ _ ha) hn
    | dK ha hn _ => exact fin ha hn
  | dtt l => cases e
  | set l => cases e
  | obj c l => cases e
  | scr l => cases e
end

section
variable {X : Cx} {τ : List Ty} {a b c e : Expr} {es : List Expr} {pos : Pos}
/-! ### tests -/
def tB (f : Ef) : Tf := fun ρ => (f ρ).bind fun p => (truthD (p.1.res p.2)).bind fun k => some (k, p.2)
theorem tB_inv {f : Ef} {ρ : Rho} {r : Bool × Rho} (e : tB f ρ = some r) : ∃ p k, f ρ = some p ∧ truthD (p.1.res p.2) = some k ∧ r = (k, p.2) := by
  unfold tB at e
  cases h1 : f ρ with
  | none => rw [h1] at e; cases e
  | some p =>
    rw [h1] at e
    simp only [Option.bind_some] at e
    cases h2 : truthD (p.1.res p.2) with
    | none => rw [h2] at e; cases e
    | some k => rw [h2] at e; cases e; exact ⟨p, k, rfl, h2, rfl⟩
theorem dt_truth {f : Ef} (h : DE X e τ f) (he : ∀ whole, isTrue e X.env whole = (do let v ← whole; standAt e.pos; holding [v] (truthy v)) := by intro _; rfl) : DT X e τ (tB f) := pt_imp (pt_truth h he) fun σ H Q ⟨R, ρ, fs, b, ρ', s, e, k⟩ => by
  obtain ⟨p, kk, e1, e2, er⟩ := tB_inv e
  cases er
  exact ⟨R, ρ, fs, p.1, p.2, s, e1, fun v H' fs' t s' r => ⟨_, (s'.res r).tru e2, k H' fs' t s'⟩⟩
/-- a comparison as a test -/
def tBl (f : Ef) : Tf := fun ρ => (f ρ).bind fun p => match p.1 with
  | .v (.bl k) => some (k, p.2)
  | _ => none
theorem tBl_inv {f : Ef} {ρ : Rho} {r : Bool × Rho} (e : tBl f ρ = some r) : ∃ k ρ', f ρ = some (.v (.bl k), ρ') ∧ r = (k, ρ') := by
  unfold tBl at e
  cases h1 : f ρ with
  | none => rw [h1] at e; cases e
  | some p =>
    rw [h1] at e
    obtain ⟨p1, p2⟩ := p
    cases p1 with
    | x i => cases e
    | v d => cases d <;> first | (cases e; done) | (cases e; exact ⟨_, _, rfl, rfl⟩)
theorem tTest_of {t : TE} {f : Ef} (h : ∀ σ H Q, tD X τ f σ H Q → t σ H Q) : ∀ σ H Q, tT X τ (tBl f) σ H Q → tTest t σ H Q := fun σ H Q ⟨R, ρ, fs, b, ρ', s, e, k⟩ => by
  obtain ⟨k1, ρ1, e1, er⟩ := tBl_inv e
  cases er
  refine h σ H _ ⟨R, ρ, fs, _, _, s, e1, fun v H' fs' t s' r => ?_⟩
  cases r
  exact ⟨_, rfl, k H' fs' t s'⟩
theorem dt_cmp {op : CmpOp} {r : R2} {g : D → D → Option D} {f1 f2 : Ef} (ho : OpR X (compareOp op) r) (o : OpD X r g) (ha : DE X a τ f1) (hb : DE X b τ f2) (hm : behindInMarks op b = false) : DT X (.Compare a [op] [b] pos) τ (tBl (eBin g f1 f2)) :=
  pt_imp (pt_cmpR ho ha hb hm) (tTest_of (tOp_of o))
/-! a op1 b op2 c -/
def eChain (g g' : D → D → Option D) (f1 f2 f3 : Ef) : Ef := fun ρ => (f1 ρ).bind fun p => (f2 p.2).bind fun q => (g (p.1.res q.2) (q.1.res q.2)).bind fun d => match d with
  | .bl true => (f3 q.2).bind fun r => (g' (q.1.res r.2) (r.1.res r.2)).bind fun d' => some (.v d', r.2)
  | .bl false => some (.v (.bl false), q.2)
  | _ => none
theorem tChain_of {r r' : R2} {g g' : D → D → Option D} {f1 f2 f3 : Ef} (o : OpD X r g) (o' : OpD X r' g') : ∀ σ H Q, tD X τ (eChain g g' f1 f2 f3) σ H Q → tChain r r' (tD X τ f1) (tD X τ f2) (tD X τ f3) σ H Q := fun σ H Q ⟨R, ρ, fs, h, ρ', s, e, k⟩ => by
  unfold eChain at e
  cases h1 : f1 ρ with
  | none => rw [h1] at e; cases e
  | some p =>
    rw [h1] at e
    simp only [Option.bind_some] at e
    cases h2 : f2 p.2 with
    | none => rw [h2] at e; cases e
    | some q =>
      rw [h2] at e
      simp only [Option.bind_some] at e
      cases h3 : g (p.1.res q.2) (q.1.res q.2) with
      | none => rw [h3] at e; cases e
      | some d =>
        rw [h3] at e
        simp only [Option.bind_some] at e
        refine two s h1 h2 fun v1 v2 H' fs' t s' r1 r2 => ?_
        refine o (R ++ fs') H' _ _ _ v1 v2 _ s'.own (s'.res r1) (s'.res r2) h3 fun v H2 g2 rf => ?_
        cases d with
        | bl kk =>
          cases rf
          cases kk with
          | false =>
            cases e
            exact ⟨false, rfl, iteF (k _ H2 fs' (t.trans (Step.grow g2 _)) (s'.grow g2) (.bl _))⟩
          | true =>
            simp only at e
            cases h4 : f3 q.2 with
            | none => rw [h4] at e; cases e
            | some w =>
              rw [h4] at e
              simp only [Option.bind_some] at e
              cases h5 : g' (q.1.res w.2) (w.1.res w.2) with
              | none => rw [h5] at e; cases e
              | some d' =>
                rw [h5] at e
                cases e
                refine ⟨true, rfl, iteT ⟨R, q.2, fs', w.1, w.2, s'.grow g2, h4, fun v3 H3 fs3 t3 s3 r3 => ?_⟩⟩
                have r2' := s3.res ((s'.grow g2).holdH t3 (s'.holdH (Step.grow g2 fs') r2))
                refine o' (R ++ fs3) H3 _ _ _ v2 v3 Q s3.own r2' (s3.res r3) h5 fun v4 H4 g4 rf4 => ?_
                exact k v4 H4 fs3 ((t.trans (Step.grow g2 _)).trans (t3.trans (Step.grow g4 _))) (s3.grow g4) rf4
        | _ => cases e
theorem de_chain {op op' : CmpOp} {r r' : R2} {g g' : D → D → Option D} {f1 f2 f3 : Ef} (ho : OpR X (compareOp op) r) (o : OpD X r g) (ho' : OpR X (compareOp op') r') (o' : OpD X r' g') (ha : DE X a τ f1) (hb : DE X b τ f2) (hc : DE X c τ f3)
    (hm : lastMarks [op, op'] [b, c] = false := by with_unfolding_all rfl) : DE X (.Compare a [op, op'] [b, c] pos) τ (eChain g g' f1 f2 f3) := pe_imp (pe_chain ho ho' ha hb hc hm) (tChain_of o o')
theorem dt_chain {op op' : CmpOp} {r r' : R2} {g g' : D → D → Option D} {f1 f2 f3 : Ef} (ho : OpR X (compareOp op) r) (o : OpD X r g) (ho' : OpR X (compareOp op') r') (o' : OpD X r' g') (ha : DE X a τ f1) (hb : DE X b τ f2) (hc : DE X c τ f3)
    (hm : lastMarks [op, op'] [b, c] = false := by with_unfolding_all rfl) : DT X (.Compare a [op, op'] [b, c] pos) τ (tBl (eChain g g' f1 f2 f3)) := pt_imp (pt_chain ho ho' ha hb hc hm) (tTest_of (tChain_of o o'))

/-! ### and, or, not as tests -/
def tAnd' (f g : Tf) : Tf := fun ρ => (f ρ).bind fun p => if p.1 then g p.2 else some (false, p.2)
def tOr' (f g : Tf) : Tf := fun ρ => (f ρ).bind fun p => if p.1 then some (true, p.2) else g p.2
def tNot' (f : Tf) : Tf := fun ρ => (f ρ).bind fun p => some (!p.1, p.2)
abbrev DW (X : Cx) (e : Expr) (τ : List Ty) (f : Tf) : Prop := PW X e (tT X τ f)
theorem dw_and1 {f : Tf} (h : DT X a τ f) : DW X (.BoolOp .And [a] pos) τ f := pw_and1 h
theorem dw_or1 {f : Tf} (h : DT X a τ f) : DW X (.BoolOp .Or [a] pos) τ f := pw_or1 h
theorem bindT {f : Tf} {ρ : Rho} {β : Type} {k : Bool × Rho → Option β} {r : β} (e : (f ρ).bind k = some r) : ∃ p, f ρ = some p ∧ k p = some r := by
  cases h : f ρ with
  | none => rw [h] at e; cases e
  | some p => rw [h] at e; exact ⟨p, rfl, e⟩
theorem bindO {α β : Type} {x : Option α} {k : α → Option β} {r : β} (e : x.bind k = some r) : ∃ p, x = some p ∧ k p = some r := by
  cases h : x with
  | none => rw [h] at e; cases e
  | some p => rw [h] at e; exact ⟨p, rfl, e⟩
theorem dw_and {f g : Tf} {rest : List Expr} (ha : DT X a τ f) (hb : DW X (.BoolOp .And (b :: rest) pos) τ g) : DW X (.BoolOp .And (a :: b :: rest) pos) τ (tAnd' f g) := pw_imp (pw_and ha hb) fun σ H Q ⟨R, ρ, fs, k, ρ', s, e, q⟩ => by
  obtain ⟨p, e1, e2⟩ := bindO e
  refine ⟨R, ρ, fs, p.1, p.2, s, e1, fun H' fs' t s' => ?_⟩
  cases hp : p.1 with
  | true =>
    rw [hp] at e2
    exact iteT ⟨R, p.2, fs', k, ρ', s', e2, fun H2 fs2 t2 s2 => q H2 fs2 (t.trans t2) s2⟩
  | false =>
    rw [hp] at e2
    cases e2
    exact iteF (q H' fs' t s')
theorem dw_or {f g : Tf} {rest : List Expr} (ha : DT X a τ f) (hb : DW X (.BoolOp .Or (b :: rest) pos) τ g) : DW X (.BoolOp .Or (a :: b :: rest) pos) τ (tOr' f g) := pw_imp (pw_or ha hb) fun σ H Q ⟨R, ρ, fs, k, ρ', s, e, q⟩ => by
  obtain ⟨p, e1, e2⟩ := bindO e
  refine ⟨R, ρ, fs, p.1, p.2, s, e1, fun H' fs' t s' => ?_⟩
  cases hp : p.1 with
  | false =>
    rw [hp] at e2
    exact iteF ⟨R, p.2, fs', k, ρ', s', e2, fun H2 fs2 t2 s2 => q H2 fs2 (t.trans t2) s2⟩
  | true =>
    rw [hp] at e2
    cases e2
    exact iteT (q H' fs' t s')
theorem dt_w {f : Tf} (h : DW X e τ f) : DT X e τ f := h.pt
theorem dt_not {f : Tf} (h : DT X a τ f) : DT X (.UnaryOp .Not a pos) τ (tNot' f) := pt_imp (pt_not h) fun σ H Q ⟨R, ρ, fs, k, ρ', s, e, q⟩ => by
  obtain ⟨p, e1, e2⟩ := bindO e
  cases e2
  exact ⟨R, ρ, fs, p.1, p.2, s, e1, fun H' fs' t s' => q H' fs' t s'⟩
/-! ### and, or, not, if as values -/
def eAnd (f g : Ef) : Ef := fun ρ => (f ρ).bind fun p => (truthD (p.1.res p.2)).bind fun k => if k then g p.2 else some p
def eOr (f g : Ef) : Ef := fun ρ => (f ρ).bind fun p => (truthD (p.1.res p.2)).bind fun k => if k then some p else g p.2
def eNot (f : Ef) : Ef := fun ρ => (f ρ).bind fun p => (truthD (p.1.res p.2)).bind fun k => some (.v (.bl (!k)), p.2)
def eIf (t : Tf) (f g : Ef) : Ef := fun ρ => (t ρ).bind fun p => if p.1 then f p.2 else g p.2
theorem de_one {op} {f : Ef} (h : DE X a τ f) : DE X (.BoolOp op [a] pos) τ f := pe_one h
theorem de_and {f g : Ef} {rest : List Expr} (ha : DE X a τ f) (hb : DE X (.BoolOp .And (b :: rest) pos) τ g) : DE X (.BoolOp .And (a :: b :: rest) pos) τ (eAnd f g) := pe_imp (pe_andT ha hb) fun σ H Q ⟨R, ρ, fs, h, ρ', s, e, q⟩ => by
  obtain ⟨p, e1, e2⟩ := bindO e
  obtain ⟨k, e3, e4⟩ := bindO e2
  refine ⟨R, ρ, fs, p.1, p.2, s, e1, fun v H' fs' t s' r => ⟨k, (s'.res r).tru e3, ?_⟩⟩
  cases k with
  | true => exact iteT ⟨R, p.2, fs', h, ρ', s', e4, fun v H2 fs2 t2 s2 r2 => q v H2 fs2 (t.trans t2) s2 r2⟩
  | false => cases e4; exact iteF (q v H' fs' t s' r)
theorem de_or {f g : Ef} {rest : List Expr} (ha : DE X a τ f) (hb : DE X (.BoolOp .Or (b :: rest) pos) τ g) : DE X (.BoolOp .Or (a :: b :: rest) pos) τ (eOr f g) := pe_imp (pe_orT ha hb) fun σ H Q ⟨R, ρ, fs, h, ρ', s, e, q⟩ => by
  obtain ⟨p, e1, e2⟩ := bindO e
  obtain ⟨k, e3, e4⟩ := bindO e2
  refine ⟨R, ρ, fs, p.1, p.2, s, e1, fun v H' fs' t s' r => ⟨k, (s'.res r).tru e3, ?_⟩⟩
  cases k with
  | false => exact iteF ⟨R, p.2, fs', h, ρ', s', e4, fun v H2 fs2 t2 s2 r2 => q v H2 fs2 (t.trans t2) s2 r2⟩
  | true => cases e4; exact iteT (q v H' fs' t s' r)
theorem de_not {f : Ef} (ha : DE X a τ f) : DE X (.UnaryOp .Not a pos) τ (eNot f) := pe_imp (pe_notT ha) fun σ H Q ⟨R, ρ, fs, h, ρ', s, e, q⟩ => by
  obtain ⟨p, e1, e2⟩ := bindO e
  obtain ⟨k, e3, e4⟩ := bindO e2
  cases e4
  exact ⟨R, ρ, fs, p.1, p.2, s, e1, fun v H' fs' t s' r => ⟨k, (s'.res r).tru e3, q _ H' fs' t s' (.bl _)⟩⟩
theorem de_if {t : Tf} {f g : Ef} (hc : DT X c τ t) (ha : DE X a τ f) (hb : DE X b τ g) : DE X (.IfExp c a b pos) τ (eIf t f g) := pe_imp (pe_ifExp hc ha hb) fun σ H Q ⟨R, ρ, fs, h, ρ', s, e, q⟩ => by
  obtain ⟨p, e1, e2⟩ := bindO e
  refine ⟨R, ρ, fs, p.1, p.2, s, e1, fun H' fs' t s' => ?_⟩
  cases hp : p.1 with
  | true => rw [hp] at e2; exact iteT ⟨R, p.2, fs', h, ρ', s', e2, fun v H2 fs2 t2 s2 r2 => q v H2 fs2 (t.trans t2) s2 r2⟩
  | false => rw [hp] at e2; exact iteF ⟨R, p.2, fs', h, ρ', s', e2, fun v H2 fs2 t2 s2 r2 => q v H2 fs2 (t.trans t2) s2 r2⟩

/-! ### argument lists: handles -/
def aNil : Af := fun ρ => some ([], ρ)
def aCons (f : Ef) (g : Af) : Af := fun ρ => (f ρ).bind fun p => (g p.2).bind fun q => some (p.1 :: q.1, q.2)
theorem SR.holdHs {K : PySem.W.Frag} {mg : Str → Option Value} {R : List Addr} {ρ : Rho} {σ : L2.St} {H H' : Hp} {fs fs' : List Addr} (s : SR K mg R τ ρ σ H fs) (t : Step H H' fs fs') : ∀ {hs : List Hd} {vs : List V}, RHs K mg (R ++ fs) τ σ H hs vs → RHs K mg (R ++ fs') τ σ H' hs vs
  | _, _, .nil => .nil
  | _, _, .cons h r => .cons (s.holdH t h) (SR.holdHs s t r)
theorem da_nil : DA X [] τ aNil := pa_imp pa_nil fun σ H Q ⟨R, ρ, fs, h, ρ', s, e, q⟩ => by
  cases e
  exact q [] H fs (Step.refl H fs) s .nil
theorem da_cons {f : Ef} {g : Af} (ha : DE X e τ f) (hr : DA X es τ g) (hs : starEach (e :: es) X.env = (false, eval e X.env) :: starEach es X.env := by rfl) : DA X (e :: es) τ (aCons f g) := pa_imp (pa_cons ha hr hs) fun σ H Q ⟨R, ρ, fs, h, ρ', s, e, q⟩ => by
  obtain ⟨p, e1, e2⟩ := bindO e
  obtain ⟨w, e3, e4⟩ := bindO e2
  cases e4
  exact ⟨R, ρ, fs, p.1, p.2, s, e1, fun v H' fs' t s' r => ⟨R, p.2, fs', w.1, w.2, s', e3, fun vs H2 fs2 t2 s2 r2 => q (v :: vs) H2 fs2 (t.trans t2) s2 (.cons (s'.holdH t2 r) r2)⟩⟩
def hvals : List Hd → Option (List D)
  | [] => some []
  | .v d :: r => (hvals r).bind fun ds => some (d :: ds)
  | .x _ :: _ => none
theorem RHs.valsOf {K : PySem.W.Frag} {mg : Str → Option Value} {S : List Addr} {σ : L2.St} {H : Hp} : ∀ {hs : List Hd} {vs : List V} {ds : List D}, RHs K mg S τ σ H hs vs → hvals hs = some ds → Rfs K mg (hide S H) ds vs
  | _, _, _, .nil, e => by cases e; exact .nil
  | _, _, _, .cons (h := h) (hs := hs) r rs, e => by
    cases h with
    | x i => cases e
    | v d =>
      unfold hvals at e
      obtain ⟨ds', e1, e2⟩ := bindO e
      cases e2
      exact .cons r (RHs.valsOf rs e1)
/-! ### displays -/
def eTup (f : Af) : Ef := fun ρ => (f ρ).bind fun p => (hvals p.1).bind fun ds => if okLen ds.length then some (.v (.tup ds), p.2) else none
def oLst (f : Af) : Of := fun ρ => (f ρ).bind fun p => (hvals p.1).bind fun ds => if okLen ds.length then some (.lst ds, p.2) else none
theorem SR.newT {R : List Addr} {ρ : Rho} {σ : L2.St} {H : Hp} {fs : List Addr} {p : Addr} {vs : List V} {ds : List D} (s : SR X.K X.mg R τ ρ σ H fs) (hp : H p = none) (r : Rfs X.K X.mg (hide (R ++ fs) H) ds vs) :
    Rf X.K X.mg (hide (R ++ fs) (upd H p (.tup vs))) (.tup ds) (.ref p) := by
  have hf := s.fresh hp
  refine .tup (.of (hide_some.mpr ⟨hf, upd_same⟩)) (r.mono (hide_grow _ (Grow.upd hp)))
theorem ifSome {α : Type} {c : Bool} {x r : α} (e : (if c then some x else none) = some r) : c = true ∧ x = r := by
  cases c with
  | true => exact ⟨rfl, by simpa using e⟩
  | false => cases e
theorem de_tup {f : Af} {x1} (h : DA X es τ f) : DE X (.Tuple es x1 pos) τ (eTup f) := pe_imp (pe_tup h) fun σ H Q ⟨R, ρ, fs, hh, ρ', s, e, q⟩ => by
  obtain ⟨p, e1, e2⟩ := bindO e
  obtain ⟨ds, e3, e4⟩ := bindO e2
  obtain ⟨e5, e6⟩ := ifSome e4
  cases e6
  refine ⟨R, ρ, fs, p.1, p.2, s, e1, fun vs H' fs' t s' r => ?_⟩
  have rf := r.valsOf e3
  refine ⟨by rw [← rf.length]; exact okLen_le e5, fun a ha => ?_⟩
  exact q _ _ fs' (t.trans (Step.grow (Grow.upd ha) _)) (s'.grow (Grow.upd ha)) (s'.newT ha rf)
theorem do_lst {f : Af} (h : DA X es τ f) : DO X (.List es pos) τ (oLst f) (.oL .sh) := pe_imp (pe_lst h) fun σ H Q ⟨R, ρ, fs, hh, ρ', s, e, q⟩ => by
  obtain ⟨p, e1, e2⟩ := bindO e
  obtain ⟨ds, e3, e4⟩ := bindO e2
  obtain ⟨e5, e6⟩ := ifSome e4
  cases e6
  refine ⟨R, ρ, fs, p.1, p.2, s, e1, fun vs H' fs' t s' r => ?_⟩
  have rf := r.valsOf e3
  refine ⟨by rw [← rf.length]; exact okLen_le e5, fun a ha => ?_⟩
  obtain ⟨n1, n2, n3⟩ := s'.newL ha rf
  exact q _ _ fs' [a] (t.trans n3) n1 n2

/-! ### one-place operators -/
def UnD (X : Cx) (r : V → Hp → VK → Prop) (g : D → Option D) : Prop := ∀ (S : List Addr) (H : Hp) (d1 d : D) (v1 : V) (Q : VK), (∀ a ∈ S, ∃ o, H a = some o ∧ Own o) → Rv X.K X.mg S H d1 v1 → g d1 = some d →
  (∀ v H', Grow H H' → Rf X.K X.mg (hide S H') d v → Q v H') → r v1 H Q
def eUn (g : D → Option D) (f : Ef) : Ef := fun ρ => (f ρ).bind fun p => (g (p.1.res p.2)).bind fun d => some (.v d, p.2)
theorem de_un {op : UnaryOp} {r : V → Hp → VK → Prop} {g : D → Option D} {f : Ef} (ho : UnR X (unaryOp op) r) (o : UnD X r g) (ha : DE X a τ f) : DE X (.UnaryOp op a pos) τ (eUn g f) := pe_imp (pe_un ho ha) fun σ H Q ⟨R, ρ, fs, h, ρ', s, e, q⟩ => by
  obtain ⟨p, e1, e2⟩ := bindO e
  obtain ⟨d, e3, e4⟩ := bindO e2
  cases e4
  exact ⟨R, ρ, fs, p.1, p.2, s, e1, fun v H' fs' t s' r => o (R ++ fs') H' _ _ v Q s'.own (s'.res r) e3 fun v2 H2 g2 rf => q v2 H2 fs' (t.trans (Step.grow g2 _)) (s'.grow g2) rf⟩
/-! ### calls of built-ins -/
inductive Rvs (K : PySem.W.Frag) (mg : Str → Option Value) (S : List Addr) (H : Hp) : List D → List V → Prop
  | nil : Rvs K mg S H [] []
  | cons {d : D} {v : V} {ds : List D} {vs : List V} : Rv K mg S H d v → Rvs K mg S H ds vs → Rvs K mg S H (d :: ds) (v :: vs)
theorem SR.ress {K : PySem.W.Frag} {mg : Str → Option Value} {R : List Addr} {ρ : Rho} {σ : L2.St} {H : Hp} {fs : List Addr} (s : SR K mg R τ ρ σ H fs) : ∀ {hs : List Hd} {vs : List V}, RHs K mg (R ++ fs) τ σ H hs vs → Rvs K mg (R ++ fs) H (hs.map fun h => h.res ρ) vs
  | _, _, .nil => .nil
  | _, _, .cons h r => .cons (s.res h) (SR.ress s r)
def CaD (X : Cx) (r : List V → Hp → VK → Prop) (g : List D → Option D) : Prop := ∀ (S : List Addr) (H : Hp) (ds : List D) (d : D) (vs : List V) (Q : VK), (∀ a ∈ S, ∃ o, H a = some o ∧ Own o) → Rvs X.K X.mg S H ds vs → g ds = some d →
  (∀ v H', Grow H H' → Rf X.K X.mg (hide S H') d v → Q v H') → r vs H Q
def CaO (X : Cx) (r : List V → Hp → VK → Prop) (g : List D → Option (List D)) : Prop := ∀ (S : List Addr) (H : Hp) (ds : List D) (d : List D) (vs : List V) (Q : VK), (∀ a ∈ S, ∃ o, H a = some o ∧ Own o) → Rvs X.K X.mg S H ds vs → g ds = some d →
  (∀ p H1 vs, Grow H H1 → H1 p = none → Rfs X.K X.mg (hide S H1) d vs → Q (.ref p) (upd H1 p (.lst vs))) → r vs H Q
theorem CaD.or {r r' : List V → Hp → VK → Prop} {g g' : List D → Option D} (h : CaD X r g) (h' : CaD X r' g') : CaD X (fun x H Q => r x H Q ∨ r' x H Q) (fun ds => (g ds).or (g' ds)) := fun S H ds d vs Q al r1 e q => by
  cases e1 : g ds with
  | some z => simp only [e1] at e; exact .inl (h S H ds d vs Q al r1 (by rw [e1]; exact e) q)
  | none => simp only [e1] at e; exact .inr (h' S H ds d vs Q al r1 (by simpa using e) q)
def eCa (g : List D → Option D) (f : Af) : Ef := fun ρ => (f ρ).bind fun p => (g (p.1.map fun h => h.res p.2)).bind fun d => some (.v d, p.2)
def oCa (g : List D → Option (List D)) (f : Af) : Of := fun ρ => (f ρ).bind fun p => (g (p.1.map fun h => h.res p.2)).bind fun d => some (.lst d, p.2)
theorem tCB_of {r : List V → Hp → VK → Prop} {g : List D → Option D} {f : Af} (o : CaD X r g) : ∀ σ H Q, tD X τ (eCa g f) σ H Q → tCB r (tA X τ f) σ H Q := fun σ H Q ⟨R, ρ, fs, h, ρ', s, e, q⟩ => by
  obtain ⟨p, e1, e2⟩ := bindO e
  obtain ⟨d, e3, e4⟩ := bindO e2
  cases e4
  exact ⟨R, ρ, fs, p.1, p.2, s, e1, fun v H' fs' t s' r => o (R ++ fs') H' _ _ v Q s'.own (s'.ress r) e3 fun v2 H2 g2 rf => q v2 H2 fs' (t.trans (Step.grow g2 _)) (s'.grow g2) rf⟩
theorem tCBO_of {r : List V → Hp → VK → Prop} {g : List D → Option (List D)} {f : Af} (o : CaO X r g) : ∀ σ H Q, tO X τ (oCa g f) (.oL .sh) σ H Q → tCB r (tA X τ f) σ H Q := fun σ H Q ⟨R, ρ, fs, h, ρ', s, e, q⟩ => by
  obtain ⟨p, e1, e2⟩ := bindO e
  obtain ⟨d, e3, e4⟩ := bindO e2
  cases e4
  refine ⟨R, ρ, fs, p.1, p.2, s, e1, fun v H' fs' t s' r => o (R ++ fs') H' _ _ v Q s'.own (s'.ress r) e3 fun a H1 vs g1 ha rf => ?_⟩
  obtain ⟨n1, n2, n3⟩ := (s'.grow g1).newL ha rf
  exact q _ _ fs' [a] (t.trans ((Step.grow g1 _).trans n3)) n1 n2
variable {x : Str} {p : Pos} {id T : String}
theorem de_callB {r : List V → Hp → VK → Prop} {g : List D → Option D} {f : Af} (hc : CallR X (.builtin id) r) (o : CaD X r g) (hg : Gl X x) (hm : X.mg x = none) (hv : bootBuiltins x = some (.builtin id)) (ha : DA X (e :: es) τ f) (hn : x ≠ "__name__" := by decide) (hdb : (x == ("__debug__" : Str)) = false := by decide)
    (he : starEach (e :: es) X.env = (false, eval e X.env) :: starEach es X.env := by rfl) (hpl : (backTo pos (starEach es X.env)).any (·.1) = false := by rfl) : DE X (.Call (.Name x p) (e :: es) [] pos) τ (eCa g f) := pe_imp (pe_callB hc hg hm hv ha hn hdb he hpl) (tCB_of o)
theorem de_callTy {r : List V → Hp → VK → Prop} {g : List D → Option D} {f : Af} (hc : CallR X (.type T) r) (o : CaD X r g) (hg : Gl X x) (hm : X.mg x = none) (hv : bootBuiltins x = some (.type T)) (ha : DA X (e :: es) τ f) (hn : x ≠ "__name__" := by decide) (hdb : (x == ("__debug__" : Str)) = false := by decide)
    (he : starEach (e :: es) X.env = (false, eval e X.env) :: starEach es X.env := by rfl) (hpl : (backTo pos (starEach es X.env)).any (·.1) = false := by rfl) : DE X (.Call (.Name x p) (e :: es) [] pos) τ (eCa g f) := pe_imp (pe_callTy hc hg hm hv ha hn hdb he hpl) (tCB_of o)
theorem do_callB {r : List V → Hp → VK → Prop} {g : List D → Option (List D)} {f : Af} (hc : CallR X (.builtin id) r) (o : CaO X r g) (hg : Gl X x) (hm : X.mg x = none) (hv : bootBuiltins x = some (.builtin id)) (ha : DA X (e :: es) τ f) (hn : x ≠ "__name__" := by decide) (hdb : (x == ("__debug__" : Str)) = false := by decide)
    (he : starEach (e :: es) X.env = (false, eval e X.env) :: starEach es X.env := by rfl) (hpl : (backTo pos (starEach es X.env)).any (·.1) = false := by rfl) : DO X (.Call (.Name x p) (e :: es) [] pos) τ (oCa g f) (.oL .sh) := pe_imp (pe_callB hc hg hm hv ha hn hdb he hpl) (tCBO_of o)
theorem do_callTy {r : List V → Hp → VK → Prop} {g : List D → Option (List D)} {f : Af} (hc : CallR X (.type T) r) (o : CaO X r g) (hg : Gl X x) (hm : X.mg x = none) (hv : bootBuiltins x = some (.type T)) (ha : DA X (e :: es) τ f) (hn : x ≠ "__name__" := by decide) (hdb : (x == ("__debug__" : Str)) = false := by decide)
    (he : starEach (e :: es) X.env = (false, eval e X.env) :: starEach es X.env := by rfl) (hpl : (backTo pos (starEach es X.env)).any (·.1) = false := by rfl) : DO X (.Call (.Name x p) (e :: es) [] pos) τ (oCa g f) (.oL .sh) := pe_imp (pe_callTy hc hg hm hv ha hn hdb he hpl) (tCBO_of o)
/-! ### slices -/
def SlD (X : Cx) (r : V → Option Int → Option Int → Hp → VK → Prop) (g : D → Option Int → Option Int → Option D) : Prop := ∀ (S : List Addr) (H : Hp) (d1 d : D) (lo hi : Option Int) (v1 : V) (Q : VK), (∀ a ∈ S, ∃ o, H a = some o ∧ Own o) → Rv X.K X.mg S H d1 v1 → g d1 lo hi = some d →
  (∀ v H', Grow H H' → Rf X.K X.mg (hide S H') d v → Q v H') → r v1 lo hi H Q
def SlO (X : Cx) (r : V → Option Int → Option Int → Hp → VK → Prop) (g : D → Option Int → Option Int → Option (List D)) : Prop := ∀ (S : List Addr) (H : Hp) (d1 : D) (d : List D) (lo hi : Option Int) (v1 : V) (Q : VK), (∀ a ∈ S, ∃ o, H a = some o ∧ Own o) → Rv X.K X.mg S H d1 v1 → g d1 lo hi = some d →
  (∀ p vs, H p = none → Rfs X.K X.mg (hide S H) d vs → Q (.ref p) (upd H p (.lst vs))) → r v1 lo hi H Q
abbrev Pf := Rho → Option (Option Int × Rho)
def tP (X : Cx) (τ : List Ty) (f : Pf) : TO := fun σ H Q => ∃ R ρ fs b ρ', SR X.K X.mg R τ ρ σ H fs ∧ f ρ = some (b, ρ') ∧ ∀ H' fs', Step H H' fs fs' → SR X.K X.mg R τ ρ' σ H' fs' → Q b H'
abbrev DP (X : Cx) (e : Option Expr) (τ : List Ty) (f : Pf) : Prop := PO X e (tP X τ f)
theorem po_imp {X : Cx} {e : Option Expr} {t t' : TO} (h : PO X e t) (k : ∀ σ H Q, t' σ H Q → t σ H Q) : PO X e t' := ⟨fun pins s σ H Q I q => h.run pins s σ H Q I (k σ H Q q)⟩
def pNo : Pf := fun ρ => some (none, ρ)
def pSome (f : Ef) : Pf := fun ρ => (f ρ).bind fun p => match p.1 with
  | .v (.int i) => some (some i, p.2)
  | _ => none
theorem dp_no : DP X none τ pNo := po_imp po_none fun σ H Q ⟨R, ρ, fs, h, ρ', s, e, q⟩ => by
  cases e
  exact q H fs (Step.refl H fs) s
theorem dp_some {f : Ef} (h : DE X e τ f) : DP X (some e) τ (pSome f) := po_imp (po_some h) fun σ H Q ⟨R, ρ, fs, h, ρ', s, e, q⟩ => by
  obtain ⟨p, e1, e2⟩ := bindO e
  obtain ⟨p1, p2⟩ := p
  cases p1 with
  | x i => cases e2
  | v d =>
    cases d with
    | int i =>
      cases e2
      refine ⟨R, ρ, fs, _, _, s, e1, fun v H' fs' t s' r => ?_⟩
      cases r
      exact ⟨i, rfl, q H' fs' t s'⟩
    | _ => cases e2
def eSl (g : D → Option Int → Option Int → Option D) (f : Ef) (lo hi : Pf) : Ef := fun ρ => (f ρ).bind fun p => (lo p.2).bind fun l => (hi l.2).bind fun h => (g (p.1.res h.2) l.1 h.1).bind fun d => some (.v d, h.2)
def oSl (g : D → Option Int → Option Int → Option (List D)) (f : Ef) (lo hi : Pf) : Of := fun ρ => (f ρ).bind fun p => (lo p.2).bind fun l => (hi l.2).bind fun h => (g (p.1.res h.2) l.1 h.1).bind fun d => some (.lst d, h.2)
theorem de_slice {r : V → Option Int → Option Int → Hp → VK → Prop} {g : D → Option Int → Option Int → Option D} {f : Ef} {lo hi : Pf} {l u : Option Expr} {p2 : Pos} (hr : SlR X r) (o : SlD X r g) (he : DE X e τ f) (hl : DP X l τ lo) (hu : DP X u τ hi) :
    DE X (.Subscript e (.Slice l u none p2) pos) τ (eSl g f lo hi) := pe_imp (pe_slice hr he hl hu) fun σ H Q ⟨R, ρ, fs, h, ρ', s, e, q⟩ => by
  obtain ⟨p, e1, e2⟩ := bindO e
  obtain ⟨w, e3, e4⟩ := bindO e2
  obtain ⟨z, e5, e6⟩ := bindO e4
  obtain ⟨d, e7, e8⟩ := bindO e6
  cases e8
  refine ⟨R, ρ, fs, p.1, p.2, s, e1, fun v H' fs' t s' r => ⟨R, p.2, fs', w.1, w.2, s', e3, fun H2 fs2 t2 s2 => ⟨R, w.2, fs2, z.1, z.2, s2, e5, fun H3 fs3 t3 s3 => ?_⟩⟩⟩
  exact o (R ++ fs3) H3 _ _ _ _ v Q s3.own (s3.res (s2.holdH t3 (s'.holdH t2 r))) e7 fun v4 H4 g4 rf => q v4 H4 fs3 ((t.trans t2).trans (t3.trans (Step.grow g4 _))) (s3.grow g4) rf
theorem do_slice {r : V → Option Int → Option Int → Hp → VK → Prop} {g : D → Option Int → Option Int → Option (List D)} {f : Ef} {lo hi : Pf} {l u : Option Expr} {p2 : Pos} (hr : SlR X r) (o : SlO X r g) (he : DE X e τ f) (hl : DP X l τ lo) (hu : DP X u τ hi) :
    DO X (.Subscript e (.Slice l u none p2) pos) τ (oSl g f lo hi) (.oL .sh) := pe_imp (pe_slice hr he hl hu) fun σ H Q ⟨R, ρ, fs, h, ρ', s, e, q⟩ => by
  obtain ⟨p, e1, e2⟩ := bindO e
  obtain ⟨w, e3, e4⟩ := bindO e2
  obtain ⟨z, e5, e6⟩ := bindO e4
  obtain ⟨d, e7, e8⟩ := bindO e6
  cases e8
  refine ⟨R, ρ, fs, p.1, p.2, s, e1, fun v H' fs' t s' r => ⟨R, p.2, fs', w.1, w.2, s', e3, fun H2 fs2 t2 s2 => ⟨R, w.2, fs2, z.1, z.2, s2, e5, fun H3 fs3 t3 s3 => ?_⟩⟩⟩
  refine o (R ++ fs3) H3 _ _ _ _ v Q s3.own (s3.res (s2.holdH t3 (s'.holdH t2 r))) e7 fun a vs ha rf => ?_
  obtain ⟨n1, n2, n3⟩ := s3.newL ha rf
  exact q _ _ fs3 [a] (((t.trans t2).trans t3).trans n3) n1 n2
/-! ### methods of built-in types that change nothing -/
def MtD (X : Cx) (T : String) (r : V → List V → Hp → VK → Prop) (g : D → List D → Option D) : Prop := ∀ (S : List Addr) (H : Hp) (d1 : D) (ds : List D) (d : D) (v1 : V) (vs : List V) (Q : VK), (∀ a ∈ S, ∃ o, H a = some o ∧ Own o) → Rv X.K X.mg S H d1 v1 → Rvs X.K X.mg S H ds vs → g d1 ds = some d →
  (∀ v H', Grow H H' → Rf X.K X.mg (hide S H') d v → Q v H') → r v1 vs H Q
end
end TL

namespace TL
open PySem PySem.Spec PyProof.Rows L2

/-! ### slots changed -/
def kill (ks : List Nat) (ρ : Rho) : Rho := ks.foldl (fun r i => r.set i .non) ρ
def killT (ks : List Nat) (τ : List Ty) : List Ty := ks.foldl (fun r i => r.set i .no) τ
section
variable {K : PySem.W.Frag} {mg : Str → Option Value} {R : List Addr} {τ : List Ty} {ρ : Rho} {σ : L2.St} {H H' : Hp} {fs fs' : List Addr}
theorem hide_sub {S S' : List Addr} {H : Hp} (k : ∀ a ∈ S', a ∈ S) : Le (hide S H) (hide S' H) := hide_mono fun a o n e => ⟨fun z => n (k a z), e⟩
theorem nodup_mid {A f1 fo f2 f' : List Addr} (h : (A ++ (f1 ++ fo ++ f2)).Nodup) (k : ∀ a ∈ f', a ∉ A ++ (f1 ++ f2)) (n : f'.Nodup) : (A ++ (f1 ++ f' ++ f2)).Nodup := by
  simp only [List.nodup_append, List.mem_append, not_or] at h k ⊢
  obtain ⟨hA, ⟨⟨h1, ho, h1o⟩, h2, h12⟩, hx⟩ := h
  refine ⟨hA, ⟨⟨h1, n, fun a ha b hb e => ?_⟩, h2, fun a ha b hb e => ?_⟩, fun a ha b hb e => ?_⟩
  · subst e; exact (k _ hb).2.1 ha
  · subst e
    rcases ha with ha | ha
    · exact h12 _ (.inl ha) _ hb rfl
    · exact (k _ ha).2.2 hb
  · subst e
    rcases hb with (hb | hb) | hb
    · exact hx _ ha _ (.inl (.inl hb)) rfl
    · exact (k _ hb).1 ha
    · exact hx _ ha _ (.inr hb) rfl
/-- a value goes into a slot -/
theorem SR.put {fv : List Addr} {i : Nat} {t : Ty} {d : D} {v : V} (s : SR K mg (fv ++ R) τ ρ σ H fs) (hi : i < τ.length) (r : Rp K mg H (hide (fv ++ R ++ fs) H) t d v fv) :
    ∃ fs', SR K mg R (τ.set i t) (ρ.set i d) (σ.set i (some v)) H fs' ∧ ∀ a ∈ fs', a ∈ fv ++ fs := by
  obtain ⟨f1, fo, f2, ef, ho, hl, h1, h2, h3⟩ := s.sl.split (List.getElem?_eq_getElem hi)
  have nd := s.nd
  subst ef
  have sub : ∀ a ∈ R ++ (f1 ++ fv ++ f2), a ∈ fv ++ R ++ (f1 ++ fo ++ f2) := by
    intro a ha
    simp only [List.mem_append] at ha ⊢
    rcases ha with h | (h | h) | h <;> simp [h]
  have le : Le (hide (fv ++ R ++ (f1 ++ fo ++ f2)) H) (hide (R ++ (f1 ++ fv ++ f2)) H) := hide_sub sub
  refine ⟨f1 ++ fv ++ f2, ⟨h1 (fun _ _ => rfl) le (r.mono le fun _ _ => rfl), ?_, fun a ha => s.al a (List.mem_append_right _ ha)⟩, fun a ha => ?_⟩
  · have nd' : (R ++ (f1 ++ fo ++ f2)).Nodup := by
      rw [List.append_assoc] at nd
      exact (List.nodup_append.mp nd).2.1
    refine nodup_mid nd' (fun a ha z => ?_) ?_
    · rw [List.append_assoc] at nd
      exact (List.nodup_append.mp nd).2.2 a ha a (by
        simp only [List.mem_append] at z ⊢
        rcases z with h | h | h <;> simp [h]) rfl
    · rw [List.append_assoc] at nd
      exact (List.nodup_append.mp nd).1
  · simp only [List.mem_append] at ha ⊢
    rcases ha with (h | h) | h <;> simp [h]
theorem set_getD {α : Type} (d : α) : ∀ (l : List α) (i : Nat), l.set i (l.getD i d) = l
  | [], _ => rfl
  | a :: r, 0 => rfl
  | a :: r, i + 1 => by simpa using set_getD d r i
theorem set_at {α : Type} : ∀ {l : List α} {i : Nat} {t : α}, l[i]? = some t → l.set i t = l
  | [], _, _, e => by simp at e
  | a :: r, 0, t, e => by simp at e; simp [e]
  | a :: r, i + 1, t, e => by simpa using set_at (l := r) (i := i) (by simpa using e)
theorem SR.frz {i : Nat} {t : Ty} (s : SR K mg R τ ρ σ H fs) (e : τ[i]? = some t) (n : t ≠ .no) : ∃ fs', SR K mg R (τ.set i .sh) ρ σ H fs' ∧ ∀ a ∈ fs', a ∈ fs := by
  obtain ⟨f1, fo, f2, ef, ho, hl, h1, h2, h3⟩ := s.sl.split e
  subst ef
  rcases ho with ⟨z, _⟩ | ⟨v, ev, r⟩
  · exact absurd z n
  · have le : Le (hide (R ++ (f1 ++ fo ++ f2)) H) (hide (R ++ (f1 ++ [] ++ f2)) H) := hide_sub fun a ha => by
      simp only [List.mem_append] at ha ⊢
      rcases ha with h | (h | h) | h
      · simp [h]
      · simp [h]
      · simp at h
      · simp [h]
    have nd := s.nd
    have rf : Rf K mg (hide (R ++ (f1 ++ [] ++ f2)) H) (ρ.getD i .non) v := r.frz le fun a ha o eo => hide_some.mpr ⟨fun z => ?_, eo⟩
    · have q := h2 (fun _ _ => rfl) le ev (.sh rf)
      rw [set_getD] at q
      refine ⟨f1 ++ [] ++ f2, ⟨q, nodup_mid nd (fun a ha => nomatch ha) List.nodup_nil, s.al⟩, fun a ha => ?_⟩
      simp only [List.mem_append] at ha ⊢
      rcases ha with (h | h) | h
      · simp [h]
      · simp at h
      · simp [h]
    · simp only [List.nodup_append, List.mem_append] at nd
      simp only [List.mem_append] at z
      rcases z with z | (z | z) | z
      · exact nd.2.2 a z a (.inl (.inr ha)) rfl
      · exact nd.2.1.1.2.2 a z a ha rfl
      · simp at z
      · exact nd.2.1.2.2 a (.inr ha) a z rfl
theorem SR.kill1 (s : SR K mg R τ ρ σ H fs) (i : Nat) (d : D) : ∃ fs', SR K mg R (τ.set i .no) (ρ.set i d) σ H fs' ∧ ∀ a ∈ fs', a ∈ fs := by
  by_cases hi : i < τ.length
  · obtain ⟨f1, fo, f2, ef, ho, hl, h1, h2, h3⟩ := s.sl.split (List.getElem?_eq_getElem hi)
    subst ef
    have nd := s.nd
    refine ⟨f1 ++ f2, ⟨h3 (fun _ _ => rfl) (hide_sub fun a ha => ?_), ?_, s.al⟩, fun a ha => ?_⟩
    · simp only [List.mem_append] at ha ⊢
      rcases ha with h | h | h <;> simp [h]
    · have := nodup_mid nd (f' := []) (fun a ha => nomatch ha) List.nodup_nil
      simpa using this
    · simp only [List.mem_append] at ha ⊢
      rcases ha with h | h <;> simp [h]
  · have hl := s.sl.len
    rw [List.set_eq_of_length_le (by omega), List.set_eq_of_length_le (by omega)]
    exact ⟨fs, s, fun _ h => h⟩
theorem SR.killS : ∀ (ks : List Nat) {τ : List Ty} {ρ : Rho} {fs : List Addr}, SR K mg R τ ρ σ H fs → ∃ fs', SR K mg R (killT ks τ) (kill ks ρ) σ H fs' ∧ ∀ a ∈ fs', a ∈ fs
  | [], _, _, fs, s => ⟨fs, s, fun _ h => h⟩
  | i :: ks, _, _, _, s => by
    obtain ⟨f1, s1, k1⟩ := s.kill1 i .non
    obtain ⟨f2, s2, k2⟩ := SR.killS ks s1
    exact ⟨f2, s2, fun a ha => k1 a (k2 a ha)⟩
end

/-! ### a def's promise -/
structure Sg where
  ps : List Ty
  ret : Ty
def Ty.io : Ty → Ty
  | .sh => .no
  | t => t
/-- the result, and the parameters' trees behind the call -/
abbrev Fm := List D → Option (D × List D)
def spD (K : PySem.W.Frag) (mg : Str → Option Value) (sg : Sg) (F : Fm) : Sp := fun vs H Q _ => ∃ R ds fs d ds', SR K mg R sg.ps ds (vs.map some) H fs ∧ F ds = some (d, ds') ∧
  ∀ v H' fs' fv, Step H H' fs (fv ++ fs') → SR K mg (fv ++ R) (sg.ps.map Ty.io) ds' (vs.map some) H' fs' → Rp K mg H' (hide (fv ++ R ++ fs') H') sg.ret d v fv → Q v H'
abbrev FnD (P : Program) (w : World) (K : PySem.W.Frag) (mg : Str → Option Value) (base : Heap) (k : Nat) (f : Addr) (fd : FuncData) (ps : List Str) (sg : Sg) (F : Fm) : Prop := FnOk P w K mg base CX0 k f fd ps (spD K mg sg F)
theorem Sl.of_sh {K : PySem.W.Frag} {mg : Str → Option Value} {H G : Hp} : ∀ {ds : List D} {vs : List V}, Rfs K mg G ds vs → Sl K mg H G (List.replicate ds.length .sh) ds (vs.map some) []
  | _, _, .nil => .nil
  | _, _, .cons h r => by
    have q := Sl.cons (Rp.sh (K := K) (mg := mg) (H := H) h) (Sl.of_sh r)
    exact q
theorem SR.args {K : PySem.W.Frag} {mg : Str → Option Value} {S : List Addr} {H : Hp} {ds : List D} {vs : List V} (r : Rfs K mg (hide S H) ds vs) (nd : S.Nodup) (al : ∀ a ∈ S, ∃ o, H a = some o ∧ Own o) : SR K mg S (List.replicate ds.length .sh) ds (vs.map some) H [] := by
  refine ⟨?_, by simpa using nd, al⟩
  rw [List.append_nil]
  exact Sl.of_sh r

section
variable {X : Cx} {τ : List Ty} {a b c e : Expr} {es : List Expr} {pos p : Pos} {x : Str} {k : Nat} {f : Addr} {fd : FuncData} {ps : List Str} {sg : Sg} {F : Fm}
/-! ### a call: all arguments frozen -/
def oCall (F : Fm) (g : Af) : Of := fun ρ => (g ρ).bind fun p => (hvals p.1).bind fun ds => (F ds).bind fun r => some (r.1, p.2)
theorem hvals_len : ∀ {hs : List Hd} {ds : List D}, hvals hs = some ds → ds.length = hs.length
  | [], _, e => by cases e; rfl
  | .v d :: r, _, e => by
    obtain ⟨ds, e1, e2⟩ := bindO (show (hvals r).bind _ = _ from e)
    cases e2
    simp [hvals_len e1]
  | .x i :: r, _, e => by cases e
theorem call_core {g : Af} (n : Nat) (hps : sg.ps = List.replicate n .sh) (hn : ∀ ds r, F ds = some r → ds.length = n) {σ : L2.St} {H : Hp} {Q : VK} :
    tO X τ (oCall F g) sg.ret σ H Q → tA X τ g σ H fun vs H1 => spD X.K X.mg sg F vs H1 Q E0 := fun ⟨R, ρ, fs, d, ρ', s, eq, q⟩ => by
  obtain ⟨w, e1, e2⟩ := bindO eq
  obtain ⟨ds, e3, e4⟩ := bindO e2
  obtain ⟨r, e5, e6⟩ := bindO e4
  cases e6
  refine ⟨R, ρ, fs, w.1, w.2, s, e1, fun vs H1 fs1 t1 s1 r1 => ?_⟩
  have rf := r1.valsOf e3
  have sa := SR.args rf s1.nd s1.own
  rw [hn _ _ e5, ← hps] at sa
  refine ⟨R ++ fs1, ds, [], r.1, r.2, sa, e5, fun v H2 fs2 fv t2 s2 rp => ?_⟩
  have gr : Grow H1 H2 := fun a o e => t2.ext a o (by simp) e
  have fr : ∀ a ∈ fv, H1 a = none := fun a ha => (t2.sub a (List.mem_append_left _ ha)).elim (fun z => by simp at z) id
  have nd2 := s2.nd
  refine q v H2 fs1 fv (t1.trans ⟨fun a o _ e => gr a o e, fun a ha => (List.mem_append.mp ha).elim (fun z => .inr (fr a z)) .inl, fun a o e => ⟨o, gr a o e⟩⟩) ⟨s1.sl.mono ?_ ?_, ?_, fun a ha => ?_⟩ (rp.mono ?_ fun _ _ => rfl)
  · refine hide_mono fun a o n e => ⟨fun z => ?_, gr a o e⟩
    simp only [List.mem_append] at z n
    rcases z with (z | z) | z
    · rw [fr a z] at e; cases e
    · exact n (.inl z)
    · exact n (.inr z)
  · intro a ha
    obtain ⟨o, e, _⟩ := s1.sl.there a ha
    rw [e, gr a o e]
  · rw [List.append_assoc] at nd2
    have := List.nodup_append.mp nd2
    rw [List.append_assoc, List.nodup_append]
    refine ⟨this.1, s1.nd, fun a ha b hb => this.2.2 a ha b (List.mem_append_left _ hb)⟩
  · rcases List.mem_append.mp ha with z | z
    · exact s2.own a (List.mem_append_left _ (List.mem_append_left _ z))
    · obtain ⟨o, e, w⟩ := s1.al a z
      exact ⟨o, gr a o e, w⟩
  · exact hide_sub fun a ha => by
      simp only [List.mem_append] at ha ⊢
      rcases ha with (z | z) | z <;> simp [z]
theorem do_call {g : Af} (Fo : FnD X.prog X.w X.K X.mg X.base k f fd ps sg F) (hr : Room k X.A) (hg : Gl X x) (hm : X.mg x = some (.ref f)) (hk : PySem.W.keepIn X.K (.ref f) = true) (hb : Binds X.K fd ps [])
    (ha : DA X (e :: es) τ g) (n : Nat) (hps : sg.ps = List.replicate n .sh) (hn : ∀ ds r, F ds = some r → ds.length = n) (hdb : (x == ("__debug__" : Str)) = false := by decide) (he : starEach (e :: es) X.env = (false, eval e X.env) :: starEach es X.env := by rfl) (hpl : (backTo pos (starEach es X.env)).any (·.1) = false := by rfl) :
    DO X (.Call (.Name x p) (e :: es) [] pos) τ (oCall F g) sg.ret := pe_imp (pe_call Fo hr hg hm hk hb .nil (pass0 (X := X)) ha hdb he hpl) fun σ H Q h => by
  obtain ⟨R, ρ, fs, hs, ρ', s, e, q⟩ := call_core n hps hn h
  refine ⟨R, ρ, fs, hs, ρ', s, e, fun vs H1 fs1 t1 s1 r1 => ?_⟩
  show spD X.K X.mg sg F (vs ++ []) H1 Q E0
  rw [List.append_nil]
  exact q vs H1 fs1 t1 s1 r1

/-! ### a call with borrowed lists: what comes back holds none -/
def immL (l : List D) (f : D → Bool) : Bool := l.all f
mutual
def imm : D → Bool
  | .tup l => imms l
  | .lst _ => false
  | .dct _ => false
  | .dtt _ => false
  | .set _ => false
  | .obj _ _ => false
  | .scr _ => false
  | _ => true
def imms : List D → Bool
  | [] => true
  | d :: r => imm d && imms r
end
def immR : Ty → D → Bool
  | .sh, d => imm d
  | .oL .sh, .lst l => imms l
  | .oT .sh, .dtt l => imms (l.map (·.2))
  | .oT .sh, .non => true
  | _, _ => false
mutual
theorem Rf.imm {K : PySem.W.Frag} {mg : Str → Option Value} {G G' : Hp} (h : ∀ a xs, G a = some (.tup xs) → G' a = some (.tup xs)) (hf : ∀ a o u, G a = some (.frz o u) → G' a = some (.frz o u)) : ∀ {d : D} {v : V}, imm d = true → Rf K mg G d v → Rf K mg G' d v
  | _, _, _, .non => .non
  | _, _, _, .bl b => .bl b
  | _, _, _, .int i => .int i
  | _, _, _, .str s => .str s
  | _, _, e, .tup q r => .tup (by
      rcases q with q | ⟨k, (q | ⟨o, q⟩) | q⟩
      · exact .inl (h _ _ q)
      · exact .inl (h _ _ q)
      · exact .inr ⟨k, .inl (.inr ⟨o, hf _ _ _ q⟩)⟩
      · exact .inr ⟨k, .inr q⟩) (Rfs.imm h hf (by simpa [TL.imm] using e) r)
  | _, _, e, .lst _ _ => by simp [TL.imm] at e
  | _, _, e, .dK _ _ _ => by simp [TL.imm] at e
  | _, _, e, .dT _ _ _ => by simp [TL.imm] at e
  | _, _, e, .obj _ _ _ _ => by simp [TL.imm] at e
  | _, _, e, .scr _ => by simp [TL.imm] at e
theorem Rfs.imm {K : PySem.W.Frag} {mg : Str → Option Value} {G G' : Hp} (h : ∀ a xs, G a = some (.tup xs) → G' a = some (.tup xs)) (hf : ∀ a o u, G a = some (.frz o u) → G' a = some (.frz o u)) : ∀ {d : List D} {v : List V}, imms d = true → Rfs K mg G d v → Rfs K mg G' d v
  | _, _, _, .nil => .nil
  | _, _, e, .cons q r => .cons (Rf.imm h hf (by simp [imms] at e; exact e.1) q) (Rfs.imm h hf (by simp [imms] at e; exact e.2) r)
end
theorem Rv.whole {K : PySem.W.Frag} {mg : Str → Option Value} {S : List Addr} {H : Hp} {d : D} {v : V} (r : Rv K mg S H d v) : Rf K mg (hide [] H) d v := by
  have le : Le (hide S H) (hide [] H) := hide_sub fun a ha => by simp at ha
  have eq : hide [] H = H := by funext a; simp [hide]
  rw [eq] at le ⊢
  cases r with
  | rf r => exact r.mono le
  | lst h r => exact .lst h (r.mono le)
  | dK h n r => exact .dK h n (r.mono le)
  | dT h n r => exact .dT h n (r.mono le)
theorem Rvs.whole {K : PySem.W.Frag} {mg : Str → Option Value} {S : List Addr} {H : Hp} : ∀ {d : List D} {v : List V}, Rvs K mg S H d v → Rfs K mg (hide [] H) d v
  | _, _, .nil => .nil
  | _, _, .cons h r => .cons h.whole (Rvs.whole r)
def oCallB (t : Ty) (F : Fm) (g : Af) : Of := fun ρ => (g ρ).bind fun p => (F (p.1.map fun h => h.res p.2)).bind fun r => if immR t r.1 then some (r.1, p.2) else none
theorem callB_core {g : Af} (n : Nat) (hps : sg.ps = List.replicate n .sh) (hn : ∀ ds r, F ds = some r → ds.length = n) {σ : L2.St} {H : Hp} {Q : VK} :
    tO X τ (oCallB sg.ret F g) sg.ret σ H Q → tA X τ g σ H fun vs H1 => spD X.K X.mg sg F vs H1 Q E0 := fun ⟨R, ρ, fs, d, ρ', s, eq, q⟩ => by
  obtain ⟨w, e1, e2⟩ := bindO eq
  obtain ⟨r, e5, e6⟩ := bindO e2
  obtain ⟨e7, e8⟩ := ifSome e6
  cases e8
  refine ⟨R, ρ, fs, w.1, w.2, s, e1, fun vs H1 fs1 t1 s1 r1 => ?_⟩
  have rf := (s1.ress r1).whole
  have sa := SR.args rf List.nodup_nil (fun a ha => nomatch ha)
  rw [hn _ _ e5, ← hps] at sa
  refine ⟨[], _, [], r.1, r.2, sa, e5, fun v H2 fs2 fv t2 s2 rp => ?_⟩
  have gr : Grow H1 H2 := fun a o e => t2.ext a o (by simp) e
  have fr : ∀ a ∈ fv, H1 a = none := fun a ha => (t2.sub a (List.mem_append_left _ ha)).elim (fun z => by simp at z) id
  have nd2 := s2.nd
  have nfv : fv.Nodup := by
    simp only [List.append_nil] at nd2
    exact (List.nodup_append.mp nd2).1
  have own2 : ∀ a ∈ R ++ fs1, ∃ o, H2 a = some o ∧ Own o := fun a ha => by
    obtain ⟨o, e, w⟩ := s1.own a ha
    exact ⟨o, gr a o e, w⟩
  have dis : ∀ a ∈ fv, a ∉ R ++ fs1 := fun a ha z => by
    obtain ⟨o, e, _⟩ := s1.own a z
    rw [fr a ha] at e; cases e
  have immk : ∀ a xs, hide (fv ++ [] ++ fs2) H2 a = some (.tup xs) → hide (fv ++ R ++ fs1) H2 a = some (.tup xs) := fun a xs e => by
    rw [hide_some] at e ⊢
    refine ⟨fun z => ?_, e.2⟩
    rw [List.append_assoc] at z
    rcases List.mem_append.mp z with z | z
    · exact e.1 (by simp [z])
    · obtain ⟨o, e', w⟩ := own2 a z
      rw [e.2] at e'; cases e'; exact w
  have immf : ∀ a o u, hide (fv ++ [] ++ fs2) H2 a = some (.frz o u) → hide (fv ++ R ++ fs1) H2 a = some (.frz o u) := fun a o u e => by
    rw [hide_some] at e ⊢
    refine ⟨fun z => ?_, e.2⟩
    rw [List.append_assoc] at z
    rcases List.mem_append.mp z with z | z
    · exact e.1 (by simp [z])
    · obtain ⟨o, e', w⟩ := own2 a z
      rw [e.2] at e'; cases e'; exact w
  refine q v H2 fs1 fv (t1.trans ⟨fun a o _ e => gr a o e, fun a ha => (List.mem_append.mp ha).elim (fun z => .inr (fr a z)) .inl, fun a o e => ⟨o, gr a o e⟩⟩) ⟨s1.sl.mono ?_ ?_, ?_, fun a ha => ?_⟩ ?_
  · refine hide_mono fun a o n e => ⟨fun z => ?_, gr a o e⟩
    simp only [List.mem_append] at z n
    rcases z with (z | z) | z
    · rw [fr a z] at e; cases e
    · exact n (.inl z)
    · exact n (.inr z)
  · intro a ha
    obtain ⟨o, e, _⟩ := s1.sl.there a ha
    rw [e, gr a o e]
  · rw [List.append_assoc, List.nodup_append]
    exact ⟨nfv, s1.nd, fun a ha b hb e => dis a ha (e ▸ hb)⟩
  · rcases List.mem_append.mp ha with z | z
    · exact s2.own a (by simp [z])
    · obtain ⟨o, e, w⟩ := s1.al a z
      exact ⟨o, gr a o e, w⟩
  · revert rp e7
    cases hret : sg.ret with
    | sh =>
      intro e7 rp
      cases rp with
      | sh rp => exact .sh (rp.imm immk immf e7)
    | oL t =>
      cases t with
      | sh =>
        intro e7 rp
        generalize r.1 = dd at e7 rp
        cases rp with
        | oL h rp =>
          have z := rp.to_sh
          have z2 := z.2
          subst z2
          exact .oL h (Rps.of_sh (z.1.imm immk immf e7))
      | _ => intro e7; simp [immR] at e7
    | oT t =>
      cases t with
      | sh =>
        intro e7 rp
        generalize r.1 = dd at e7 rp
        cases rp with
        | oT h n rp =>
          have z := rp.to_sh
          have z2 := z.2
          subst z2
          refine .oT h n ?_
          have e7' : imms (List.map (fun p : TL.D × TL.D => p.2) _) = true := e7
          have w := Rps.of_sh (H := H2) (z.1.imm immk immf e7')
          rw [List.length_map] at w
          exact w
        | nT => exact .nT
      | _ => intro e7; simp [immR] at e7
    | _ => intro e7; simp [immR] at e7
theorem do_callB' {g : Af} (Fo : FnD X.prog X.w X.K X.mg X.base k f fd ps sg F) (hr : Room k X.A) (hg : Gl X x) (hm : X.mg x = some (.ref f)) (hk : PySem.W.keepIn X.K (.ref f) = true) (hb : Binds X.K fd ps [])
    (ha : DA X (e :: es) τ g) (n : Nat) (hps : sg.ps = List.replicate n .sh) (hn : ∀ ds r, F ds = some r → ds.length = n) (hdb : (x == ("__debug__" : Str)) = false := by decide) (he : starEach (e :: es) X.env = (false, eval e X.env) :: starEach es X.env := by rfl) (hpl : (backTo pos (starEach es X.env)).any (·.1) = false := by rfl) :
    DO X (.Call (.Name x p) (e :: es) [] pos) τ (oCallB sg.ret F g) sg.ret := pe_imp (pe_call Fo hr hg hm hk hb .nil (pass0 (X := X)) ha hdb he hpl) fun σ H Q h => by
  obtain ⟨R, ρ, fs, hs, ρ', s, e, q⟩ := callB_core n hps hn h
  refine ⟨R, ρ, fs, hs, ρ', s, e, fun vs H1 fs1 t1 s1 r1 => ?_⟩
  show spD X.K X.mg sg F (vs ++ []) H1 Q E0
  rw [List.append_nil]
  exact q vs H1 fs1 t1 s1 r1

/-! ### a call that changes one of its arguments -/
inductive RHi (K : PySem.W.Frag) (mg : Str → Option Value) (S : List Addr) (τ : List Ty) (σ : L2.St) (H : Hp) : Hd → V → Prop
  | rh {h : Hd} {v : V} : RH K mg S τ σ H h v → RHi K mg S τ σ H h v
  | io {i : Nat} {v : V} : σ[i]? = some (some v) → RHi K mg S τ σ H (.x i) v
inductive RHis (K : PySem.W.Frag) (mg : Str → Option Value) (S : List Addr) (τ : List Ty) (σ : L2.St) (H : Hp) : List Hd → List V → Prop
  | nil : RHis K mg S τ σ H [] []
  | cons {h : Hd} {v : V} {hs : List Hd} {vs : List V} : RHi K mg S τ σ H h v → RHis K mg S τ σ H hs vs → RHis K mg S τ σ H (h :: hs) (v :: vs)
def tAi (X : Cx) (τ : List Ty) (f : Af) : TA := fun σ H Q => ∃ R ρ fs hs ρ', SR X.K X.mg R τ ρ σ H fs ∧ f ρ = some (hs, ρ') ∧
  ∀ vs H' fs', Step H H' fs fs' → SR X.K X.mg R τ ρ' σ H' fs' → RHis X.K X.mg (R ++ fs') τ σ H' hs vs → Q vs H'
abbrev DAi (X : Cx) (es : List Expr) (τ : List Ty) (f : Af) : Prop := PA X es (tAi X τ f)
theorem SR.holdHi {K : PySem.W.Frag} {mg : Str → Option Value} {R : List Addr} {ρ : Rho} {σ : L2.St} {H H' : Hp} {fs fs' : List Addr} (s : SR K mg R τ ρ σ H fs) (t : Step H H' fs fs') {h : Hd} {v : V} (r : RHi K mg (R ++ fs) τ σ H h v) : RHi K mg (R ++ fs') τ σ H' h v := by
  cases r with
  | rh r => exact .rh (s.holdH t r)
  | io e => exact .io e
theorem dai_nil : DAi X [] τ aNil := pa_imp pa_nil fun σ H Q ⟨R, ρ, fs, h, ρ', s, e, q⟩ => by
  cases e
  exact q [] H fs (Step.refl H fs) s .nil
theorem dai_cons {f : Ef} {g : Af} (ha : DE X e τ f) (hr : DAi X es τ g) (hs : starEach (e :: es) X.env = (false, eval e X.env) :: starEach es X.env := by rfl) : DAi X (e :: es) τ (aCons f g) := pa_imp (pa_cons ha hr hs) fun σ H Q ⟨R, ρ, fs, h, ρ', s, e, q⟩ => by
  obtain ⟨p, e1, e2⟩ := bindO e
  obtain ⟨w, e3, e4⟩ := bindO e2
  cases e4
  exact ⟨R, ρ, fs, p.1, p.2, s, e1, fun v H' fs' t s' r => ⟨R, p.2, fs', w.1, w.2, s', e3, fun vs H2 fs2 t2 s2 r2 => q (v :: vs) H2 fs2 (t.trans t2) s2 (.cons (s'.holdHi t2 (.rh r)) r2)⟩⟩
theorem dai_io {g : Af} (i : Nat) {t : Ty} (ha : PE X e (tVar i)) (hr : DAi X es τ g) (ht : τ[i]? = some t := by rfl) (hn : t ≠ .no := by intro z; cases z) (hs : starEach (e :: es) X.env = (false, eval e X.env) :: starEach es X.env := by rfl) : DAi X (e :: es) τ (aCons (eOwn i) g) := pa_imp (pa_cons ha hr hs) fun σ H Q ⟨R, ρ, fs, h, ρ', s, e, q⟩ => by
  obtain ⟨p, e1, e2⟩ := bindO e
  obtain ⟨w, e3, e4⟩ := bindO e2
  cases e4
  cases e1
  obtain ⟨v, f, ev, _, _⟩ := s.get ht hn
  exact ⟨v, ev, R, ρ, fs, w.1, w.2, s, e3, fun vs H2 fs2 t2 s2 r2 => q (v :: vs) H2 fs2 t2 s2 (.cons (.io ev) r2)⟩
/-- the parameters' kinds: all frozen but the j-th -/
def ioPs (n j : Nat) (t : Ty) : List Ty := (List.replicate n .sh).set j t
/-- the handles: all values but the j-th, which is the slot i -/
def hvI (i : Nat) : List Hd → Nat → Rho → Option (List D)
  | [], _, _ => none
  | .x m :: r, 0, ρ => if m == i then (hvals r).bind fun ds => some (ρ.getD i .non :: ds) else none
  | .v _ :: _, 0, _ => none
  | .v d :: r, j + 1, ρ => (hvI i r j ρ).bind fun ds => some (d :: ds)
  | .x _ :: _, _ + 1, _ => none
def oCallI (F : Fm) (i j : Nat) (g : Af) : Of := fun ρ => (g ρ).bind fun p => (hvI i p.1 j p.2).bind fun ds => (F ds).bind fun r => some (r.1, p.2.set i (r.2.getD j .non))
theorem RHis.valsOf {K : PySem.W.Frag} {mg : Str → Option Value} {S : List Addr} {σ : L2.St} {H : Hp} : ∀ {hs : List Hd} {vs : List V} {ds : List D}, RHis K mg S τ σ H hs vs → hvals hs = some ds → Rfs K mg (hide S H) ds vs
  | _, _, _, .nil, e => by cases e; exact .nil
  | _, _, _, .cons (h := h) (hs := hs) r rs, e => by
    cases h with
    | x i => cases e
    | v d =>
      obtain ⟨ds', e1, e2⟩ := bindO (show (hvals hs).bind _ = _ from e)
      cases e2
      cases r with
      | rh r => exact .cons r (RHis.valsOf rs e1)
theorem RHis.argsI {K : PySem.W.Frag} {mg : Str → Option Value} {S : List Addr} {σ : L2.St} {H : Hp} {ρ : Rho} {t : Ty} {v : V} {fo : List Addr} {i : Nat} (ev : σ[i]? = some (some v)) (rp : Rp K mg H (hide S H) t (ρ.getD i .non) v fo) : ∀ {hs : List Hd} {vs : List V} {ds : List D} {j : Nat}, RHis K mg S τ σ H hs vs → hvI i hs j ρ = some ds →
    Sl K mg H (hide S H) (ioPs ds.length j t) ds (vs.map some) fo ∧ vs[j]? = some v ∧ j < ds.length
  | _, _, _, _, .nil, e => by cases e
  | _, _, _, 0, .cons (h := h) (v := v0) (hs := hs) r rs, e => by
    cases h with
    | v d => cases e
    | x m =>
      obtain ⟨e1, e2⟩ := ifSome' (x := ()) (r := ()) (c := m == i) (by
        unfold hvI at e
        by_cases q : (m == i) = true
        · simp [q]
        · rw [if_neg q] at e; cases e)
      have em : m = i := by simpa using e1
      subst em
      unfold hvI at e
      rw [if_pos e1] at e
      obtain ⟨ds', e3, e4⟩ := bindO e
      cases e4
      have ev' : σ[m]? = some (some v0) := by
        cases r with
        | rh r => exact r.1
        | io r => exact r
      rw [ev] at ev'; cases ev'
      have q := Sl.cons rp (Sl.of_sh (H := H) (rs.valsOf e3))
      rw [List.append_nil] at q
      exact ⟨q, rfl, by simp⟩
  | _, _, _, j + 1, .cons (h := h) (hs := hs) r rs, e => by
    cases h with
    | x i => cases e
    | v d =>
      obtain ⟨ds', e1, e2⟩ := bindO (show (hvI i hs j ρ).bind _ = _ from e)
      cases e2
      obtain ⟨q, q2, q3⟩ := RHis.argsI ev rp rs e1
      cases r with
      | rh r =>
        exact ⟨Sl.cons (Rp.sh (H := H) r) q, by simpa using q2, by simpa using q3⟩
theorem callI_core {g : Af} {t : Ty} (i j n : Nat) (hps : sg.ps = ioPs n j t) (hn : ∀ ds r, F ds = some r → ds.length = n) (ht : τ[i]? = some t) (hno : t ≠ .no) (hsh : t.io = t) {σ : L2.St} {H : Hp} {Q : VK} :
    tO X τ (oCallI F i j g) sg.ret σ H Q → tAi X τ g σ H fun vs H1 => spD X.K X.mg sg F vs H1 Q E0 := fun ⟨R, ρ, fs, d, ρ', s, eq, q⟩ => by
  obtain ⟨w, e1, e2⟩ := bindO eq
  obtain ⟨ds, e3, e4⟩ := bindO e2
  obtain ⟨r, e5, e6⟩ := bindO e4
  cases e6
  refine ⟨R, ρ, fs, w.1, w.2, s, e1, fun vs H1 fs1 t1 s1 r1 => ?_⟩
  obtain ⟨f1, fo, f2, ef, ho, hl, h1, h2, h3⟩ := s1.sl.split ht
  rcases ho with ⟨z, _⟩ | ⟨vi, evi, rp⟩
  · exact absurd z hno
  subst ef
  obtain ⟨sa, ej, hj⟩ := r1.argsI evi rp e3
  rw [hn _ _ e5, ← hps] at sa
  have nd1 := s1.nd
  have mem1 : ∀ a, a ∈ (R ++ (f1 ++ f2)) ++ fo ↔ a ∈ R ++ (f1 ++ fo ++ f2) := fun a => by
    simp only [List.mem_append]
    constructor
    · rintro ((h | h | h) | h) <;> simp [h]
    · rintro (h | (h | h) | h) <;> simp [h]
  have ndm : ((R ++ (f1 ++ f2)) ++ fo).Nodup := by
    have pm : ((R ++ (f1 ++ f2)) ++ fo).Perm (R ++ (f1 ++ fo ++ f2)) := by
      rw [List.append_assoc]
      refine List.Perm.append_left R ?_
      rw [List.append_assoc, List.append_assoc]
      exact List.Perm.append_left f1 List.perm_append_comm
    exact pm.nodup_iff.mpr nd1
  have sA : SR X.K X.mg (R ++ (f1 ++ f2)) sg.ps ds (vs.map some) H1 fo := ⟨sa.mono (hide_sub fun a ha => (mem1 a).mp ha) fun _ _ => rfl, ndm, fun a ha => s1.own a ((mem1 a).mp (List.mem_append_left _ ha))⟩
  refine ⟨R ++ (f1 ++ f2), ds, fo, r.1, r.2, sA, e5, fun v H2 fs2 fv t2 s2 rp2 => ?_⟩
  have hjn : j < n := by rw [← hn _ _ e5]; exact hj
  have tj : (sg.ps.map Ty.io)[j]? = some t := by
    rw [hps, List.getElem?_map]
    unfold ioPs
    rw [List.getElem?_set_self (by simpa using hjn)]
    simp [hsh]
  obtain ⟨g1, f', g2, eg, ho2, _⟩ := s2.sl.split tj
  rcases ho2 with ⟨z, _⟩ | ⟨v', ev', rpj⟩
  · exact absurd z hno
  have hf' : ∀ a ∈ f', a ∈ fs2 := fun a ha => by rw [eg]; simp [ha]
  have evv : v' = vi := by
    rw [List.getElem?_map, ej] at ev'
    simpa using ev'.symm
  subst evv
  have nd2 := s2.nd
  have H12 : ∀ a ∈ R ++ (f1 ++ f2), ∀ o, H1 a = some o → H2 a = some o := fun a ha o e => t2.ext a o (fun z => (List.nodup_append.mp ndm).2.2 a ha a z rfl) e
  have key : ∀ a, a ∈ fv ++ R ++ (f1 ++ f' ++ f2) → a ∈ fv ++ (R ++ (f1 ++ f2)) ++ fs2 := fun a ha => by
    simp only [List.mem_append] at ha ⊢
    rcases ha with (h | h) | (h | h) | h
    · simp [h]
    · simp [h]
    · simp [h]
    · simp [hf' a h]
    · simp [h]
  have le1 : Le (hide (R ++ (f1 ++ fo ++ f2)) H1) (hide (fv ++ R ++ (f1 ++ f' ++ f2)) H2) := hide_mono fun a o n e => by
    have nfo : a ∉ fo := fun z => n (by simp [z])
    refine ⟨fun z => ?_, t2.ext a o nfo e⟩
    have z := key a z
    have nR : a ∉ R ++ (f1 ++ f2) := fun z => n ((mem1 a).mp (List.mem_append_left _ z))
    rcases List.mem_append.mp z with z | z
    · rcases List.mem_append.mp z with z | z
      · rcases t2.sub a (List.mem_append_left _ z) with q | q
        · exact nfo q
        · rw [q] at e; cases e
      · exact nR z
    · rcases t2.sub a (List.mem_append_right _ z) with q | q
      · exact nfo q
      · rw [q] at e; cases e
  have rpj' : Rp X.K X.mg H2 (hide (fv ++ R ++ (f1 ++ f' ++ f2)) H2) t (r.2.getD j .non) v' f' := rpj.mono (hide_sub key) fun _ _ => rfl
  have sl' := h2 (H' := H2) (G' := hide (fv ++ R ++ (f1 ++ f' ++ f2)) H2) (t' := t) (d' := r.2.getD j .non) (v' := v') (f' := f') (fun a ha => by
      obtain ⟨o, e, _⟩ := s1.own a (by
        simp only [List.mem_append] at ha ⊢
        rcases ha with h | h <;> simp [h])
      rw [e, H12 a (List.mem_append_right _ ha) o e]) le1 evi rpj'
  rw [set_at ht] at sl'
  have nfs2 : fs2.Nodup := (List.nodup_append.mp nd2).2.1
  have nf' : f'.Nodup := by
    rw [eg] at nfs2
    exact (List.nodup_append.mp (List.nodup_append.mp nfs2).1).2.1
  have ndA : (fv ++ (R ++ (f1 ++ f2))).Nodup := (List.nodup_append.mp nd2).1
  have nd3 : (fv ++ R ++ (f1 ++ f' ++ f2)).Nodup := by
    refine nodup_mid (fo := []) ?_ (fun a ha z => ?_) nf'
    · simp only [List.append_nil]
      rw [List.append_assoc]; exact ndA
    · refine (List.nodup_append.mp nd2).2.2 a ?_ a (hf' a ha) rfl
      rw [List.append_assoc] at z
      exact z
  refine q v H2 (f1 ++ f' ++ f2) fv (t1.trans ⟨fun a o n e => t2.ext a o (fun z => n (by simp [z])) e, fun a ha => ?_, t2.ne⟩) ⟨sl', nd3, fun a ha => ?_⟩ (rp2.mono (hide_sub key) fun _ _ => rfl)
  · rcases List.mem_append.mp ha with z | z
    · rcases t2.sub a (List.mem_append_left _ z) with q | q
      · exact .inl (by simp [q])
      · exact .inr q
    · simp only [List.mem_append] at z
      rcases z with (z | z) | z
      · exact .inl (by simp [z])
      · rcases t2.sub a (List.mem_append_right _ (hf' a z)) with q | q
        · exact .inl (by simp [q])
        · exact .inr q
      · exact .inl (by simp [z])
  · rcases List.mem_append.mp ha with z | z
    · exact s2.own a (by simp [z])
    · obtain ⟨o, e, w⟩ := s1.al a z
      exact ⟨o, H12 a (List.mem_append_left _ z) o e, w⟩
theorem do_callI {g : Af} {t : Ty} (i j n : Nat) (Fo : FnD X.prog X.w X.K X.mg X.base k f fd ps sg F) (hr : Room k X.A) (hg : Gl X x) (hm : X.mg x = some (.ref f)) (hk : PySem.W.keepIn X.K (.ref f) = true) (hb : Binds X.K fd ps [])
    (ha : DAi X (e :: es) τ g) (hps : sg.ps = ioPs n j t) (hn : ∀ ds r, F ds = some r → ds.length = n) (ht : τ[i]? = some t := by rfl) (hno : t ≠ .no := by intro z; cases z) (hsh : t.io = t := by rfl) (hdb : (x == ("__debug__" : Str)) = false := by decide) (he : starEach (e :: es) X.env = (false, eval e X.env) :: starEach es X.env := by rfl) (hpl : (backTo pos (starEach es X.env)).any (·.1) = false := by rfl) :
    DO X (.Call (.Name x p) (e :: es) [] pos) τ (oCallI F i j g) sg.ret := pe_imp (pe_call Fo hr hg hm hk hb .nil (pass0 (X := X)) ha hdb he hpl) fun σ H Q h => by
  obtain ⟨R, ρ, fs, hs, ρ', s, e, q⟩ := callI_core i j n hps hn ht hno hsh h
  refine ⟨R, ρ, fs, hs, ρ', s, e, fun vs H1 fs1 t1 s1 r1 => ?_⟩
  show spD X.K X.mg sg F (vs ++ []) H1 Q E0
  rw [List.append_nil]
  exact q vs H1 fs1 t1 s1 r1
end
end TL

namespace TL
open PySem PySem.Spec PyProof.Rows L2

inductive Out where
  | nx (ρ : Rho) | bk (ρ : Rho) | ct (ρ : Rho) | rt (d : D) (ρ : Rho)
abbrev Sf := Rho → Option Out
/-- what holds throughout a def: the slots that stay (its changed parameters), the result's kind, the slots' kinds at a return; at a break, at a continue -/
structure Gm where
  io : List Nat
  ret : Ty
  rty : List Ty
  bk : List Ty := []
  ct : List Ty := []
def Kp (io : List Nat) (σ σ' : L2.St) : Prop := ∀ i ∈ io, σ'[i]? = σ[i]?
theorem Kp.refl (io : List Nat) (σ : L2.St) : Kp io σ σ := fun _ _ => rfl
theorem Kp.trans {io : List Nat} {a b c : L2.St} (h : Kp io a b) (k : Kp io b c) : Kp io a c := fun i hi => (k i hi).trans (h i hi)
/-- the end of a statement, seen from the state (σ0, H0, fs0) -/
def Post (X : Cx) (γ : Gm) (D : Ends) (R : List Addr) (σ0 : L2.St) (H0 : Hp) (fs0 : List Addr) (τ' : List Ty) : Out → Prop
  | .nx ρ' => ∀ σ' H' fs', Step H0 H' fs0 fs' → Kp γ.io σ0 σ' → SR X.K X.mg R τ' ρ' σ' H' fs' → D.nx σ' H'
  | .bk ρ' => ∀ σ' H' fs', Step H0 H' fs0 fs' → Kp γ.io σ0 σ' → SR X.K X.mg R γ.bk ρ' σ' H' fs' → D.bk σ' H'
  | .ct ρ' => ∀ σ' H' fs', Step H0 H' fs0 fs' → Kp γ.io σ0 σ' → SR X.K X.mg R γ.ct ρ' σ' H' fs' → D.ct σ' H'
  | .rt d ρ' => ∀ v σ' H' fs' fv, Step H0 H' fs0 (fv ++ fs') → Kp γ.io σ0 σ' → SR X.K X.mg (fv ++ R) γ.rty ρ' σ' H' fs' → Rp X.K X.mg H' (hide (fv ++ R ++ fs') H') γ.ret d v fv → D.rt v H'
def tS (X : Cx) (γ : Gm) (τ : List Ty) (f : Sf) (τ' : List Ty) : TS := fun D σ H => ∃ R ρ fs out, SR X.K X.mg R τ ρ σ H fs ∧ f ρ = some out ∧ Post X γ D R σ H fs τ' out
abbrev DS (X : Cx) (γ : Gm) (st : Stmt) (τ : List Ty) (f : Sf) (τ' : List Ty) : Prop := PS X st (tS X γ τ f τ')
abbrev DSs (X : Cx) (γ : Gm) (st : List Stmt) (τ : List Ty) (f : Sf) (τ' : List Ty) : Prop := PSs X st (tS X γ τ f τ')
theorem ps_imp {X : Cx} {e : Stmt} {t t' : TS} (h : PS X e t) (k : ∀ D σ H, t' D σ H → t D σ H) : PS X e t' := ⟨fun pins s σ H D I q => h.run pins s σ H D I (k D σ H q)⟩
theorem pss_imp {X : Cx} {e : List Stmt} {t t' : TS} (h : PSs X e t) (k : ∀ D σ H, t' D σ H → t D σ H) : PSs X e t' := ⟨fun pins s σ H D I q => h.run pins s σ H D I (k D σ H q)⟩
theorem Post.mono {X : Cx} {γ : Gm} {D D' : Ends} {R : List Addr} {σ0 σ1 : L2.St} {H0 H1 : Hp} {fs0 fs1 : List Addr} {τ' τ'' : List Ty} {o : Out} (t : Step H0 H1 fs0 fs1) (k : Kp γ.io σ0 σ1) (p : Post X γ D R σ0 H0 fs0 τ' o)
    (hn : ∀ ρ' σ' H' fs', o = .nx ρ' → Step H0 H' fs0 fs' → Kp γ.io σ0 σ' → SR X.K X.mg R τ'' ρ' σ' H' fs' → D'.nx σ' H') (hb : D'.bk = D.bk) (hc : D'.ct = D.ct) (hr : D'.rt = D.rt) : Post X γ D' R σ1 H1 fs1 τ'' o := by
  cases o with
  | nx ρ' => exact fun σ' H' fs' t' k' s' => hn ρ' σ' H' fs' rfl (t.trans t') (k.trans k') s'
  | bk ρ' => exact fun σ' H' fs' t' k' s' => by rw [hb]; exact p σ' H' fs' (t.trans t') (k.trans k') s'
  | ct ρ' => exact fun σ' H' fs' t' k' s' => by rw [hc]; exact p σ' H' fs' (t.trans t') (k.trans k') s'
  | rt d ρ' => exact fun v σ' H' fs' fv t' k' s' r => by rw [hr]; exact p v σ' H' fs' fv (t.trans t') (k.trans k') s' r

def sNil : Sf := fun ρ => some (.nx ρ)
def sSeq (f g : Sf) : Sf := fun ρ => (f ρ).bind fun o => match o with
  | .nx ρ' => g ρ'
  | o => some o
/-- slots forgotten behind a block -/
def sKl (ks : List Nat) (f : Sf) : Sf := fun ρ => (f ρ).bind fun o => match o with
  | .nx ρ' => some (.nx (kill ks ρ'))
  | o => some o
section
variable {X : Cx} {γ : Gm} {τ τ1 τ' : List Ty} {st : Stmt} {rest : List Stmt} {a b c e : Expr} {es : List Expr} {pos p : Pos}
theorem dss_nil : DSs X γ [] τ sNil τ := pss_imp pss_nil fun D σ H ⟨R, ρ, fs, o, s, e, q⟩ => by
  cases e
  exact q σ H fs (Step.refl H fs) (Kp.refl _ _) s
theorem dss_cons {f g : Sf} (h1 : DS X γ st τ f τ1) (h2 : DSs X γ rest τ1 g τ') : DSs X γ (st :: rest) τ (sSeq f g) τ' := pss_imp (pss_cons h1 h2) fun D σ H ⟨R, ρ, fs, o, s, e, q⟩ => by
  obtain ⟨o1, e1, e2⟩ := bindO e
  refine ⟨R, ρ, fs, o1, s, e1, ?_⟩
  cases o1 with
  | nx ρ1 => exact fun σ1 H1 fs1 t1 k1 s1 => ⟨R, ρ1, fs1, o, s1, e2, q.mono t1 k1 (fun ρ' σ' H' fs' eo t' k' s' => by subst eo; exact q σ' H' fs' t' k' s') rfl rfl rfl⟩
  | bk ρ1 => cases e2; exact q
  | ct ρ1 => cases e2; exact q
  | rt d ρ1 => cases e2; exact q
theorem dss_one {f : Sf} (h1 : DS X γ st τ f τ') : DSs X γ [st] τ f τ' := pss_imp (pss_one h1) fun D σ H q => q
theorem dss_kill {sts : List Stmt} {f : Sf} (ks : List Nat) (h : DSs X γ sts τ f τ1) (ht : killT ks τ1 = τ' := by rfl) : DSs X γ sts τ (sKl ks f) τ' := pss_imp h fun D σ H ⟨R, ρ, fs, o, s, e, q⟩ => by
  obtain ⟨o1, e1, e2⟩ := bindO e
  refine ⟨R, ρ, fs, o1, s, e1, ?_⟩
  cases o1 with
  | nx ρ1 =>
    cases e2
    intro σ1 H1 fs1 t1 k1 s1
    obtain ⟨fs2, s2, sub⟩ := s1.killS ks
    rw [ht] at s2
    exact q σ1 H1 fs2 (t1.less sub) k1 s2
  | bk ρ1 => cases e2; exact q
  | ct ρ1 => cases e2; exact q
  | rt d ρ1 => cases e2; exact q
/-- an owned slot given away ahead of a block -/
theorem dss_frz {sts : List Stmt} {f : Sf} (i : Nat) {t : Ty} (h : DSs X γ sts (τ.set i .sh) f τ') (ht : τ[i]? = some t := by rfl) (hn : t ≠ .no := by intro z; cases z) : DSs X γ sts τ f τ' := pss_imp h fun D σ H ⟨R, ρ, fs, o, s, e, q⟩ => by
  obtain ⟨fs1, s1, sub⟩ := s.frz ht hn
  exact ⟨R, ρ, fs1, o, s1, e, q.mono ((Step.refl H fs).less sub) (Kp.refl _ _) (fun ρ' σ' H' fs' eo t' k' s' => by subst eo; exact q σ' H' fs' t' k' s') rfl rfl rfl⟩
theorem ds_frz {f : Sf} (i : Nat) {t : Ty} (h : DS X γ st (τ.set i .sh) f τ') (ht : τ[i]? = some t := by rfl) (hn : t ≠ .no := by intro z; cases z) : DS X γ st τ f τ' := ps_imp h fun D σ H ⟨R, ρ, fs, o, s, e, q⟩ => by
  obtain ⟨fs1, s1, sub⟩ := s.frz ht hn
  exact ⟨R, ρ, fs1, o, s1, e, q.mono ((Step.refl H fs).less sub) (Kp.refl _ _) (fun ρ' σ' H' fs' eo t' k' s' => by subst eo; exact q σ' H' fs' t' k' s') rfl rfl rfl⟩

/-! ### small statements -/
def sPass : Sf := fun ρ => some (.nx ρ)
def sBrk : Sf := fun ρ => some (.bk ρ)
def sCont : Sf := fun ρ => some (.ct ρ)
theorem ds_pass : DS X γ (.Pass pos) τ sPass τ := ps_imp ps_pass fun D σ H ⟨R, ρ, fs, o, s, e, q⟩ => by
  cases e
  exact q σ H fs (Step.refl H fs) (Kp.refl _ _) s
theorem ds_brk (h : γ.bk = τ := by rfl) : DS X γ (.Break pos) τ sBrk τ' := ps_imp ps_break fun D σ H ⟨R, ρ, fs, o, s, e, q⟩ => by
  cases e
  exact q σ H fs (Step.refl H fs) (Kp.refl _ _) (by rw [h]; exact s)
theorem ds_cont (h : γ.ct = τ := by rfl) : DS X γ (.Continue pos) τ sCont τ' := ps_imp ps_continue fun D σ H ⟨R, ρ, fs, o, s, e, q⟩ => by
  cases e
  exact q σ H fs (Step.refl H fs) (Kp.refl _ _) (by rw [h]; exact s)
/-- what a return needs: the changed parameters are still owned -/
def LeT : List Ty → List Ty → Prop
  | [], [] => True
  | .no :: r, _ :: s => LeT r s
  | t :: r, u :: s => t = u ∧ LeT r s
  | _, _ => False
mutual
def tyEq : Ty → Ty → Bool
  | .no, .no => true
  | .sh, .sh => true
  | .oL a, .oL b => tyEq a b
  | .oK a, .oK b => tyEq a b
  | .oT a, .oT b => tyEq a b
  | .oO c x l, .oO d y m => c == d && x == y && tyEqs l m
  | _, _ => false
def tyEqs : List Ty → List Ty → Bool
  | [], [] => true
  | a :: l, b :: m => tyEq a b && tyEqs l m
  | _, _ => false
end
mutual
theorem tyEq_ok : ∀ {a b : Ty}, tyEq a b = true → a = b
  | .no, .no, _ => rfl
  | .sh, .sh, _ => rfl
  | .oL a, .oL b, h => by rw [tyEq_ok (a := a) (b := b) (by simpa [tyEq] using h)]
  | .oK a, .oK b, h => by rw [tyEq_ok (a := a) (b := b) (by simpa [tyEq] using h)]
  | .oT a, .oT b, h => by rw [tyEq_ok (a := a) (b := b) (by simpa [tyEq] using h)]
  | .oO c x l, .oO d y m, h => by
    have h' : ((c == d) = true ∧ (x == y) = true) ∧ tyEqs l m = true := by
      unfold tyEq at h
      simpa only [Bool.and_eq_true] using h
    rw [tyEqs_ok h'.2, eq_of_beq h'.1.1, eq_of_beq h'.1.2]
  | .no, .sh, h | .no, .oL _, h | .no, .oK _, h | .no, .oT _, h | .no, .oO _ _ _, h => by simp [tyEq] at h
  | .sh, .no, h | .sh, .oL _, h | .sh, .oK _, h | .sh, .oT _, h | .sh, .oO _ _ _, h => by simp [tyEq] at h
  | .oL _, .no, h | .oL _, .sh, h | .oL _, .oK _, h | .oL _, .oT _, h | .oL _, .oO _ _ _, h => by simp [tyEq] at h
  | .oK _, .no, h | .oK _, .sh, h | .oK _, .oL _, h | .oK _, .oT _, h | .oK _, .oO _ _ _, h => by simp [tyEq] at h
  | .oT _, .no, h | .oT _, .sh, h | .oT _, .oL _, h | .oT _, .oK _, h | .oT _, .oO _ _ _, h => by simp [tyEq] at h
  | .oO _ _ _, .no, h | .oO _ _ _, .sh, h | .oO _ _ _, .oL _, h | .oO _ _ _, .oK _, h | .oO _ _ _, .oT _, h => by simp [tyEq] at h
theorem tyEqs_ok : ∀ {a b : List Ty}, tyEqs a b = true → a = b
  | [], [], _ => rfl
  | a :: l, b :: m, h => by
    have h' : tyEq a b = true ∧ tyEqs l m = true := by simpa [tyEqs] using h
    rw [tyEq_ok h'.1, tyEqs_ok h'.2]
  | [], _ :: _, h | _ :: _, [], h => by simp [tyEqs] at h
end
def leTb : List Ty → List Ty → Bool
  | [], [] => true
  | .no :: r, _ :: s => leTb r s
  | t :: r, u :: s => tyEq t u && leTb r s
  | _, _ => false
theorem leTb_ok : ∀ {a b : List Ty}, leTb a b = true → LeT a b
  | [], [], _ => trivial
  | [], _ :: _, h => by cases h
  | t :: r, [], h => by cases t <;> cases h
  | .no :: r, _ :: s, h => leTb_ok (a := r) (b := s) h
  | .sh :: r, u :: s, h => by
    have h' : tyEq .sh u = true ∧ leTb r s = true := by simpa [leTb] using h
    exact ⟨tyEq_ok h'.1, leTb_ok h'.2⟩
  | .oL t :: r, u :: s, h => by
    have h' : tyEq (.oL t) u = true ∧ leTb r s = true := by simpa [leTb] using h
    exact ⟨tyEq_ok h'.1, leTb_ok h'.2⟩
  | .oK t :: r, u :: s, h => by
    have h' : tyEq (.oK t) u = true ∧ leTb r s = true := by simpa [leTb] using h
    exact ⟨tyEq_ok h'.1, leTb_ok h'.2⟩
  | .oT t :: r, u :: s, h => by
    have h' : tyEq (.oT t) u = true ∧ leTb r s = true := by simpa [leTb] using h
    exact ⟨tyEq_ok h'.1, leTb_ok h'.2⟩
  | .oO c x t :: r, u :: s, h => by
    have h' : tyEq (.oO c x t) u = true ∧ leTb r s = true := by simpa [leTb] using h
    exact ⟨tyEq_ok h'.1, leTb_ok h'.2⟩
theorem SR.leT {K : PySem.W.Frag} {mg : Str → Option Value} {R : List Addr} : ∀ {τ τ' : List Ty} {ρ : Rho} {σ : L2.St} {H : Hp} {fs : List Addr}, SR K mg R τ ρ σ H fs → LeT τ' τ → ∃ fs', SR K mg R τ' ρ σ H fs' ∧ ∀ a ∈ fs', a ∈ fs := by
  intro τ τ' ρ σ H fs s l
  have main : ∀ {τ τ' : List Ty} {ρ : Rho} {σ : L2.St} {f : List Addr} {G : Hp}, Sl K mg H G τ ρ σ f → LeT τ' τ → ∃ f', f'.Sublist f ∧ ∀ {G' : Hp}, Le G G' → Sl K mg H G' τ' ρ σ f' := by
    intro τ τ' ρ σ f G s
    induction s generalizing τ' with
    | nil =>
      intro l
      cases τ' with
      | nil => exact ⟨[], .slnil, fun _ => .nil⟩
      | cons t r => cases t <;> exact l.elim
    | no _ ih =>
      intro l
      cases τ' with
      | nil => exact l.elim
      | cons t r =>
        cases t with
        | no =>
          obtain ⟨f', sb, k⟩ := ih l
          exact ⟨f', sb, fun le => .no (k le)⟩
        | _ => cases l.1
    | cons h _ ih =>
      intro l
      cases τ' with
      | nil => exact l.elim
      | cons t r =>
        cases t with
        | no =>
          obtain ⟨f', sb, k⟩ := ih l
          exact ⟨f', sb.trans (List.sublist_append_right _ _), fun le => .no (k le)⟩
        | _ =>
          obtain ⟨e, l⟩ := l
          subst e
          obtain ⟨f', sb, k⟩ := ih l
          exact ⟨_ ++ f', (List.Sublist.refl _).append sb, fun le => .cons (h.mono le fun _ _ => rfl) (k le)⟩
  obtain ⟨f', sb, k⟩ := main s.sl l
  refine ⟨f', ⟨k (hide_sub fun a ha => ?_), ((List.Sublist.refl R).append sb).nodup s.nd, s.al⟩, fun a ha => sb.subset ha⟩
  rcases List.mem_append.mp ha with z | z
  · exact List.mem_append_left _ z
  · exact List.mem_append_right _ (sb.subset z)
def sRet (f : Ef) : Sf := fun ρ => (f ρ).bind fun p => match p.1 with
  | .v d => some (.rt d p.2)
  | _ => none
def sRetO (f : Of) : Sf := fun ρ => (f ρ).bind fun p => some (.rt p.1 p.2)
theorem ds_ret {f : Ef} (h : DE X e τ f) (hr : γ.ret = .sh := by rfl) (hl : leTb γ.rty τ = true := by rfl) : DS X γ (.Return (some e) pos) τ (sRet f) τ' := ps_imp (ps_ret h) fun D σ H ⟨R, ρ, fs, o, s, e, q⟩ => by
  obtain ⟨p, e1, e2⟩ := bindO e
  obtain ⟨p1, p2⟩ := p
  cases p1 with
  | x i => cases e2
  | v d =>
    cases e2
    refine ⟨R, ρ, fs, _, _, s, e1, fun v H1 fs1 t1 s1 r => ?_⟩
    obtain ⟨fs2, s2, sub⟩ := s1.leT (leTb_ok hl)
    refine q v σ H1 fs2 [] (t1.less sub) (Kp.refl _ _) s2 ?_
    rw [hr]
    exact .sh (Rf.mono (hide_sub fun a ha => by
      simp only [List.nil_append, List.mem_append] at ha ⊢
      exact ha.imp id (sub a)) r)
theorem ds_retO {f : Of} {t : Ty} (h : DO X e τ f t) (hr : γ.ret = t := by rfl) (hl : leTb γ.rty τ = true := by rfl) : DS X γ (.Return (some e) pos) τ (sRetO f) τ' := ps_imp (ps_ret h) fun D σ H ⟨R, ρ, fs, o, s, e, q⟩ => by
  obtain ⟨p, e1, e2⟩ := bindO e
  cases e2
  refine ⟨R, ρ, fs, p.1, p.2, s, e1, fun v H1 fs1 fv t1 s1 r => ?_⟩
  obtain ⟨fs2, s2, sub⟩ := s1.leT (leTb_ok hl)
  refine q v σ H1 fs2 fv (t1.less fun a ha => (List.mem_append.mp ha).elim (fun z => by simp [z]) fun z => by simp [sub a z]) (Kp.refl _ _) s2 ?_
  rw [hr]
  exact r.mono (hide_sub fun a ha => by
    simp only [List.mem_append] at ha ⊢
    exact ha.imp id (sub a)) fun _ _ => rfl
/-- an owned slot is the result -/
def sRetX (i : Nat) : Sf := fun ρ => some (.rt (ρ.getD i .non) ρ)
theorem ds_retX (i : Nat) {t : Ty} (h : PE X e (tVar i)) (ht : τ[i]? = some t := by rfl) (hn : t ≠ .no := by intro z; cases z) (hr : γ.ret = t := by rfl) (hl : leTb γ.rty (τ.set i .no) = true := by rfl) : DS X γ (.Return (some e) pos) τ (sRetX i) τ' := ps_imp (ps_ret h) fun D σ H ⟨R, ρ, fs, o, s, e, q⟩ => by
  cases e
  obtain ⟨f1, fo, f2, ef, ho, hl2, h1, h2, h3⟩ := s.sl.split ht
  rcases ho with ⟨z, _⟩ | ⟨v, ev, r⟩
  · exact absurd z hn
  subst ef
  refine ⟨v, ev, ?_⟩
  have nd := s.nd
  have mem : ∀ a, a ∈ fo ++ R ++ (f1 ++ f2) → a ∈ R ++ (f1 ++ fo ++ f2) := fun a ha => by
    simp only [List.mem_append] at ha ⊢
    rcases ha with (h | h) | h | h <;> simp [h]
  have sK := h3 (H' := H) (G' := hide (fo ++ R ++ (f1 ++ f2)) H) (d' := ρ.getD i .non) (fun _ _ => rfl) (hide_sub mem)
  rw [set_getD] at sK
  have pm : (fo ++ R ++ (f1 ++ f2)).Perm (R ++ (f1 ++ fo ++ f2)) := by
    rw [List.append_assoc, List.append_assoc, ← List.append_assoc R f1, ← List.append_assoc R f1, ← List.append_assoc (R ++ f1) fo f2]
    refine (List.perm_append_comm (l₁ := fo) (l₂ := R ++ f1 ++ f2)).trans ?_
    rw [List.append_assoc (R ++ f1) f2 fo, List.append_assoc (R ++ f1) fo f2]
    exact List.Perm.append_left _ List.perm_append_comm
  have s' : SR X.K X.mg (fo ++ R) (τ.set i .no) ρ σ H (f1 ++ f2) := ⟨sK, pm.nodup_iff.mpr nd, fun a ha => s.own a (mem a (List.mem_append_left _ ha))⟩
  obtain ⟨fs2, s2, sub⟩ := s'.leT (leTb_ok hl)
  refine q v σ H fs2 fo ((Step.refl H _).less fun a ha => ?_) (Kp.refl _ _) s2 ?_
  · rcases List.mem_append.mp ha with z | z
    · simp [z]
    · have := sub a z
      simp only [List.mem_append] at this ⊢
      rcases this with h | h <;> simp [h]
  · rw [hr]
    exact r.mono (hide_sub fun a ha => mem a (by
      rcases List.mem_append.mp ha with z | z
      · exact List.mem_append_left _ z
      · exact List.mem_append_right _ (sub a z))) fun _ _ => rfl
def sRetN : Sf := fun ρ => some (.rt .non ρ)
theorem ds_retN (hr : γ.ret = .sh := by rfl) (hl : leTb γ.rty τ = true := by rfl) : DS X γ (.Return none pos) τ sRetN τ' := ps_imp ps_retN fun D σ H ⟨R, ρ, fs, o, s, e, q⟩ => by
  cases e
  obtain ⟨fs2, s2, sub⟩ := s.leT (leTb_ok hl)
  refine q .non σ H fs2 [] ((Step.refl H fs).less sub) (Kp.refl _ _) s2 ?_
  rw [hr]
  exact .sh .non
/-! an expression whose value is dropped -/
def sDrop (f : Ef) : Sf := fun ρ => (f ρ).bind fun p => some (.nx p.2)
theorem ds_drop {f : Ef} (h : DE X e τ f) (hs : swapsWith e none pos.line X.env = pure false := by rfl) : DS X γ (.Expr e pos) τ (sDrop f) τ := ps_imp (ps_expr h hs) fun D σ H ⟨R, ρ, fs, o, s, e, q⟩ => by
  obtain ⟨p, e1, e2⟩ := bindO e
  cases e2
  exact ⟨R, ρ, fs, p.1, p.2, s, e1, fun v H1 fs1 t1 s1 r => q σ H1 fs1 t1 (Kp.refl _ _) s1⟩
/-! if -/
def sIf (t : Tf) (f g : Sf) : Sf := fun ρ => (t ρ).bind fun p => if p.1 then f p.2 else g p.2
theorem ds_if {t : Tf} {f g : Sf} {sa sb : List Stmt} (hc : DT X c τ t) (ha : DSs X γ sa τ f τ') (hb : DSs X γ sb τ g τ') : DS X γ (.If c sa sb pos) τ (sIf t f g) τ' := ps_imp (ps_if hc ha hb) fun D σ H ⟨R, ρ, fs, o, s, e, q⟩ => by
  obtain ⟨p, e1, e2⟩ := bindO e
  refine ⟨R, ρ, fs, p.1, p.2, s, e1, fun H1 fs1 t1 s1 => ?_⟩
  have q1 : Post X γ D R σ H1 fs1 τ' o := q.mono t1 (Kp.refl _ _) (fun ρ' σ' H' fs' eo t' k' s' => by subst eo; exact q σ' H' fs' t' k' s') rfl rfl rfl
  cases hp : p.1 with
  | true => rw [hp] at e2; exact iteT ⟨R, p.2, fs1, o, s1, e2, q1⟩
  | false => rw [hp] at e2; exact iteF ⟨R, p.2, fs1, o, s1, e2, q1⟩

/-! ### targets -/
abbrev Gf := D → Rho → Option Rho
def tG (X : Cx) (io : List Nat) (τ : List Ty) (g : Gf) (τ' : List Ty) : TG := fun v σ H Q => ∃ R ρ fs d ρ', SR X.K X.mg R τ ρ σ H fs ∧ Rf X.K X.mg (hide (R ++ fs) H) d v ∧ g d ρ = some ρ' ∧
  ∀ σ' fs', (∀ a ∈ fs', a ∈ fs) → Kp io σ σ' → SR X.K X.mg R τ' ρ' σ' H fs' → Q σ' H
abbrev DG (X : Cx) (io : List Nat) (target : Expr) (τ : List Ty) (g : Gf) (τ' : List Ty) : Prop := PG X target (tG X io τ g τ')
theorem pg_imp {X : Cx} {e : Expr} {t t' : TG} (h : PG X e t) (k : ∀ v σ H Q, t' v σ H Q → t v σ H Q) : PG X e t' := ⟨fun pins s σ H v u Q I r q => h.run pins s σ H v u Q I r (k v σ H Q q)⟩
def gNm (i : Nat) : Gf := fun d ρ => some (ρ.set i d)
theorem dg_name {io : List Nat} (i : Nat) {x : Str} (hN : X.N.Nodup) (hi : X.N[i]? = some x) (hx : Loc X.env.scope x) (ht : i < τ.length := by decide) (hio : i ∉ io := by decide) (hf : X.fn x = true ∨ X.env.scope.names.lookup x = some .local := by first | exact .inl rfl | exact .inr rfl | assumption) : DG X io (.Name x pos) τ (gNm i) (τ.set i .sh) := pg_imp (pg_name hN hi hx hf) fun v σ H Q ⟨R, ρ, fs, d, ρ', s, r, e, q⟩ => by
  cases e
  obtain ⟨fs', s', sub⟩ := SR.put (fv := []) (t := .sh) (d := d) (v := v) (i := i) s ht (.sh r)
  refine q _ fs' (fun a ha => by simpa using sub a ha) (fun j hj => ?_) s'
  exact List.getElem?_set_ne (i := i) (j := j) (fun z => hio (by rw [z]; exact hj))
def tGs (X : Cx) (io : List Nat) (τ : List Ty) (g : List D → Rho → Option Rho) (τ' : List Ty) : TGs := fun vs σ H Q => ∃ R ρ fs ds ρ', SR X.K X.mg R τ ρ σ H fs ∧ Rfs X.K X.mg (hide (R ++ fs) H) ds vs ∧ g ds ρ = some ρ' ∧
  ∀ σ' fs', (∀ a ∈ fs', a ∈ fs) → Kp io σ σ' → SR X.K X.mg R τ' ρ' σ' H fs' → Q σ' H
abbrev DGs (X : Cx) (io : List Nat) (ts : List Expr) (τ : List Ty) (g : List D → Rho → Option Rho) (τ' : List Ty) : Prop := PGs X ts (tGs X io τ g τ')
theorem pgs_imp {X : Cx} {e : List Expr} {t t' : TGs} (h : PGs X e t) (k : ∀ v σ H Q, t' v σ H Q → t v σ H Q) : PGs X e t' := ⟨fun pins s σ H v u Q I r q => h.run pins s σ H v u Q I r (k v σ H Q q)⟩
def gsNil : List D → Rho → Option Rho := fun ds ρ => match ds with
  | [] => some ρ
  | _ => none
def gsCons (g : Gf) (h : List D → Rho → Option Rho) : List D → Rho → Option Rho := fun ds ρ => match ds with
  | d :: r => (g d ρ).bind fun ρ' => h r ρ'
  | [] => none
theorem dgs_nil {io : List Nat} : DGs X io [] τ gsNil τ := pgs_imp pgs_nil fun v σ H Q ⟨R, ρ, fs, ds, ρ', s, r, e, q⟩ => by
  cases r with
  | nil => cases e; exact ⟨rfl, q σ fs (fun _ h => h) (Kp.refl _ _) s⟩
  | cons _ _ => cases e
theorem dgs_cons {io : List Nat} {g : Gf} {h : List D → Rho → Option Rho} (h1 : DG X io e τ g τ1) (h2 : DGs X io es τ1 h τ') (hs : (assignEach (e :: es) X.env).map (·.2) = assign e X.env :: (assignEach es X.env).map (·.2) := by rfl) : DGs X io (e :: es) τ (gsCons g h) τ' := pgs_imp (pgs_cons h1 h2 hs) fun v σ H Q ⟨R, ρ, fs, ds, ρ', s, r, e, q⟩ => by
  cases r with
  | nil => cases e
  | cons r rs =>
    obtain ⟨ρ1, e1, e2⟩ := bindO e
    refine ⟨_, _, rfl, R, ρ, fs, _, ρ1, s, r, e1, fun σ1 fs1 sub1 k1 s1 => ⟨R, ρ1, fs1, _, ρ', s1, rs.mono (hide_sub fun a ha => ?_), e2, fun σ2 fs2 sub2 k2 s2 => q σ2 fs2 (fun a ha => sub1 a (sub2 a ha)) (k1.trans k2) s2⟩⟩
    rcases List.mem_append.mp ha with z | z
    · exact List.mem_append_left _ z
    · exact List.mem_append_right _ (sub1 a z)
def gTp (g : List D → Rho → Option Rho) : Gf := fun d ρ => match d with
  | .tup ds => g ds ρ
  | _ => none
theorem gs_len {n : Nat} {io : List Nat} {g : List D → Rho → Option Rho} (hn : ∀ ds ρ ρ', g ds ρ = some ρ' → ds.length = n) {ds : List D} {ρ ρ' : Rho} (e : g ds ρ = some ρ') : ds.length = n := hn ds ρ ρ' e
theorem gsNil_len : ∀ ds ρ ρ', gsNil ds ρ = some ρ' → ds.length = 0 := fun ds ρ ρ' e => by
  cases ds with
  | nil => rfl
  | cons _ _ => cases e
theorem gsCons_len {g : Gf} {h : List D → Rho → Option Rho} {n : Nat} (k : ∀ ds ρ ρ', h ds ρ = some ρ' → ds.length = n) : ∀ ds ρ ρ', gsCons g h ds ρ = some ρ' → ds.length = n + 1 := fun ds ρ ρ' e => by
  cases ds with
  | nil => cases e
  | cons d r =>
    obtain ⟨ρ1, _, e2⟩ := bindO e
    simp [k _ _ _ e2]
theorem dg_tup {io : List Nat} {g : List D → Rho → Option Rho} {kk : Nat} {n : Nat} (hc : X.calm = true) (h : DGs X io es τ g τ') (hl : ∀ ds ρ ρ', g ds ρ = some ρ' → ds.length = n)
    (hn : (assignEach es X.env).length = n := by rfl) (hst : (assignEach es X.env).findIdx? (·.1) = none := by rfl) : DG X io (.Tuple es kk pos) τ (gTp g) τ' := pg_imp (pg_tup hc h hn hst) fun v σ H Q ⟨R, ρ, fs, d, ρ', s, r, e, q⟩ => by
  cases d with
  | tup ds =>
    cases r with
    | tup hT r => exact ⟨_, _, rfl, (hide_le _ _).seqT hT.t, by rw [← r.length]; exact hl _ _ _ e, R, ρ, fs, ds, ρ', s, r, e, q⟩
  | _ => cases e
/-! ### assignments -/
def sAsg (f : Ef) (g : Gf) : Sf := fun ρ => (f ρ).bind fun p => match p.1 with
  | .v d => (g d p.2).bind fun ρ' => some (.nx ρ')
  | _ => none
theorem sAsg_inv {f : Ef} {g : Gf} {ρ : Rho} {o : Out} (e : sAsg f g ρ = some o) : ∃ d ρ1 ρ', f ρ = some (.v d, ρ1) ∧ g d ρ1 = some ρ' ∧ o = .nx ρ' := by
  obtain ⟨p, e1, e2⟩ := bindO e
  obtain ⟨p1, p2⟩ := p
  cases p1 with
  | x i => cases e2
  | v d =>
    obtain ⟨ρ', e3, e4⟩ := bindO e2
    cases e4
    exact ⟨d, p2, ρ', e1, e3, rfl⟩
theorem tAsg_of {f : Ef} {g : Gf} : ∀ D σ H, tS X γ τ (sAsg f g) τ' D σ H → tAsg (tD X τ f) (tG X γ.io τ g τ') D σ H := fun D σ H ⟨R, ρ, fs, o, s, e, q⟩ => by
  obtain ⟨d, ρ1, ρ', e1, e2, rfl⟩ := sAsg_inv e
  exact ⟨R, ρ, fs, _, _, s, e1, fun v H1 fs1 t1 s1 r => ⟨R, ρ1, fs1, d, ρ', s1, r, e2, fun σ' fs' sub k s' => q σ' H1 fs' (t1.less sub) k s'⟩⟩
theorem ds_asg {f : Ef} {g : Gf} {tg : Expr} (he : DE X e τ f) (hg : DG X γ.io tg τ g τ') (hs : swapsWithSole [tg] e pos.line X.env = pure false := by rfl) (hw : swappedStores [tg] e X.env = pure none := by rfl)
    (h1 : (assignEach [tg] X.env).map (·.2) = [assign tg X.env] := by rfl) : DS X γ (.Assign [tg] e pos) τ (sAsg f g) τ' := ps_imp (ps_asg he hg hs hw h1) tAsg_of
theorem ds_set {f : Ef} {x : Str} {pos' : Pos} (i : Nat) (hN : X.N.Nodup) (hi : X.N[i]? = some x) (hx : Loc X.env.scope x) (he : DE X e τ f) (hs : swapsWith e (some (.Name x pos')) pos.line X.env = pure false := by rfl) (ht : i < τ.length := by decide) (hio : i ∉ γ.io := by decide) (hf : X.fn x = true ∨ X.env.scope.names.lookup x = some .local := by first | exact .inl rfl | exact .inr rfl | assumption) :
    DS X γ (.Assign [.Name x pos'] e pos) τ (sAsg f (gNm i)) (τ.set i .sh) := ps_imp (ps_set hN hi hx he hs hf) fun D σ H ⟨R, ρ, fs, o, s, e, q⟩ => by
  obtain ⟨d, ρ1, ρ', e1, e2, rfl⟩ := sAsg_inv e
  cases e2
  refine ⟨R, ρ, fs, _, _, s, e1, fun v H1 fs1 t1 s1 r => ?_⟩
  obtain ⟨fs', s', sub⟩ := SR.put (fv := []) (t := .sh) (d := d) (v := v) (i := i) s1 ht (.sh r)
  exact q _ H1 fs' (t1.less fun a ha => by simpa using sub a ha) (fun j hj => List.getElem?_set_ne (i := i) (j := j) (fun z => hio (by rw [z]; exact hj))) s'
/-! an owned value into a slot -/
def sSetO (i : Nat) (f : Of) : Sf := fun ρ => (f ρ).bind fun p => some (.nx (p.2.set i p.1))
theorem setO_of {f : Of} {t : Ty} (i : Nat) (ht : i < τ.length) (hio : i ∉ γ.io) : ∀ D σ H, tS X γ τ (sSetO i f) (τ.set i t) D σ H → tAsg (tO X τ f t) (gName i) D σ H := fun D σ H ⟨R, ρ, fs, o, s, e, q⟩ => by
  obtain ⟨p, e1, e2⟩ := bindO e
  cases e2
  refine ⟨R, ρ, fs, p.1, p.2, s, e1, fun v H1 fs1 fv t1 s1 r => ?_⟩
  obtain ⟨fs', s', sub⟩ := SR.put s1 ht r
  exact q _ H1 fs' (t1.less sub) (fun j hj => List.getElem?_set_ne (i := i) (j := j) (fun z => hio (by rw [z]; exact hj))) s'
theorem ds_setO {f : Of} {t : Ty} {x : Str} {pos' : Pos} (i : Nat) (hN : X.N.Nodup) (hi : X.N[i]? = some x) (hx : Loc X.env.scope x) (he : DO X e τ f t) (hs : swapsWith e (some (.Name x pos')) pos.line X.env = pure false := by rfl) (ht : i < τ.length := by decide) (hio : i ∉ γ.io := by decide) (hf : X.fn x = true ∨ X.env.scope.names.lookup x = some .local := by first | exact .inl rfl | exact .inr rfl | assumption) :
    DS X γ (.Assign [.Name x pos'] e pos) τ (sSetO i f) (τ.set i t) := ps_imp (ps_set hN hi hx he hs hf) (setO_of i ht hio)
/-! ### a list grows, an item is stored -/
def sApp (i : Nat) (f : Ef) : Sf := fun ρ => (f ρ).bind fun p => match p.1, p.2.getD i .non with
  | .v d, .lst l => if okLen (l.length + 1) then some (.nx (p.2.set i (.lst (l ++ [d])))) else none
  | _, _ => none
theorem SR.write {K : PySem.W.Frag} {mg : Str → Option Value} {R : List Addr} {ρ : Rho} {σ : L2.St} {H : Hp} {fs : List Addr} {i : Nat} {v : V} (s : SR K mg R τ ρ σ H fs) {t : Ty} (ht : τ[i]? = some t) {a0 : Addr} {f : List Addr} (ev : σ[i]? = some (some v)) {d : D} {f1 fo f2 : List Addr} (ef : fs = f1 ++ (a0 :: fo) ++ f2)
    {o : HO} {d' : D} (w : Own o) (h2 : ∀ {H' G' : Hp} {t' : Ty} {d' : D} {v' : V} {f' : List Addr}, (∀ a ∈ f1 ++ f2, H' a = H a) → Le (hide (R ++ fs) H) G' → σ[i]? = some (some v') → Rp K mg H' G' t' d' v' f' → Sl K mg H' G' (τ.set i t') (ρ.set i d') σ (f1 ++ f' ++ f2))
    (rp : Rp K mg (upd H a0 o) (hide (R ++ fs) (upd H a0 o)) t d' v (a0 :: fo)) : SR K mg R τ (ρ.set i d') σ (upd H a0 o) fs ∧ Step H (upd H a0 o) fs fs := by
  have nd := s.nd
  have ia : a0 ∈ fs := by rw [ef]; simp
  have nf : ∀ a ∈ f1 ++ f2, a ≠ a0 := fun a ha z => by
    subst z
    rw [ef] at nd
    simp only [List.nodup_append, List.mem_append, List.mem_cons] at nd
    rcases List.mem_append.mp ha with h | h
    · exact nd.2.1.1.2.2 a h a (.inl rfl) rfl
    · exact nd.2.1.2.2 a (.inr (.inl rfl)) a h rfl
  have nR : ∀ a ∈ R, a ≠ a0 := fun a ha z => by
    subst z
    exact (List.nodup_append.mp nd).2.2 a ha a ia rfl
  have le : Le (hide (R ++ fs) H) (hide (R ++ fs) (upd H a0 o)) := hide_mono fun a u n e => ⟨n, by
    rw [upd_ne fun z => n (by rw [z]; exact List.mem_append_right _ ia)]; exact e⟩
  have q := h2 (fun a ha => upd_ne (nf a ha)) le ev rp
  rw [set_at ht, ← ef] at q
  refine ⟨⟨q, nd, fun a ha => ?_⟩, ⟨fun a u n e => ?_, fun a ha => .inl ha, fun a u e => ?_⟩⟩
  · obtain ⟨u, e, w⟩ := s.al a ha
    exact ⟨u, by rw [upd_ne (nR a ha)]; exact e, w⟩
  · rw [upd_ne fun z => n (by rw [z]; exact ia)]; exact e
  · by_cases z : a = a0
    · exact ⟨o, by rw [z, upd_same]⟩
    · exact ⟨u, by rw [upd_ne z]; exact e⟩
theorem ds_app {f : Ef} {o : Expr} {apos cpos : Pos} (i : Nat) (ho : PE X o (tVar i)) (he : DE X e τ f) (ht : τ[i]? = some (.oL .sh) := by rfl) (hbase : attributeBase o "append" X.env (eval o X.env) = eval o X.env := by rfl)
    (hfew : ((backTo cpos (starEach [e] X.env)).all (fun x => !x.1) && (backToKw cpos (keywordEach [] X.env)).all (fun x => x.1.isSome)
      && decide ([e].length + ([] : List Keyword).length + (if ([] : List Keyword).isEmpty then 0 else 1) < 30)) = true := by rfl)
    (hline : (apos.endLine == cpos.line) = true := by rfl) (hs : starEach [e] X.env = (false, eval e X.env) :: starEach [] X.env := by rfl) :
    DS X γ (.Expr (.Call (.Attribute o "append" apos) [e] [] cpos) pos) τ (sApp i f) τ :=
  ps_imp (ps_expr (pe_bm PySem.F.plainAttrs_list PySem.F.slot_list_append PySem.F.type_list_append mt_append ho (pa_cons he pa_nil hs) hbase hfew hline hs rfl) rfl) fun D σ H ⟨R, ρ, fs, out, s, e, q⟩ => by
    obtain ⟨p, e1, e2⟩ := bindO e
    obtain ⟨p1, p2⟩ := p
    cases p1 with
    | x i => cases e2
    | v d =>
      obtain ⟨v0, f0, ev0, r0, _⟩ := s.get ht (by intro z; cases z)
      refine ⟨v0, ev0, ?_, R, ρ, fs, _, _, s, e1, fun v H1 fs1 t1 s1 r => ?_⟩
      · generalize ρ.getD i .non = d0 at r0
        cases r0 with
        | oL h _ => exact .inl ⟨rfl, _, .of h⟩
      · obtain ⟨f1, fo, f2, ef, hos, hl, _, h2, _⟩ := s1.sl.split ht
        rcases hos with ⟨z, _⟩ | ⟨v1, ev1, r1⟩
        · cases z
        rw [ev0] at ev1; cases ev1
        have e3 : (match p2.getD i .non with | .lst l => if okLen (l.length + 1) then some (Out.nx (p2.set i (.lst (l ++ [d])))) else none | _ => none) = some out := by
          revert e2
          cases p2.getD i .non <;> exact id
        clear e2
        revert r1 e3
        generalize p2.getD i .non = d0
        intro r1 e3
        cases r1 with
        | @oL t a vs ds g h rs =>
          obtain ⟨e4, e5⟩ := ifSome' e3
          cases e5
          obtain ⟨rf, eg⟩ := rs.to_sh
          subst eg
          have hl : vs.length < sizeLine := by
            rw [← rf.length]
            have := okLen_le e4
            omega
          refine ⟨a, vs, v, rfl, rfl, h, hl, ?_⟩
          have le : Le (hide (R ++ fs1) H1) (hide (R ++ fs1) (upd H1 a (.lst (vs ++ [v])))) := hide_mono fun b u n e => ⟨n, by
            rw [upd_ne fun z => n (by rw [z, ef]; simp)]; exact e⟩
          obtain ⟨sn, tn⟩ := s1.write ht (f := []) ev0 (d := d) ef (o := .lst (vs ++ [v])) (d' := .lst (ds ++ [d])) trivial h2 (.oL upd_same (Rps.of_sh ((rf.append (.one r)).mono le)))
          exact q σ _ fs1 (t1.trans tn) (Kp.refl _ _) sn
end
end TL

namespace TL
open PySem PySem.Spec PyProof.Rows L2

/-! ### walks -/
abbrev Itf := Rho → Option (List D × Rho)
def Walks (K : PySem.W.Frag) (mg : Str → Option Value) (J : It) (ds : List D) (G : Hp) : Prop := ∀ (i : Nat) (S : List Addr) (H : Hp), (∀ a ∈ S, ∃ o, H a = some o ∧ Own o) → Le G (hide S H) →
  (∀ d, ds[i]? = some d → J.go i H ∧ ∀ x H', J.yld i H x H' → Grow H H' ∧ Rf K mg (hide S H') d x) ∧ (ds.length ≤ i → J.stop i H)
def tI (X : Cx) (τ : List Ty) (it : Itf) : TI := fun σ H Q => ∃ R ρ fs ds ρ', SR X.K X.mg R τ ρ σ H fs ∧ it ρ = some (ds, ρ') ∧
  ∀ J H' fs', Step H H' fs fs' → SR X.K X.mg R τ ρ' σ H' fs' → Walks X.K X.mg J ds (hide (R ++ fs') H') → Q J H'
abbrev DI (X : Cx) (tg iter : Expr) (τ : List Ty) (it : Itf) : Prop := PI X tg iter (tI X τ it)
theorem pi_imp {X : Cx} {tg e : Expr} {t t' : TI} (h : PI X tg e t) (k : ∀ σ H Q, t' σ H Q → t σ H Q) : PI X tg e t' := ⟨fun pins s σ H R I q => h.run pins s σ H R I (k σ H R q)⟩
theorem pi_or {X : Cx} {tg e : Expr} {t t' : TI} (h : PI X tg e t) (h' : PI X tg e t') : PI X tg e (fun σ H Q => t σ H Q ∨ t' σ H Q) := ⟨fun pins s σ H R I q => q.elim (h.run pins s σ H R I) (h'.run pins s σ H R I)⟩
theorem walks_list {K : PySem.W.Frag} {mg : Str → Option Value} {G : Hp} {a : Addr} {vs : List V} {ds : List D} (h : G a = some (.lst vs)) (r : Rfs K mg G ds vs) : Walks K mg (Itl K a) ds G := fun i S H al le => by
  have hH : H a = some (.lst vs) := hide_le _ _ _ _ (le _ _ h)
  refine ⟨fun d e => ?_, fun e => ⟨vs, .of hH, by rw [← r.length]; exact e⟩⟩
  obtain ⟨v, ev, rv⟩ := r.get e
  refine ⟨⟨vs, v, .of hH, ev⟩, fun x H' ⟨e1, e2⟩ => ?_⟩
  subst e1
  have := e2 vs (.of hH)
  rw [ev] at this; cases this
  exact ⟨Grow.refl _, rv.mono le⟩
theorem walks_tup {K : PySem.W.Frag} {mg : Str → Option Value} {G : Hp} {a : Addr} {vs : List V} {ds : List D} (h : SqT K G a vs) (r : Rfs K mg G ds vs) : Walks K mg (Itt K a) ds G := fun i S H al le => by
  have hH : SqT K H a vs := (hide_le S H).seqT (le.seqT h)
  refine ⟨fun d e => ?_, fun e => ⟨vs, hH, by rw [← r.length]; exact e⟩⟩
  obtain ⟨v, ev, rv⟩ := r.get e
  refine ⟨⟨vs, v, hH, ev⟩, fun x H' ⟨e1, e2⟩ => ?_⟩
  subst e1
  have := e2 vs hH
  rw [ev] at this; cases this
  exact ⟨Grow.refl _, rv.mono le⟩
def seqD : Hd → Option (List D)
  | .v (.lst l) => some l
  | .v (.tup l) => some l
  | _ => none
def iSeq (f : Ef) : Itf := fun ρ => (f ρ).bind fun p => (seqD p.1).bind fun l => some (l, p.2)
section
variable {X : Cx} {γ : Gm} {τ τ1 τ' : List Ty} {tg a b c e : Expr} {es : List Expr} {pos p : Pos}
theorem di_seq {f : Ef} (h : DE X e τ f) : DI X tg e τ (iSeq f) := pi_imp (pi_or (pi_list h) (pi_tup h)) fun σ H Q ⟨R, ρ, fs, ds, ρ', s, e, q⟩ => by
  obtain ⟨p, e1, e2⟩ := bindO e
  obtain ⟨l, e3, e4⟩ := bindO e2
  cases e4
  obtain ⟨p1, p2⟩ := p
  cases p1 with
  | x i => cases e3
  | v d =>
    cases d with
    | lst l =>
      cases e3
      refine .inl ⟨R, ρ, fs, _, _, s, e1, fun v H' fs' t s' r => ?_⟩
      cases r with
      | lst h r => exact ⟨_, rfl, ⟨_, .of (hide_le _ _ _ _ h)⟩, q _ H' fs' t s' (walks_list h r)⟩
    | tup l =>
      cases e3
      refine .inr ⟨R, ρ, fs, _, _, s, e1, fun v H' fs' t s' r => ?_⟩
      cases r with
      | tup h r => exact ⟨_, rfl, ⟨_, (hide_le _ _).seqT h.t⟩, q _ H' fs' t s' (walks_tup h.t r)⟩
    | _ => cases e3
def intsD (lo : Int) (n : Nat) : List D := (List.range n).map fun i => D.int (lo + (i : Nat))
def small62 (i : Int) : Bool := Nat.ble i.natAbs 4611686018427387903
theorem walks_range {K : PySem.W.Frag} {mg : Str → Option Value} {G : Hp} (lo : Int) (n : Nat) : Walks K mg (Itr lo n) (intsD lo n) G := fun i S H al le => by
  refine ⟨fun d e => ?_, fun e => show n ≤ i by simpa [intsD] using e⟩
  unfold intsD at e
  rw [List.getElem?_map] at e
  by_cases hi : i < n
  · rw [List.getElem?_range hi] at e
    cases e
    refine ⟨hi, fun x H' ⟨e1, e2⟩ => ?_⟩
    subst e1; subst e2
    exact ⟨Grow.refl _, .int _⟩
  · rw [List.getElem?_eq_none (by simpa using hi)] at e
    cases e
def iRng1 (f : Af) : Itf := fun ρ => (f ρ).bind fun p => match p.1 with
  | [.v (.int j)] => if small62 j then some (intsD 0 j.toNat, p.2) else none
  | _ => none
def iRng2 (f : Af) : Itf := fun ρ => (f ρ).bind fun p => match p.1 with
  | [.v (.int i), .v (.int j)] => if small62 i && small62 j then some (intsD i (j - i).toNat, p.2) else none
  | _ => none
theorem small62_of {i : Int} (h : small62 i = true) : -(2 ^ 62) ≤ i ∧ i < 2 ^ 62 := by
  have h1 : i.natAbs ≤ 4611686018427387903 := Nat.le_of_ble_eq_true h
  have e : (2 : Int) ^ 62 = 4611686018427387904 := by decide
  rw [e]
  omega
theorem di_range1 {f : Af} (hg : Gl X "range") (hm : X.mg "range" = none) (ha : DA X [a] τ f) (hs : starEach [a] X.env = [(false, eval a X.env)] := by rfl) : DI X tg (.Call (.Name "range" p) [a] [] pos) τ (TL.iRng1 f) := pi_imp (pi_range1 hg hm ha hs) fun σ H Q ⟨R, ρ, fs, ds, ρ', s, e, q⟩ => by
  obtain ⟨w, e1, e2⟩ := bindO e
  obtain ⟨w1, w2⟩ := w
  simp only at e2
  split at e2
  · obtain ⟨e3, e4⟩ := ifSome' e2
    cases e4
    refine ⟨R, ρ, fs, _, _, s, e1, fun vs H' fs' t s' r => ?_⟩
    cases r with
    | cons r rs =>
      cases r
      cases rs
      exact ⟨_, rfl, (small62_of e3).1, (small62_of e3).2, q _ H' fs' t s' (walks_range 0 _)⟩
  · cases e2
theorem di_range2 {f : Af} (hg : Gl X "range") (hm : X.mg "range" = none) (ha : DA X [a, b] τ f) (hs : starEach [a, b] X.env = [(false, eval a X.env), (false, eval b X.env)] := by rfl) (hs2 : starEach [b] X.env = [(false, eval b X.env)] := by rfl) : DI X tg (.Call (.Name "range" p) [a, b] [] pos) τ (TL.iRng2 f) := pi_imp (pi_range2 hg hm ha hs hs2) fun σ H Q ⟨R, ρ, fs, ds, ρ', s, e, q⟩ => by
  obtain ⟨w, e1, e2⟩ := bindO e
  obtain ⟨w1, w2⟩ := w
  simp only at e2
  split at e2
  · obtain ⟨e3, e4⟩ := ifSome' e2
    cases e4
    rw [Bool.and_eq_true] at e3
    refine ⟨R, ρ, fs, _, _, s, e1, fun vs H' fs' t s' r => ?_⟩
    cases r with
    | cons r rs =>
      cases r
      cases rs with
      | cons r rs =>
        cases r
        cases rs
        exact ⟨_, _, rfl, ⟨(small62_of e3.1).1, (small62_of e3.1).2, (small62_of e3.2).1, (small62_of e3.2).2⟩, q _ H' fs' t s' (walks_range _ _)⟩
  · cases e2

/-! ### for -/
def loopF (b : D → Rho → Option Out) (ks : List Nat) : List D → Rho → Option Out
  | [], ρ => some (.nx ρ)
  | d :: ds, ρ => (b d ρ).bind fun o => match o with
    | .nx ρ' => loopF b ks ds (kill ks ρ')
    | .ct ρ' => loopF b ks ds (kill ks ρ')
    | .bk ρ' => some (.nx (kill ks ρ'))
    | .rt d ρ' => some (.rt d ρ')
def sFor (ks : List Nat) (it : Itf) (g : Gf) (b : Sf) : Sf := fun ρ => (it ρ).bind fun p => loopF (fun d ρ => (g d ρ).bind b) ks p.1 (kill ks p.2)
theorem drop_get {α : Type} {l : List α} {i : Nat} {a : α} (h : l[i]? = some a) : l.drop i = a :: l.drop (i + 1) := by
  obtain ⟨hi, e⟩ := List.getElem?_eq_some_iff.mp h
  rw [List.drop_eq_getElem_cons hi, e]
theorem ds_for {it : Itf} {g : Gf} {bf : Sf} {iter : Expr} {body : List Stmt} {τg τb tbk tct : List Ty} (ks : List Nat) (hp : PassesOwn (model X.prog X.w) X.A X.env X.xe) (hc : X.calm = true) (hi : DI X tg iter τ it)
    (hg : DG X γ.io tg (killT ks τ) g τg) (hb : DSs X { γ with bk := tbk, ct := tct } body τg bf τb) (h1 : killT ks τb = killT ks τ := by rfl) (h2 : killT ks tbk = killT ks τ := by rfl) (h3 : killT ks tct = killT ks τ := by rfl)
    (hs : ∀ x, foldedSetIterable iter X.env x = pure x := by intro _; rfl) : DS X γ (.For tg iter body [] pos) τ (sFor ks it g bf) (killT ks τ) := ps_imp (ps_for hp hc hi hg hb hs) fun D σ0 H0 ⟨R, ρ0, fs0, out, s0, e, q⟩ => by
  obtain ⟨w, e1, e2⟩ := bindO e
  refine ⟨R, ρ0, fs0, w.1, w.2, s0, e1, fun J H1 fs1' t1' s1' wk => ?_⟩
  obtain ⟨fs1, s1, sub1⟩ := s1'.killS ks
  have t1 := t1'.less sub1
  have wk1 : Walks X.K X.mg J w.1 (hide (R ++ fs1') H1) := wk
  have q1 : Post X γ D R σ0 H1 fs1 (killT ks τ) out := q.mono t1 (Kp.refl _ _) (fun ρ' σ' H' fs' eo t' k' s' => by subst eo; exact q σ' H' fs' t' k' s') rfl rfl rfl
  refine ⟨fun i m σ H => ∃ ρ fs, Step H1 H fs1 fs ∧ Kp γ.io σ0 σ ∧ SR X.K X.mg R (killT ks τ) ρ σ H fs ∧ Le (hide (R ++ fs1') H1) (hide (R ++ fs) H) ∧ loopF (fun d ρ => (g d ρ).bind bf) ks (w.1.drop i) ρ = some out ∧ m + i = w.1.length,
    ⟨w.1.length, _, fs1, Step.refl _ _, Kp.refl _ _, s1, hide_sub (fun a ha => ?_), by simpa using e2, by omega⟩, fun i m σ H ⟨ρ, fs, t, k, s, le, el, em⟩ => ?_⟩
  · rcases List.mem_append.mp ha with z | z
    · exact List.mem_append_left _ z
    · exact List.mem_append_right _ (sub1 a z)
  · obtain ⟨wgo, wst⟩ := wk1 i (R ++ fs) H s.own le
    by_cases hi : i < w.1.length
    · have ed := List.getElem?_eq_getElem hi
      generalize w.1[i] = d at ed
      rw [drop_get ed] at el
      obtain ⟨o, eb, eo⟩ := bindO (show ((g d ρ).bind bf).bind _ = some out from el)
      obtain ⟨ρ1, eg, eb⟩ := bindO eb
      obtain ⟨go, yl⟩ := wgo d ed
      refine .inr ⟨go, fun σ' H' => ∃ ρ' fs', Step H1 H' fs1 fs' ∧ Kp γ.io σ0 σ' ∧ SR X.K X.mg R (killT ks τ) ρ' σ' H' fs' ∧ Le (hide (R ++ fs1') H1) (hide (R ++ fs') H') ∧ loopF (fun d ρ => (g d ρ).bind bf) ks (w.1.drop (i + 1)) ρ' = some out,
        fun σ' H' ⟨ρ', fs', a1, a2, a3, a4, a5⟩ => ⟨m - 1, by omega, ρ', fs', a1, a2, a3, a4, a5, by omega⟩, fun x H' hy => ?_⟩
      obtain ⟨gr, rf⟩ := yl x H' hy
      refine ⟨R, ρ, fs, d, ρ1, s.grow gr, rf, eg, fun σ2 fs2 sub2 k2 s2 => ?_⟩
      have t2 : Step H H' fs fs2 := (Step.grow gr fs).less sub2
      have le2 : Le (hide (R ++ fs1') H1) (hide (R ++ fs2) H') := le.trans (s.le t2)
      refine ⟨R, ρ1, fs2, o, s2, eb, ?_⟩
      have fin : ∀ {τx : List Ty} {ρ' : Rho} {σ' : L2.St} {H'' : Hp} {fs' : List Addr}, killT ks τx = killT ks τ → Step H' H'' fs2 fs' → Kp γ.io σ2 σ' → SR X.K X.mg R τx ρ' σ' H'' fs' →
          ∃ fs'', Step H1 H'' fs1 fs'' ∧ Kp γ.io σ0 σ' ∧ SR X.K X.mg R (killT ks τ) (kill ks ρ') σ' H'' fs'' ∧ Le (hide (R ++ fs1') H1) (hide (R ++ fs'') H'') := fun hx t3 k3 s3 => by
        obtain ⟨fs4, s4, sub4⟩ := s3.killS ks
        rw [hx] at s4
        exact ⟨fs4, (t.trans t2).trans (t3.less sub4), (k.trans k2).trans k3, s4, le2.trans (s2.le (t3.less sub4))⟩
      cases o with
      | nx ρ2 =>
        exact fun σ' H'' fs' t3 k3 s3 => by
          obtain ⟨fs4, a1, a2, a3, a4⟩ := fin h1 t3 k3 s3
          exact ⟨_, fs4, a1, a2, a3, a4, eo⟩
      | ct ρ2 =>
        exact fun σ' H'' fs' t3 k3 s3 => by
          obtain ⟨fs4, a1, a2, a3, a4⟩ := fin h3 t3 k3 s3
          exact ⟨_, fs4, a1, a2, a3, a4, eo⟩
      | bk ρ2 =>
        cases eo
        exact fun σ' H'' fs' t3 k3 s3 => by
          obtain ⟨fs4, a1, a2, a3, a4⟩ := fin h2 t3 k3 s3
          exact q1 σ' H'' fs4 a1 a2 a3
      | rt d ρ2 =>
        cases eo
        exact fun v σ' H'' fs' fv t3 k3 s3 r3 => q1 v σ' H'' fs' fv ((t.trans t2).trans t3) ((k.trans k2).trans k3) s3 r3
    · rw [List.drop_eq_nil_of_le (by omega)] at el
      cases el
      exact .inl ⟨wst (by omega), q1 σ H fs t k s⟩
/-! ### while -/
def loopW (t : Tf) (b : Sf) (ks : List Nat) : Nat → Rho → Option Out
  | 0, _ => none
  | n + 1, ρ => (t ρ).bind fun p => if p.1 then (b p.2).bind fun o => match o with
      | .nx ρ' => loopW t b ks n (kill ks ρ')
      | .ct ρ' => loopW t b ks n (kill ks ρ')
      | .bk ρ' => some (.nx (kill ks ρ'))
      | .rt d ρ' => some (.rt d ρ')
    else some (.nx p.2)
def sWhile (n : Nat) (ks : List Nat) (t : Tf) (b : Sf) : Sf := fun ρ => loopW t b ks n (kill ks ρ)
theorem ds_while {t : Tf} {bf : Sf} {body : List Stmt} {τb tbk tct : List Ty} (n : Nat) (ks : List Nat) (hp : PassesOwn (model X.prog X.w) X.A X.env X.xe) (hc : DT X c (killT ks τ) t)
    (hb : DSs X { γ with bk := tbk, ct := tct } body (killT ks τ) bf τb) (h1 : killT ks τb = killT ks τ := by rfl) (h2 : killT ks tbk = killT ks τ := by rfl) (h3 : killT ks tct = killT ks τ := by rfl) :
    DS X γ (.While c body [] pos) τ (sWhile n ks t bf) (killT ks τ) := ps_imp (ps_while hp hc hb) fun D σ0 H0 ⟨R, ρ0, fs0, out, s0, e, q⟩ => by
  obtain ⟨fs1, s1, sub1⟩ := s0.killS ks
  have q1 : Post X γ D R σ0 H0 fs1 (killT ks τ) out := q.mono ((Step.refl H0 fs0).less sub1) (Kp.refl _ _) (fun ρ' σ' H' fs' eo t' k' s' => by subst eo; exact q σ' H' fs' t' k' s') rfl rfl rfl
  refine ⟨fun m σ H => ∃ ρ fs, Step H0 H fs1 fs ∧ Kp γ.io σ0 σ ∧ SR X.K X.mg R (killT ks τ) ρ σ H fs ∧ loopW t bf ks m ρ = some out, ⟨n, _, fs1, Step.refl _ _, Kp.refl _ _, s1, e⟩, fun m σ H ⟨ρ, fs, st, k, s, el⟩ => ?_⟩
  cases m with
  | zero => cases el
  | succ m =>
    obtain ⟨p, e1, e2⟩ := bindO (show (t ρ).bind _ = some out from el)
    refine ⟨R, ρ, fs, p.1, p.2, s, e1, fun H1 fs2 t2 s2 => ?_⟩
    cases hp : p.1 with
    | false =>
      rw [hp] at e2
      cases e2
      exact iteF (q1 σ H1 fs2 (st.trans t2) k s2)
    | true =>
      rw [hp, if_pos rfl] at e2
      obtain ⟨o, eb, eo⟩ := bindO e2
      refine iteT ⟨fun σ' H' => ∃ ρ' fs', Step H0 H' fs1 fs' ∧ Kp γ.io σ0 σ' ∧ SR X.K X.mg R (killT ks τ) ρ' σ' H' fs' ∧ loopW t bf ks m ρ' = some out, fun σ' H' ⟨ρ', fs', a1, a2, a3, a4⟩ => ⟨m, by omega, ρ', fs', a1, a2, a3, a4⟩, R, p.2, fs2, o, s2, eb, ?_⟩
      have fin : ∀ {τx : List Ty} {ρ' : Rho} {σ' : L2.St} {H'' : Hp} {fs' : List Addr}, killT ks τx = killT ks τ → Step H1 H'' fs2 fs' → Kp γ.io σ σ' → SR X.K X.mg R τx ρ' σ' H'' fs' →
          ∃ fs'', Step H0 H'' fs1 fs'' ∧ Kp γ.io σ0 σ' ∧ SR X.K X.mg R (killT ks τ) (kill ks ρ') σ' H'' fs'' := fun hx t3 k3 s3 => by
        obtain ⟨fs4, s4, sub4⟩ := s3.killS ks
        rw [hx] at s4
        exact ⟨fs4, (st.trans t2).trans (t3.less sub4), k.trans k3, s4⟩
      cases o with
      | nx ρ2 =>
        exact fun σ' H'' fs' t3 k3 s3 => by
          obtain ⟨fs4, a1, a2, a3⟩ := fin h1 t3 k3 s3
          exact ⟨_, fs4, a1, a2, a3, eo⟩
      | ct ρ2 =>
        exact fun σ' H'' fs' t3 k3 s3 => by
          obtain ⟨fs4, a1, a2, a3⟩ := fin h3 t3 k3 s3
          exact ⟨_, fs4, a1, a2, a3, eo⟩
      | bk ρ2 =>
        cases eo
        exact fun σ' H'' fs' t3 k3 s3 => by
          obtain ⟨fs4, a1, a2, a3⟩ := fin h2 t3 k3 s3
          exact q1 σ' H'' fs4 a1 a2 a3
      | rt d ρ2 =>
        cases eo
        exact fun v σ' H'' fs' fv t3 k3 s3 r3 => q1 v σ' H'' fs' fv ((st.trans t2).trans t3) (k.trans k3) s3 r3
end

/-! ### slots that do not matter -/
section
variable {K : PySem.W.Frag} {mg : Str → Option Value} {H G : Hp}
theorem Sl.congr : ∀ {τ : List Ty} {ρ ρ' : Rho} {σ σ' : L2.St} {f : List Addr}, Sl K mg H G τ ρ σ f → ρ'.length = ρ.length → σ'.length = σ.length → (∀ (i : Nat) (t : Ty), τ[i]? = some t → t ≠ .no → ρ'[i]? = ρ[i]? ∧ σ'[i]? = σ[i]?) → Sl K mg H G τ ρ' σ' f
  | _, _, ρ', _, σ', _, .nil, h1, h2, _ => by
    have e1 : ρ' = [] := List.length_eq_zero_iff.mp h1
    have e2 : σ' = [] := List.length_eq_zero_iff.mp h2
    subst e1; subst e2; exact .nil
  | _, _, ρ', _, σ', _, .no r, h1, h2, k => by
    cases ρ' with
    | nil => simp at h1
    | cons d ρ' =>
      cases σ' with
      | nil => simp at h2
      | cons v σ' => exact .no (Sl.congr r (by simpa using h1) (by simpa using h2) fun i t e n => by simpa using k (i + 1) t (by simpa using e) n)
  | _, _, ρ', _, σ', _, .cons (t := t) h r, h1, h2, k => by
    cases ρ' with
    | nil => simp at h1
    | cons d ρ' =>
      cases σ' with
      | nil => simp at h2
      | cons v σ' =>
        have k0 := k 0 t rfl (by intro z; subst z; cases h)
        simp at k0
        obtain ⟨rfl, rfl⟩ := k0
        exact .cons h (Sl.congr r (by simpa using h1) (by simpa using h2) fun i t e n => by simpa using k (i + 1) t (by simpa using e) n)
end
theorem wipe_in {σ : L2.St} {i : Nat} : ∀ {vs : List Nat}, i ∈ vs → i < σ.length → (wipe σ vs)[i]? = some none
  | v :: vs, h, hl => by
    show ((wipe σ vs).set v none)[i]? = some none
    by_cases e : v = i
    · subst e
      rw [List.getElem?_set_self (by rw [wipe_length]; exact hl)]
    · rw [List.getElem?_set_ne e]
      exact wipe_in ((List.mem_cons.mp h).resolve_left (fun z => e z.symm)) hl
/-! ### list comprehensions -/
def oE (f : Ef) : Of := fun ρ => (f ρ).bind fun p => match p.1 with
  | .v d => some (d, p.2)
  | _ => none
theorem do_E {X : Cx} {τ : List Ty} {e : Expr} {f : Ef} (h : DE X e τ f) : DO X e τ (oE f) .sh := pe_imp h fun σ H Q ⟨R, ρ, fs, d, ρ', s, e, q⟩ => by
  obtain ⟨p, e1, e2⟩ := bindO e
  obtain ⟨p1, p2⟩ := p
  cases p1 with
  | x i => cases e2
  | v d => cases e2; exact ⟨R, ρ, fs, _, _, s, e1, fun v H' fs' t s' r => q v H' fs' [] t s' (.sh r)⟩
def stepLc (own : List Nat) (g : Gf) (tt : Tf) (el : Of) (d : D) (ρ : Rho) : Option (Option D × Rho) := (g d ρ).bind fun ρ1 => (tt ρ1).bind fun p => if p.1 then (el p.2).bind fun q => some (some q.1, kill own q.2) else some (none, kill own p.2)
def lcF (step : D → Rho → Option (Option D × Rho)) : List D → Rho → Option (List D × Rho)
  | [], ρ => some ([], ρ)
  | d :: r, ρ => (step d ρ).bind fun q => (lcF step r q.2).bind fun w => some (q.1.toList ++ w.1, w.2)
def oLc (own : List Nat) (it : Itf) (g : Gf) (tt : Tf) (el : Of) : Of := fun ρ => (it ρ).bind fun p => if okLen p.1.length then (lcF (stepLc own g tt el) p.1 p.2).bind fun r => some (.lst r.1, r.2) else none
def isNo : Option Ty → Bool
  | some .no => true
  | _ => false
def allNo (τ : List Ty) (own : List Nat) : Bool := own.all fun i => isNo τ[i]?
theorem allNo_ok {τ : List Ty} {own : List Nat} (h : allNo τ own = true) : ∀ i ∈ own, τ[i]? = some .no := fun i hi => by
  have := List.all_eq_true.mp h i hi
  revert this
  generalize τ[i]? = o
  intro q
  cases o with
  | none => cases q
  | some t => cases t <;> first | rfl | cases q
def others (n : Nat) (own : List Nat) : List Nat := (List.range n).filter fun i => !own.contains i
def tYesF : Tf := fun ρ => some (true, ρ)
abbrev DTs (X : Cx) (ifs : List Expr) (τ : List Ty) (f : Tf) : Prop := PTs X ifs (tT X τ f)
theorem pts_imp {X : Cx} {e : List Expr} {t t' : TT} (h : PTs X e t) (k : ∀ σ H Q, t' σ H Q → t σ H Q) : PTs X e t' := ⟨fun pins s σ H Q I q => h.run pins s σ H Q I (k σ H Q q)⟩
theorem dts_nil {X : Cx} {τ : List Ty} : DTs X [] τ tYesF := pts_imp pts_nil fun σ H Q ⟨R, ρ, fs, b, ρ', s, e, q⟩ => by
  cases e
  exact q H fs (Step.refl H fs) s
theorem dts_one {X : Cx} {τ : List Ty} {c : Expr} {f : Tf} (h : DT X c τ f) : DTs X [c] τ f := pts_one h
theorem SR.updR {K : PySem.W.Frag} {mg : Str → Option Value} {R : List Addr} {τ : List Ty} {ρ : Rho} {σ : L2.St} {H : Hp} {fs : List Addr} {a : Addr} {o : HO} (s : SR K mg R τ ρ σ H fs) (ha : a ∈ R) (w : Own o) : SR K mg R τ ρ σ (upd H a o) fs := by
  have nd := s.nd
  refine ⟨s.sl.mono (hide_mono fun b u n e => ⟨n, by rw [upd_ne fun z => n (by rw [z]; exact List.mem_append_left _ ha)]; exact e⟩) fun b hb => upd_ne fun z => (List.nodup_append.mp nd).2.2 a ha b hb z.symm, nd, fun b hb => ?_⟩
  by_cases z : b = a
  · exact ⟨o, by rw [z, upd_same], w⟩
  · obtain ⟨u, e, w'⟩ := s.al b hb
    exact ⟨u, by rw [upd_ne z]; exact e, w'⟩
theorem Rps.snoc {K : PySem.W.Frag} {mg : Str → Option Value} {H G : Hp} : ∀ {ts : List Ty} {ds : List D} {vs : List V} {f : List Addr} {t : Ty} {d : D} {v : V} {g : List Addr}, Rps K mg H G ts ds vs f → Rp K mg H G t d v g → Rps K mg H G (ts ++ [t]) (ds ++ [d]) (vs ++ [v]) (f ++ g)
  | _, _, _, _, _, _, _, g, .nil, h => by
    have := Rps.cons h .nil
    simpa using this
  | _, _, _, _, _, _, _, g, .cons (f := f0) (g := g0) q r, h => by
    have := Rps.cons q (Rps.snoc r h)
    simpa [List.append_assoc] using this
theorem Rps.len {K : PySem.W.Frag} {mg : Str → Option Value} {H G : Hp} : ∀ {ts : List Ty} {ds : List D} {vs : List V} {f : List Addr}, Rps K mg H G ts ds vs f → ds.length = vs.length
  | _, _, _, _, .nil => rfl
  | _, _, _, _, .cons _ r => by simp [Rps.len r]
section
variable {X : Cx} {γ : Gm} {τ τ1 τ' : List Ty} {tg a b c elt iter : Expr} {ifs : List Expr} {es : List Expr} {pos p : Pos}
/-- the reading of a comprehension -/
theorem tLc_of {it : Itf} {g : Gf} {tt : Tf} {el : Of} {t : Ty} {τg : List Ty} (own : List Nat) (hown : ∀ i ∈ own, τ[i]? = some .no) (hlen : τg.length = τ.length) (hkg : killT own τg = τ) : ∀ σ H Q, tO X τ (oLc own it g tt el) (.oL t) σ H Q →
    tLc (tI X τ it) (tG X (others τ.length own) τ g τg) (tT X τg tt) (tO X τg el t) own σ H Q := fun σ0 H0 Q ⟨R, ρ0, fs0, dd, ρe, s0, e, q⟩ => by
  obtain ⟨w, e1, e2⟩ := bindO e
  obtain ⟨e3, e4⟩ : okLen w.1.length = true ∧ ((lcF (stepLc own g tt el) w.1 w.2).bind fun r => some (D.lst r.1, r.2)) = some (dd, ρe) := by
    by_cases h : okLen w.1.length = true
    · rw [if_pos h] at e2; exact ⟨h, e2⟩
    · rw [if_neg h] at e2; cases e2
  obtain ⟨res, e5, e6⟩ := bindO e4
  cases e6
  refine ⟨R, ρ0, fs0, w.1, w.2, s0, e1, fun J H1 fs1 t1 s1 wk => fun Dd hD => ?_⟩
  obtain ⟨n1, n2, n3⟩ := s1.newL (p := Dd) (vs := []) (ds := []) hD .nil
  have hlσ : ∀ {R' : List Addr} {ρ' : Rho} {H' : Hp} {fs' : List Addr} {σ' : L2.St} {τx : List Ty}, SR X.K X.mg R' τx ρ' σ' H' fs' → σ'.length = τx.length := fun s => by
    have := s.sl.len
    omega
  refine ⟨fun i m H => ∃ ρ fs gs accd acc rest, Step H1 H fs1 ((Dd :: gs) ++ fs) ∧ SR X.K X.mg ((Dd :: gs) ++ R) τ ρ σ0 H fs ∧ Le (hide (R ++ fs1) H1) (hide ((Dd :: gs) ++ R ++ fs) H) ∧ H Dd = some (.lst acc) ∧
      Rps X.K X.mg H (hide ((Dd :: gs) ++ R ++ fs) H) (List.replicate accd.length t) accd acc gs ∧ lcF (stepLc own g tt el) (w.1.drop i) ρ = some rest ∧ accd ++ rest.1 = res.1 ∧ rest.2 = res.2 ∧ accd.length ≤ i ∧ m + i = w.1.length,
    ⟨w.1.length, w.2, fs1, [], [], [], res, n3, n1, ?_, upd_same, .nil, by simpa using e5, rfl, rfl, Nat.le_refl _, by omega⟩, fun i m H ⟨ρ, fs, gs, accd, acc, rest, tS, s, le, hDd, rps, el1, er1, er2, ei, em⟩ => ?_⟩
  · exact hide_upd' hD fun a z => by simpa using z
  · obtain ⟨wgo, wst⟩ := wk i ((Dd :: gs) ++ R ++ fs) H s.own le
    by_cases hi : i < w.1.length
    · have ed := List.getElem?_eq_getElem hi
      generalize w.1[i] = d at ed
      rw [drop_get ed] at el1
      obtain ⟨st, es1, es2⟩ := bindO (show (stepLc own g tt el d ρ).bind _ = some rest from el1)
      obtain ⟨rest', es3, es4⟩ := bindO es2
      obtain ⟨ρ1, eg, es5⟩ := bindO (show (g d ρ).bind _ = some st from es1)
      obtain ⟨pt, et, es6⟩ := bindO es5
      obtain ⟨go, yl⟩ := wgo d ed
      refine .inr ⟨go, fun H' => ∃ ρ fs gs accd acc rest, Step H1 H' fs1 ((Dd :: gs) ++ fs) ∧ SR X.K X.mg ((Dd :: gs) ++ R) τ ρ σ0 H' fs ∧ Le (hide (R ++ fs1) H1) (hide ((Dd :: gs) ++ R ++ fs) H') ∧ H' Dd = some (.lst acc) ∧
          Rps X.K X.mg H' (hide ((Dd :: gs) ++ R ++ fs) H') (List.replicate accd.length t) accd acc gs ∧ lcF (stepLc own g tt el) (w.1.drop (i + 1)) ρ = some rest ∧ accd ++ rest.1 = res.1 ∧ rest.2 = res.2 ∧ accd.length ≤ i + 1,
        fun H' ⟨a0, a1, a2, a3, a4, a5, a6, a7, a8, a9, a10, a11, a12, a13, a14⟩ => ⟨m - 1, by omega, a0, a1, a2, a3, a4, a5, a6, a7, a8, a9, a10, a11, a12, a13, a14, by omega⟩, fun x H' hy => ?_⟩
      obtain ⟨gr, rf⟩ := yl x H' hy
      have sw : SR X.K X.mg ((Dd :: gs) ++ R) τ ρ (wipe σ0 own) H' fs := by
        have s' := s.grow gr
        refine ⟨s'.sl.congr rfl (wipe_length _ _) fun j tj ej nj => ⟨rfl, ?_⟩, s'.nd, s'.al⟩
        exact wipe_out fun z => by rw [hown j z] at ej; exact nj (Option.some.inj ej).symm
      refine ⟨(Dd :: gs) ++ R, ρ, fs, d, ρ1, sw, rf, eg, fun σ2 fs2 sub2 k2 s2 => ⟨?_, ?_⟩⟩
      · apply List.ext_getElem?
        intro j
        have hl2 : σ2.length = σ0.length := by rw [hlσ s2, hlσ s, hlen]
        by_cases hj : j ∈ own
        · by_cases hjl : j < σ0.length
          · rw [wipe_in hj (by rw [hl2]; exact hjl), wipe_in hj hjl]
          · rw [List.getElem?_eq_none (by rw [wipe_length, hl2]; omega), List.getElem?_eq_none (by rw [wipe_length]; omega)]
        · rw [wipe_out hj, wipe_out hj]
          by_cases hjl : j < τ.length
          · rw [k2 j (by unfold others; simp [hjl, hj]), wipe_out hj]
          · rw [List.getElem?_eq_none (by rw [hlσ s2, hlen]; omega), List.getElem?_eq_none (by rw [hlσ s]; omega)]
      · have t2 : Step H H' fs fs2 := (Step.grow gr fs).less sub2
        refine ⟨(Dd :: gs) ++ R, ρ1, fs2, pt.1, pt.2, s2, et, fun H3 fs3 t3 s3 => ?_⟩
        have back : ∀ {R' : List Addr} {ρ' : Rho} {H' : Hp} {fs' : List Addr}, SR X.K X.mg R' τg ρ' σ2 H' fs' → ∃ fs'', SR X.K X.mg R' τ (kill own ρ') σ0 H' fs'' ∧ ∀ a ∈ fs'', a ∈ fs' := fun s' => by
          obtain ⟨fs'', sk, sb⟩ := s'.killS own
          rw [hkg] at sk
          refine ⟨fs'', ⟨sk.sl.congr rfl ?_ fun j tj ej nj => ⟨rfl, ?_⟩, sk.nd, sk.al⟩, sb⟩
          · rw [hlσ s, hlσ sk]
          · have hj : j ∉ own := fun z => by rw [hown j z] at ej; exact nj (Option.some.inj ej).symm
            have hjl : j < τ.length := (List.getElem?_eq_some_iff.mp ej).1
            rw [k2 j (by unfold others; simp [hjl, hj]), wipe_out hj]
        cases hp : pt.1 with
        | false =>
          rw [hp] at es6
          cases es6
          obtain ⟨fs4, s4, sub4⟩ := back s3
          have t4 : Step H H3 fs fs4 := (t2.trans t3).less sub4
          refine iteF ⟨_, fs4, gs, accd, acc, rest', ⟨fun a o n e => ?_, fun a ha => ?_, fun a o e => ?_⟩, s4, le.trans (s.le t4), ?_, ?_, es3, ?_, ?_, by omega⟩
          · by_cases z : a ∈ (Dd :: gs) ++ fs
            · rcases tS.sub a z with q | q
              · exact absurd q n
              · rw [q] at e; cases e
            · exact t4.ext a o (fun h => z (List.mem_append_right _ h)) (tS.ext a o n e)
          · rcases List.mem_append.mp ha with z | z
            · exact tS.sub a (List.mem_append_left _ z)
            · rcases t4.sub a z with q | q
              · exact tS.sub a (List.mem_append_right _ q)
              · refine .inr ?_
                cases e : H1 a with
                | none => rfl
                | some o =>
                  obtain ⟨o', e'⟩ := tS.ne a o e
                  rw [e'] at q; cases q
          · obtain ⟨o', e'⟩ := tS.ne a o e
            exact t4.ne a o' e'
          · refine t4.ext Dd _ (fun z => ?_) hDd
            exact (List.nodup_append.mp s.nd).2.2 Dd (by simp) Dd z rfl
          · refine rps.mono (s.le t4) fun a ha => ?_
            obtain ⟨o, eo, _⟩ := s.al a (by simp [ha])
            rw [eo]
            exact t4.ext a o (fun z => (List.nodup_append.mp s.nd).2.2 a (by simp [ha]) a z rfl) eo
          · rw [← er1, ← Option.some.inj es4]; rfl
          · rw [← er2, ← Option.some.inj es4]
        | true =>
          rw [hp, if_pos rfl] at es6
          obtain ⟨pe, ee, es7⟩ := bindO es6
          cases es7
          refine iteT ⟨(Dd :: gs) ++ R, pt.2, fs3, pe.1, pe.2, s3, ee, fun y H4 fs4 fv t4 s4 r4 => ?_⟩
          obtain ⟨fs5, s5, sub5⟩ := back s4
          have t35 : Step H H4 fs (fv ++ fs5) := (t2.trans t3).trans (t4.less fun a ha => (List.mem_append.mp ha).elim (fun z => by simp [z]) fun z => by simp [sub5 a z])
          have hD4 : H4 Dd = some (.lst acc) := t35.ext Dd _ (fun z => (List.nodup_append.mp s.nd).2.2 Dd (by simp) Dd z rfl) hDd
          have lacc : acc.length < sizeLine := by
            rw [← rps.len]
            have := okLen_le e3
            omega
          refine ⟨acc, hD4, lacc, ?_⟩
          have s6 := s5.updR (a := Dd) (o := .lst (acc ++ [y])) (by simp) trivial
          have mem : ∀ a, a ∈ (Dd :: (gs ++ fv)) ++ R ++ fs5 ↔ a ∈ fv ++ ((Dd :: gs) ++ R) ++ fs5 := fun a => by
            simp only [List.mem_append, List.mem_cons]
            constructor
            · rintro (((h | h | h) | h) | h) <;> simp [h]
            · rintro ((h | (h | h) | h) | h) <;> simp [h]
          have pm : ((Dd :: (gs ++ fv)) ++ R ++ fs5).Perm (fv ++ ((Dd :: gs) ++ R) ++ fs5) := by
            refine List.Perm.append_right _ ?_
            rw [← List.cons_append, List.append_assoc]
            refine (List.Perm.append_left (Dd :: gs) (List.perm_append_comm (l₁ := fv) (l₂ := R))).trans ?_
            rw [← List.append_assoc]
            exact List.perm_append_comm
          have s7 : SR X.K X.mg ((Dd :: (gs ++ fv)) ++ R) τ (kill own pe.2) σ0 (upd H4 Dd (.lst (acc ++ [y]))) fs5 := by
            refine ⟨s6.sl.mono (hide_sub fun a ha => (mem a).mp ha) fun _ _ => rfl, pm.nodup_iff.mpr s6.nd, fun a ha => ?_⟩
            refine s6.own a ((mem a).mp (List.mem_append_left _ ha))
          have ndS := s5.nd
          have neD : ∀ a, a ∈ gs ∨ a ∈ fv → a ≠ Dd := fun a ha z => by
            subst z
            simp only [List.append_assoc, List.nodup_append, List.mem_append, List.cons_append, List.nodup_cons] at ndS
            rcases ha with h | h
            · exact ndS.2.1.1 (.inl h)
            · exact ndS.2.2 a h a (by simp) rfl
          have leU : Le (hide ((Dd :: gs) ++ R ++ fs) H) (hide ((Dd :: (gs ++ fv)) ++ R ++ fs5) (upd H4 Dd (.lst (acc ++ [y])))) := hide_mono fun a o n e => by
            have n1 : a ≠ Dd := fun z => n (by simp [z])
            have nfs : a ∉ fs := fun z => n (by simp [z])
            refine ⟨fun z => ?_, by rw [upd_ne n1]; exact t35.ext a o nfs e⟩
            have z := (mem a).mp z
            simp only [List.mem_append, List.mem_cons] at z n
            rcases z with (z | (z | z) | z) | z
            · rcases t35.sub a (by simp [z]) with q | q
              · exact nfs q
              · rw [q] at e; cases e
            · exact n1 z
            · exact n (by simp [z])
            · exact n (by simp [z])
            · rcases t35.sub a (by simp [z]) with q | q
              · exact nfs q
              · rw [q] at e; cases e
          refine ⟨_, fs5, gs ++ fv, accd ++ [pe.1], acc ++ [y], rest', ⟨fun a o n e => ?_, fun a ha => ?_, fun a o e => ?_⟩, s7, le.trans leU, upd_same, ?_, es3, ?_, ?_, by simp; omega⟩
          · have z : a ∉ (Dd :: gs) ++ fs := fun z => by
              rcases tS.sub a z with q | q
              · exact n q
              · rw [q] at e; cases e
            rw [upd_ne fun h => z (by simp [h])]
            exact t35.ext a o (fun h => z (List.mem_append_right _ h)) (tS.ext a o n e)
          · have fr : ∀ a, H a = none → H1 a = none := fun a q => by
              cases e : H1 a with
              | none => rfl
              | some o =>
                obtain ⟨o', e'⟩ := tS.ne a o e
                rw [e'] at q; cases q
            simp only [List.mem_append, List.mem_cons] at ha
            rcases ha with (z | z | z) | z
            · exact tS.sub a (by simp [z])
            · exact tS.sub a (by simp [z])
            · rcases t35.sub a (by simp [z]) with q | q
              · exact tS.sub a (by simp [q])
              · exact .inr (fr a q)
            · rcases t35.sub a (by simp [z]) with q | q
              · exact tS.sub a (by simp [q])
              · exact .inr (fr a q)
          · obtain ⟨o', e'⟩ := tS.ne a o e
            obtain ⟨o2, e2⟩ := t35.ne a o' e'
            by_cases z : a = Dd
            · exact ⟨_, by rw [z, upd_same]⟩
            · exact ⟨o2, by rw [upd_ne z]; exact e2⟩
          · have r1 := rps.mono leU (H' := upd H4 Dd (.lst (acc ++ [y]))) fun a ha => by
              rw [upd_ne (neD a (.inl ha))]
              obtain ⟨o, eo, _⟩ := s.al a (by simp [ha])
              rw [eo]
              exact t35.ext a o (fun z => (List.nodup_append.mp s.nd).2.2 a (by simp [ha]) a z rfl) eo
            have leV : Le (hide (fv ++ ((Dd :: gs) ++ R) ++ fs4) H4) (hide ((Dd :: (gs ++ fv)) ++ R ++ fs5) (upd H4 Dd (.lst (acc ++ [y])))) := hide_mono fun a o n e => by
              have n1 : a ≠ Dd := fun z => n (by simp [z])
              refine ⟨fun z => n ?_, by rw [upd_ne n1]; exact e⟩
              have z := (mem a).mp z
              rcases List.mem_append.mp z with z | z
              · exact List.mem_append_left _ z
              · exact List.mem_append_right _ (sub5 a z)
            have r2 := r4.mono leV (H' := upd H4 Dd (.lst (acc ++ [y]))) fun a ha => upd_ne (neD a (.inr ha))
            have := r1.snoc r2
            rw [← List.replicate_succ', show accd.length + 1 = (accd ++ [pe.1]).length by simp] at this
            exact this
          · rw [← er1, ← Option.some.inj es4]; simp
          · rw [← er2, ← Option.some.inj es4]
    · rw [List.drop_eq_nil_of_le (by omega)] at el1
      cases el1
      refine .inl ⟨wst (by omega), ?_⟩
      simp at er1 er2
      subst er1
      subst er2
      exact q (.ref Dd) H fs (Dd :: gs) (t1.trans tS) s (.oL hDd rps)
theorem do_lc {it : Itf} {g : Gf} {tt : Tf} {el : Of} {t : Ty} {τg : List Ty} {scope : Scope} {own : List (Str × Nat)} (hc : X.calm = true) (hN : X.N.Nodup) (hi : DI X tg iter τ it) (ok : BlkOk X.N X.env.scope scope own)
    (hg : ∀ (s : Shared) (H : Hp) (C : Addr) (cl : List (Str × Addr)) (fp : List Addr), DG (X.blk s H scope (compEnvC scope cl C X.env) fp) (others τ.length (own.map (·.2))) tg τ g τg)
    (ht : ∀ (s : Shared) (H : Hp) (C : Addr) (cl : List (Str × Addr)) (fp : List Addr), DTs (X.blk s H scope (compEnvC scope cl C X.env) fp) ifs τg tt)
    (he : ∀ (s : Shared) (H : Hp) (C : Addr) (cl : List (Str × Addr)) (fp : List Addr), DO (X.blk s H scope (compEnvC scope cl C X.env) fp) elt τg el t)
    (hown : allNo τ (own.map (·.2)) = true := by rfl) (hlen : τg.length = τ.length := by rfl) (hkg : killT (own.map (·.2)) τg = τ := by rfl)
    (hs : ∀ x, foldedSetIterable iter X.env x = pure x := by intro _; rfl) :
    DO X (.ListComp elt [⟨tg, iter, ifs, 0⟩] scope pos) τ (oLc (own.map (·.2)) it g tt el) (.oL t) := pe_imp (pe_lc hc hN hi ok hg ht he hs) (tLc_of (own.map (·.2)) (allNo_ok hown) hlen hkg)
end
end TL

namespace TL
open PySem PySem.Spec PyProof.Rows L2

section
variable {X : Cx} {γ : Gm} {τ τ1 τ' : List Ty} {tg a b c e elt iter o : Expr} {ifs : List Expr} {es : List Expr} {pos p : Pos}
/-- name = [..], the name local: the stores are exchanged -/
theorem ds_setLc {it : Itf} {g : Gf} {tt : Tf} {el : Of} {t : Ty} {τg : List Ty} {scope : Scope} {own : List (Str × Nat)} {y : Str} {py spos : Pos} (i : Nat) (hc : X.calm = true) (hN : X.N.Nodup) (hy : X.N[i]? = some y) (hyl : X.env.scope.names.lookup y = some .local)
    (hsw : swapsWith (.ListComp elt [⟨tg, iter, ifs, 0⟩] scope pos) (some (.Name y py)) spos.line X.env = pure true) (hi : DI X tg iter τ it) (ok : BlkOk X.N X.env.scope scope own)
    (hg : ∀ (s : Shared) (H : Hp) (C : Addr) (cl : List (Str × Addr)) (fp : List Addr), DG (X.blk s H scope (compEnvC scope cl C X.env) fp) (others τ.length (own.map (·.2))) tg τ g τg)
    (ht : ∀ (s : Shared) (H : Hp) (C : Addr) (cl : List (Str × Addr)) (fp : List Addr), DTs (X.blk s H scope (compEnvC scope cl C X.env) fp) ifs τg tt)
    (he : ∀ (s : Shared) (H : Hp) (C : Addr) (cl : List (Str × Addr)) (fp : List Addr), DO (X.blk s H scope (compEnvC scope cl C X.env) fp) elt τg el t)
    (hown : allNo τ (own.map (·.2)) = true := by rfl) (hlen : τg.length = τ.length := by rfl) (hkg : killT (own.map (·.2)) τg = τ := by rfl)
    (hs : ∀ x, foldedSetIterable iter X.env x = pure x := by intro _; rfl) (hti : i < τ.length := by decide) (hio : i ∉ γ.io := by decide) :
    DS X γ (.Assign [.Name y py] (.ListComp elt [⟨tg, iter, ifs, 0⟩] scope pos) spos) τ (sSetO i (oLc (own.map (·.2)) it g tt el)) (τ.set i (.oL t)) :=
  ps_imp (ps_setLc (i := i) hc hN hy hyl hsw hi ok hg ht he hs) fun D σ H q => by
    have := setO_of i hti hio D σ H q
    obtain ⟨R, ρ, fs, d, ρ', s, e, k⟩ := this
    exact tLc_of (own.map (·.2)) (allNo_ok hown) hlen hkg σ H _ ⟨R, ρ, fs, d, ρ', s, e, k⟩
/-- an owned value, then its slot is frozen -/
theorem ds_frzA {st : Stmt} {f : Sf} (i : Nat) {t : Ty} (h : DS X γ st τ f τ1) (ht : τ1[i]? = some t := by rfl) (hn : t ≠ .no := by intro z; cases z) : DS X γ st τ f (τ1.set i .sh) := ps_imp h fun D σ H ⟨R, ρ, fs, o, s, e, q⟩ => by
  refine ⟨R, ρ, fs, o, s, e, ?_⟩
  cases o with
  | nx ρ' =>
    exact fun σ' H' fs' t' k' s' => by
      obtain ⟨fs2, s2, sub⟩ := s'.frz ht hn
      exact q σ' H' fs2 (t'.less sub) k' s2
  | bk ρ' => exact q
  | ct ρ' => exact q
  | rt d ρ' => exact q

/-! ### o[i] = e -/
def setL (l : List D) (k : Int) (d : D) : Option (List D) := (ixN l.length k).bind fun j => some (l.set j d)
def sSetIx (i : Nat) (f fk : Ef) : Sf := fun ρ => (f ρ).bind fun p => (fk p.2).bind fun q => match p.1, q.1, q.2.getD i .non with
  | .v d, .v (.int k), .lst l => (setL l k d).bind fun l' => some (.nx (q.2.set i (.lst l')))
  | _, _, _ => none
theorem SR.gSub_aux {K : PySem.W.Frag} {mg : Str → Option Value} {R : List Addr} {ρ : Rho} {σ : L2.St} {H : Hp} {fs : List Addr} {i : Nat} {v0 : V} (s : SR K mg R τ ρ σ H fs) (ht : τ[i]? = some (.oL .sh)) (ev : σ[i]? = some (some v0)) {l : List D} (el : ρ.getD i .non = .lst l) :
    ∃ a vs, v0 = .ref a ∧ H a = some (.lst vs) ∧ Rfs K mg (hide (R ++ fs) H) l vs ∧ ∀ (vs' : List V) (l' : List D), Rfs K mg (hide (R ++ fs) H) l' vs' → SR K mg R τ (ρ.set i (.lst l')) σ (upd H a (.lst vs')) fs ∧ Step H (upd H a (.lst vs')) fs fs := by
  obtain ⟨f1, fo, f2, ef, hos, hl, _, h2, _⟩ := s.sl.split ht
  rcases hos with ⟨z, _⟩ | ⟨v1, ev1, r1⟩
  · cases z
  rw [ev] at ev1; cases ev1
  rw [el] at r1
  cases r1 with
  | @oL t a vs ds g h rs =>
    obtain ⟨rf, eg⟩ := rs.to_sh
    subst eg
    refine ⟨a, vs, rfl, h, rf, fun vs' l' rf' => ?_⟩
    have le : Le (hide (R ++ fs) H) (hide (R ++ fs) (upd H a (.lst vs'))) := hide_mono fun b u n e => ⟨n, by
      rw [upd_ne fun z => n (by rw [z, ef]; simp)]; exact e⟩
    exact s.write ht (f := []) ev (d := .lst l) ef (o := .lst vs') (d' := .lst l') trivial h2 (.oL upd_same (Rps.of_sh (rf'.mono le)))
theorem ds_setix {f fk : Ef} {ok ek : Expr} (i : Nat) (he : DE X e τ f) (ho : PE X ok (tVar i)) (hk : DE X ek τ fk) (ht : τ[i]? = some (.oL .sh) := by rfl)
    (ha : ∀ v, assign (.Subscript ok ek p) X.env v = (do
      let ov ← holding [v] (eval ok X.env)
      let iv ← holding [v, ov] (eval ek X.env)
      standAt p
      holding [v, ov, iv] (setItem ov iv v)
      release [v, ov, iv] []) := by intro _; rfl)
    (hs : swapsWithSole [.Subscript ok ek p] e pos.line X.env = pure false := by rfl) (hw : swappedStores [.Subscript ok ek p] e X.env = pure none := by rfl)
    (h1 : (assignEach [.Subscript ok ek p] X.env).map (·.2) = [assign (.Subscript ok ek p) X.env] := by rfl) :
    DS X γ (.Assign [.Subscript ok ek p] e pos) τ (sSetIx i f fk) τ := ps_imp (ps_asg he (pg_sub ho hk set_list ha) hs hw h1) fun D σ H ⟨R, ρ, fs, out, s, e, q⟩ => by
  obtain ⟨w, e1, e2⟩ := bindO e
  obtain ⟨z, e3, e4⟩ := bindO e2
  obtain ⟨w1, w2⟩ := w
  obtain ⟨z1, z2⟩ := z
  cases w1 with
  | x i => cases e4
  | v d =>
    cases z1 with
    | x i => cases e4
    | v dk =>
      cases dk with
      | int k =>
        have e5 : (match z2.getD i .non with | .lst l => (setL l k d).bind fun l' => some (Out.nx (z2.set i (.lst l'))) | _ => none) = some out := by
          revert e4
          simp only
          cases z2.getD i .non <;> exact id
        obtain ⟨l, el, e6⟩ : ∃ l, z2.getD i .non = .lst l ∧ ((setL l k d).bind fun l' => some (Out.nx (z2.set i (.lst l')))) = some out := by
          revert e5
          cases hz : z2.getD i .non with
          | lst l => exact fun e5 => ⟨l, rfl, e5⟩
          | _ => exact fun e5 => by cases e5
        obtain ⟨l', e7, e8⟩ := bindO e6
        cases e8
        obtain ⟨j, e9, e10⟩ := bindO e7
        cases e10
        obtain ⟨v0, f0, ev0, r0, _⟩ := s.get ht (by intro z; cases z)
        refine ⟨R, ρ, fs, _, _, s, e1, fun v H1 fs1 t1 s1 r => ⟨v0, ev0, R, w2, fs1, _, _, s1, e3, fun vk H2 fs2 t2 s2 rk => ?_⟩⟩
        cases rk
        obtain ⟨a, vs, rfl, hH, rf, mk⟩ := s2.gSub_aux ht ev0 el
        have rv : Rf X.K X.mg (hide (R ++ fs2) H2) d v := Rf.mono (s1.le t2) r
        obtain ⟨sn, tn⟩ := mk (vs.set j v) (l.set j d) (rf.set j rv)
        exact ⟨a, vs, k, j, rfl, rfl, hH, by rw [← rf.length]; exact e9, q σ _ fs2 ((t1.trans t2).trans tn) (Kp.refl _ _) sn⟩
      | _ => cases e4

/-! ### a, b = e1, e2 (both local): stored from the right -/
abbrev Lf := Rho → Option (List D × Rho)
/-- values, some of them owned -/
def tL (X : Cx) (τ : List Ty) (f : Lf) (ts : List Ty) : TA := fun σ H Q => ∃ R ρ fs ds ρ', SR X.K X.mg R τ ρ σ H fs ∧ f ρ = some (ds, ρ') ∧
  ∀ vs H' fs' fv, Step H H' fs (fv ++ fs') → SR X.K X.mg (fv ++ R) τ ρ' σ H' fs' → Rps X.K X.mg H' (hide (fv ++ R ++ fs') H') ts ds vs fv → Q vs H'
abbrev DL (X : Cx) (es : List Expr) (τ : List Ty) (f : Lf) (ts : List Ty) : Prop := PA X es (tL X τ f ts)
def lNil : Lf := fun ρ => some ([], ρ)
def lCons (f : Of) (g : Lf) : Lf := fun ρ => (f ρ).bind fun p => (g p.2).bind fun q => some (p.1 :: q.1, q.2)
theorem dl_nil : DL X [] τ lNil [] := pa_imp pa_nil fun σ H Q ⟨R, ρ, fs, h, ρ', s, e, q⟩ => by
  cases e
  exact q [] H fs [] (Step.refl H fs) s .nil
theorem dl_cons {f : Of} {g : Lf} {t : Ty} {ts : List Ty} (ha : DO X e τ f t) (hr : DL X es τ g ts) (hs : starEach (e :: es) X.env = (false, eval e X.env) :: starEach es X.env := by rfl) : DL X (e :: es) τ (lCons f g) (t :: ts) := pa_imp (pa_cons ha hr hs) fun σ H Q ⟨R, ρ, fs, h, ρ', s, e, q⟩ => by
  obtain ⟨p, e1, e2⟩ := bindO e
  obtain ⟨w, e3, e4⟩ := bindO e2
  cases e4
  refine ⟨R, ρ, fs, p.1, p.2, s, e1, fun v H1 fs1 f1 t1 s1 r1 => ⟨f1 ++ R, p.2, fs1, w.1, w.2, s1, e3, fun vs H2 fs2 f2 t2 s2 r2 => ?_⟩⟩
  have mem : ∀ a, a ∈ (f1 ++ f2) ++ R ++ fs2 ↔ a ∈ f2 ++ (f1 ++ R) ++ fs2 := fun a => by
    simp only [List.mem_append]
    constructor
    · rintro (((h | h) | h) | h) <;> simp [h]
    · rintro ((h | (h | h)) | h) <;> simp [h]
  have pm : ((f1 ++ f2) ++ R ++ fs2).Perm (f2 ++ (f1 ++ R) ++ fs2) := by
    refine List.Perm.append_right _ ?_
    rw [← List.append_assoc]
    exact List.Perm.append_right _ List.perm_append_comm
  refine q (v :: vs) H2 fs2 (f1 ++ f2) ⟨fun a o n e => ?_, fun a ha => ?_, fun a o e => ?_⟩ ⟨s2.sl.mono (hide_sub fun a ha => (mem a).mp ha) fun _ _ => rfl, pm.nodup_iff.mpr s2.nd, fun a ha => s2.own a ((mem a).mp (List.mem_append_left _ ha))⟩ (.cons (r1.mono ?_ ?_) (r2.mono (hide_sub fun a ha => (mem a).mp ha) fun _ _ => rfl))
  · refine t2.ext a o (fun z => ?_) (t1.ext a o n e)
    rcases t1.sub a (List.mem_append_right _ z) with q | q
    · exact n q
    · rw [q] at e; cases e
  · have fr : ∀ a, H1 a = none → H a = none := fun a q => by
      cases e : H a with
      | none => rfl
      | some o =>
        obtain ⟨o', e'⟩ := t1.ne a o e
        rw [e'] at q; cases q
    simp only [List.mem_append] at ha
    rcases ha with (z | z) | z
    · exact t1.sub a (by simp [z])
    · rcases t2.sub a (by simp [z]) with q | q
      · exact t1.sub a (by simp [q])
      · exact .inr (fr a q)
    · rcases t2.sub a (by simp [z]) with q | q
      · exact t1.sub a (by simp [q])
      · exact .inr (fr a q)
  · obtain ⟨o', e'⟩ := t1.ne a o e
    exact t2.ne a o' e'
  · refine hide_mono fun a o n e => ?_
    have nfs : a ∉ fs1 := fun z => n (List.mem_append_right _ z)
    refine ⟨fun z => ?_, t2.ext a o nfs e⟩
    have z := (mem a).mp z
    rcases List.mem_append.mp z with z | z
    · rcases List.mem_append.mp z with z | z
      · rcases t2.sub a (List.mem_append_left _ z) with q | q
        · exact nfs q
        · rw [q] at e; cases e
      · exact n (List.mem_append_left _ z)
    · rcases t2.sub a (List.mem_append_right _ z) with q | q
      · exact nfs q
      · rw [q] at e; cases e
  · intro a ha
    obtain ⟨o, e, _⟩ := s1.own a (List.mem_append_left _ (List.mem_append_left _ ha))
    rw [e]
    exact t2.ext a o (fun z => (List.nodup_append.mp s1.nd).2.2 a (List.mem_append_left _ ha) a z rfl) e
def sPar (i j : Nat) (f : Lf) : Sf := fun ρ => (f ρ).bind fun p => match p.1 with
  | [a, b] => some (.nx ((p.2.set i a).set j b))
  | _ => none
theorem SR.put2 {K : PySem.W.Frag} {mg : Str → Option Value} {R : List Addr} {ρ : Rho} {σ : L2.St} {H : Hp} {fs fv : List Addr} {i : Nat} {t : Ty} {ts : List Ty} {d : D} {ds : List D} {v : V} {vs : List V} (s : SR K mg (fv ++ R) τ ρ σ H fs) (hi : i < τ.length) (r : Rps K mg H (hide (fv ++ R ++ fs) H) (t :: ts) (d :: ds) (v :: vs) fv) :
    ∃ fs' fw, SR K mg (fw ++ R) (τ.set i t) (ρ.set i d) (σ.set i (some v)) H fs' ∧ Rps K mg H (hide (fw ++ R ++ fs') H) ts ds vs fw ∧ ∀ a ∈ fw ++ fs', a ∈ fv ++ fs := by
  cases r with
  | @cons _ _ _ f g _ _ _ h r =>
    have s' : SR K mg (f ++ (g ++ R)) τ ρ σ H fs := by rw [← List.append_assoc]; exact s
    have h' : Rp K mg H (hide (f ++ (g ++ R) ++ fs) H) t d v f := by rw [← List.append_assoc]; exact h
    obtain ⟨fs', s2, sub⟩ := s'.put hi h'
    refine ⟨fs', g, s2, r.mono (hide_sub fun a ha => ?_) fun _ _ => rfl, fun a ha => ?_⟩
    · simp only [List.mem_append] at ha ⊢
      rcases ha with (z | z) | z
      · simp [z]
      · simp [z]
      · have := sub a z
        simp only [List.mem_append] at this
        rcases this with h | h <;> simp [h]
    · simp only [List.mem_append] at ha ⊢
      rcases ha with z | z
      · simp [z]
      · have := sub a z
        simp only [List.mem_append] at this
        rcases this with h | h <;> simp [h]
theorem ds_par {f : Lf} {x y : Str} {px py pt : Pos} {kt k2 pt2} {t1 t2 : Ty} (i j : Nat) (hc : X.calm = true) (hN : X.N.Nodup) (hi : X.N[i]? = some x) (hj : X.N[j]? = some y) (hx : X.env.scope.names.lookup x = some .local) (hy : X.env.scope.names.lookup y = some .local) (ha : DL X [a, b] τ f [t1, t2])
    (hw : swappedStores [.Tuple [.Name x px, .Name y py] kt pt] (.Tuple [a, b] k2 pt2) X.env = pure (some [x, y])) (hij : i ≠ j := by decide) (hit : i < τ.length := by decide) (hjt : j < τ.length := by decide) (hio : i ∉ γ.io := by decide) (hjo : j ∉ γ.io := by decide)
    (hs : swapsWithSole [.Tuple [.Name x px, .Name y py] kt pt] (.Tuple [a, b] k2 pt2) pos.line X.env = pure false := by rfl) :
    DS X γ (.Assign [.Tuple [.Name x px, .Name y py] kt pt] (.Tuple [a, b] k2 pt2) pos) τ (sPar i j f) ((τ.set i t1).set j t2) := ps_imp (ps_par hc hN hi hj hij hx hy ha hw hs) fun D σ H ⟨R, ρ, fs, o, s, e, q⟩ => by
  obtain ⟨w, e1, e2⟩ := bindO e
  obtain ⟨w1, w2⟩ := w
  match w1, e2 with
  | [d1, d2], e2 =>
    cases e2
    refine ⟨R, ρ, fs, _, _, s, e1, fun vs H1 fs1 fv tt s1 r => ?_⟩
    match vs, r with
    | [v1, v2], r =>
      refine ⟨v1, v2, rfl, ?_⟩
      obtain ⟨fs2, fw, s2, r2, sub2⟩ := s1.put2 hit r
      obtain ⟨fs3, fz, s3, r3, sub3⟩ := s2.put2 (by simpa using hjt) r2
      have ez : fz = [] := by cases r3; rfl
      subst ez
      refine q _ H1 fs3 (tt.less fun a ha => sub2 a (sub3 a ha)) (fun k hk => ?_) s3
      rw [List.getElem?_set_ne (by intro z; subst z; exact hjo hk), List.getElem?_set_ne (by intro z; subst z; exact hio hk)]
    | [], r => cases r
    | [_], r => cases r with | cons _ r => cases r
    | _ :: _ :: _ :: _, r => cases r with | cons _ r => cases r with | cons _ r => cases r
  | [], e2 => cases e2
  | [_], e2 => cases e2
  | _ :: _ :: _ :: _, e2 => cases e2
def sPar3 (i j l : Nat) (f : Lf) : Sf := fun ρ => (f ρ).bind fun p => match p.1 with
  | [a, b, c] => some (.nx (((p.2.set i a).set j b).set l c))
  | _ => none
theorem ds_par3 {f : Lf} {x y z : Str} {px py pz pt : Pos} {kt k2 pt2} {t1 t2 t3 : Ty} (i j l : Nat) (hc : X.calm = true) (hN : X.N.Nodup) (hi : X.N[i]? = some x) (hj : X.N[j]? = some y) (hl : X.N[l]? = some z) (hx : X.env.scope.names.lookup x = some .local) (hy : X.env.scope.names.lookup y = some .local) (hz : X.env.scope.names.lookup z = some .local) (ha : DL X [a, b, c] τ f [t1, t2, t3])
    (hw : swappedStores [.Tuple [.Name x px, .Name y py, .Name z pz] kt pt] (.Tuple [a, b, c] k2 pt2) X.env = pure (some [x, y, z])) (hij : i ≠ j := by decide) (hil : i ≠ l := by decide) (hjl : j ≠ l := by decide) (hit : i < τ.length := by decide) (hjt : j < τ.length := by decide) (hlt : l < τ.length := by decide) (hio : i ∉ γ.io := by decide) (hjo : j ∉ γ.io := by decide) (hlo : l ∉ γ.io := by decide)
    (hs : swapsWithSole [.Tuple [.Name x px, .Name y py, .Name z pz] kt pt] (.Tuple [a, b, c] k2 pt2) pos.line X.env = pure false := by rfl) :
    DS X γ (.Assign [.Tuple [.Name x px, .Name y py, .Name z pz] kt pt] (.Tuple [a, b, c] k2 pt2) pos) τ (sPar3 i j l f) (((τ.set i t1).set j t2).set l t3) := ps_imp (ps_par3 hc hN hi hj hl hij hil hjl hx hy hz ha hw hs) fun D σ H ⟨R, ρ, fs, o, s, e, q⟩ => by
  obtain ⟨w, e1, e2⟩ := bindO e
  obtain ⟨w1, w2⟩ := w
  match w1, e2 with
  | [d1, d2, d3], e2 =>
    cases e2
    refine ⟨R, ρ, fs, _, _, s, e1, fun vs H1 fs1 fv tt s1 r => ?_⟩
    have el := r.len
    match vs, r, el with
    | [v1, v2, v3], r, _ =>
      refine ⟨v1, v2, v3, rfl, ?_⟩
      obtain ⟨fs2, fw, s2, r2, sub2⟩ := s1.put2 hit r
      obtain ⟨fs3, fz, s3, r3, sub3⟩ := s2.put2 (by simpa using hjt) r2
      obtain ⟨fs4, fy, s4, r4, sub4⟩ := s3.put2 (by simpa using hlt) r3
      have ez : fy = [] := by cases r4; rfl
      subst ez
      refine q _ H1 fs4 (tt.less fun a ha => sub2 a (sub3 a (sub4 a ha))) (fun k hk => ?_) s4
      rw [List.getElem?_set_ne (by intro z; subst z; exact hlo hk), List.getElem?_set_ne (by intro z; subst z; exact hjo hk), List.getElem?_set_ne (by intro z; subst z; exact hio hk)]
    | [], _, el => simp at el
    | [_], _, el => simp at el
    | [_, _], _, el => simp at el
    | _ :: _ :: _ :: _ :: _, _, el => simp at el
  | [], e2 => cases e2
  | [_], e2 => cases e2
  | [_, _], e2 => cases e2
  | _ :: _ :: _ :: _ :: _, e2 => cases e2
end

/-! ### a def by its body -/
def runF (b : Sf) (n m : Nat) : Fm := fun ds => if ds.length = n then (b (ds ++ List.replicate m .non)).bind fun o => match o with
    | .rt d ρ' => some (d, ρ'.take n)
    | .nx ρ' => some (.non, ρ'.take n)
    | _ => none
  else none
theorem Sl.cut {K : PySem.W.Frag} {mg : Str → Option Value} {H G : Hp} : ∀ {τ1 : List Ty} {m : Nat} {ρ : Rho} {σ : L2.St} {f : List Addr}, Sl K mg H G (τ1 ++ List.replicate m .no) ρ σ f → Sl K mg H G τ1 (ρ.take τ1.length) (σ.take τ1.length) f
  | [], 0, _, _, _, s => by cases s; exact .nil
  | [], m + 1, _, _, _, s => by
    rw [List.nil_append, List.replicate_succ] at s
    cases s with
    | no s =>
      have := Sl.cut (τ1 := []) (m := m) s
      simpa using this
    | cons h s => cases h
  | t :: τ1, m, _, _, _, s => by
    cases s with
    | no s => exact .no (Sl.cut s)
    | cons h s => exact .cons h (Sl.cut s)
theorem Sl.pad {K : PySem.W.Frag} {mg : Str → Option Value} {H G : Hp} : ∀ {τ1 : List Ty} {m : Nat} {ρ : Rho} {σ : L2.St} {f : List Addr}, Sl K mg H G τ1 ρ σ f → Sl K mg H G (τ1 ++ List.replicate m .no) (ρ ++ List.replicate m .non) (σ ++ List.replicate m none) f
  | _, 0, _, _, _, s => by simpa using s
  | _, m + 1, _, _, _, .nil => by
    have := Sl.pad (m := m) (.nil (K := K) (mg := mg) (H := H) (G := G))
    simp only [List.nil_append, List.replicate_succ] at this ⊢
    exact .no this
  | _, m + 1, _, _, _, .no s => .no (Sl.pad s)
  | _, m + 1, _, _, _, .cons h s => .cons h (Sl.pad s)
section
variable {P : Program} {w : World} {K : PySem.W.Frag} {mg : Str → Option Value} {base : Heap} {x qual : Str} {st : Stmt} {f : Addr} {fd : FuncData} {N ps : List Str} {k : Nat}
theorem Kp.tk {io : List Nat} {σ σ' : L2.St} (h : Kp io σ σ') {i : Nat} (hi : i ∈ io) : σ'[i]? = σ[i]? := h i hi
/-- the slots of a def's changed parameters -/
def ioOf (l : List Ty) : List Nat := (List.range l.length).filter fun i => match l[i]? with
  | some .sh => false
  | some .no => false
  | _ => true
theorem fn_ok {b : Sf} {τ' : List Ty} (Fu : Fun K x qual st f fd) (S : FnScope N ps (defScope st)) (sg : Sg) (γ : Gm) (m : Nat) (hn : sg.ps.length = ps.length := by rfl) (hm : sg.ps.length + m = N.length := by rfl)
    (hio : γ.io = ioOf (sg.ps.map Ty.io) := by rfl) (hret : γ.ret = sg.ret := by rfl) (hrty : γ.rty = sg.ps.map Ty.io ++ List.replicate m .no := by rfl) (hnx : leTb γ.rty τ' = true := by rfl) (hfall : sg.ret = .sh ∨ ∀ ρ ρ', b ρ ≠ some (.nx ρ'))
    (hbody : ∀ (cdv : Value) (A : Around) (outer : List PySem.Env) (s : Shared) (H : Hp) (E : XK), Room k (A.deeper (envOfC qual (defScope st) s.heap.objs.size f cdv)) →
      DSs (cxOf CX0 P w K mg base N qual (defScope st) f cdv A outer s H E).nox γ (defBody st) (sg.ps ++ List.replicate m .no) b τ') :
    FnD P w K mg base (k + 1) f fd ps sg (runF b sg.ps.length m) := by
  refine Fu.ok S (fun vs H Q E ⟨R, ds, fs, d, ds', s, _⟩ => ?_) (fun cdv A outer s H vs Q E hr ⟨R, ds, fs, d, ds', sr, eF, q⟩ => ?_)
  · have := s.sl.len
    simp at this
    omega
  · unfold runF at eF
    have hvl : vs.length = sg.ps.length := by
      have := sr.sl.len
      simp at this
      omega
    by_cases hl : ds.length = sg.ps.length
    · rw [if_pos hl] at eF
      obtain ⟨out, e1, e2⟩ := bindO eF
      refine ⟨_, hbody cdv A outer s H E hr, R, ds ++ List.replicate m .non, fs, out, ⟨?_, sr.nd, sr.al⟩, e1, ?_⟩
      · have := sr.sl.pad (m := m)
        unfold L2.start
        rw [show N.length - vs.length = m by omega]
        exact this
      · have st0 : L2.start N vs = vs.map some ++ List.replicate m none := by
          unfold L2.start
          rw [show N.length - vs.length = m by omega]
        have fin : ∀ {v : V} {σ' : L2.St} {H' : Hp} {fs' fv : List Addr} {ρ' : Rho} {dd : D}, Step H H' fs (fv ++ fs') → Kp γ.io (L2.start N vs) σ' → SR K mg (fv ++ R) γ.rty ρ' σ' H' fs' → Rp K mg H' (hide (fv ++ R ++ fs') H') sg.ret dd v fv → dd = d → ρ'.take sg.ps.length = ds' → Q v H' := fun {v σ' H' fs' fv ρ' dd} t kp s' r e3 e4 => by
          subst e3
          refine q v H' fs' fv t ⟨?_, s'.nd, s'.al⟩ r
          have sl := s'.sl
          rw [hrty] at sl
          have sc := Sl.cut sl
          rw [List.length_map, e4] at sc
          have hl' := s'.sl.len
          rw [hrty] at hl'
          simp at hl'
          refine sc.congr rfl (by simp; omega) fun i t et nt => ⟨rfl, ?_⟩
          have hi : i < sg.ps.length := by
            have := (List.getElem?_eq_some_iff.mp et).1
            simpa using this
          have hmem : i ∈ γ.io := by
            rw [hio]
            unfold ioOf
            refine List.mem_filter.mpr ⟨by simpa using hi, ?_⟩
            rw [et]
            have : t ≠ .sh := by
              rw [List.getElem?_map] at et
              cases h : sg.ps[i]? with
              | none => rw [h] at et; cases et
              | some u =>
                rw [h] at et
                simp at et
                subst et
                cases u <;> simp [Ty.io]
            cases t <;> simp_all
          rw [List.getElem?_take_of_lt hi, kp i hmem, st0, List.getElem?_append_left (by simpa [hvl] using hi)]
        cases out with
        | rt dd ρ' =>
          have e2' := Option.some.inj e2
          exact fun v σ' H' fs' fv t kp s' r => fin t kp s' (by rw [hret] at r; exact r) (congrArg Prod.fst e2') (congrArg Prod.snd e2')
        | nx ρ' =>
          have e2' := Option.some.inj e2
          rcases hfall with hf | hf
          · exact fun σ' H' fs' t kp s' => by
              obtain ⟨fs2, s2, sub⟩ := s'.leT (leTb_ok hnx)
              exact fin (fv := []) (t.less sub) kp s2 (by rw [hf]; exact .sh .non) (congrArg Prod.fst e2') (congrArg Prod.snd e2')
          · exact absurd e1 (hf _ _)
        | bk ρ' => cases e2
        | ct ρ' => cases e2
    · rw [if_neg hl] at eF; cases eF
/-- a mirror in the place of the run -/
theorem FnD.of {sg : Sg} {F G : Fm} (h : FnD P w K mg base k f fd ps sg F) (le : ∀ ds r, G ds = some r → F ds = some r) : FnD P w K mg base k f fd ps sg G := h.imp fun vs H Q E ⟨R, ds, fs, d, ds', s, e, q⟩ => ⟨R, ds, fs, d, ds', s, le _ _ e, q⟩
theorem FnD.ofN {sg : Sg} {F : Nat → Fm} {G : Fm} (h : ∀ n, FnD P w K mg base k f fd ps sg (F n)) (le : ∀ ds r, G ds = some r → ∃ n, F n ds = some r) : FnD P w K mg base k f fd ps sg G where
  len := fun vs H Q E ⟨R, ds, fs, d, ds', s, e, q⟩ => by
    obtain ⟨n, e⟩ := le _ _ e
    exact (h n).len vs H Q E ⟨R, ds, fs, d, ds', s, e, q⟩
  run := fun A outer s H args us vs Q E hr e0 hb r ⟨R, ds, fs, d, ds', sr, e, q⟩ => by
    obtain ⟨n, e⟩ := le _ _ e
    exact (h n).run A outer s H args us vs Q E hr e0 hb r ⟨R, ds, fs, d, ds', sr, e, q⟩
end
end TL

namespace TL
open PySem PySem.Spec PyProof.Rows L2

/-! ### == on trees -/
mutual
def py : D → PyData
  | .non => .none
  | .bl b => .bool b
  | .int i => .int i
  | .str s => .str s
  | .tup l => .tuple (pys l)
  | .lst l => .list (pys l)
  | _ => .none
def pys : List D → List PyData
  | [] => []
  | d :: r => py d :: pys r
end
mutual
/-- Python's == -/
def dq : D → D → Bool
  | .non, .non => true
  | .bl a, .bl b => a == b
  | .bl a, .int j => (if a then 1 else 0) == j
  | .int i, .bl b => i == (if b then 1 else 0)
  | .int i, .int j => i == j
  | .str x, .str y => x == y
  | .lst xs, .lst ys => dqs xs ys
  | .tup xs, .tup ys => dqs xs ys
  | _, _ => false
def dqs : List D → List D → Bool
  | [], [] => true
  | x :: xs, y :: ys => dq x y && dqs xs ys
  | _, _ => false
end
def sOk (s : Str) : Bool := PyData.strOk s
def pyOk : Nat → D → Bool
  | _, .non => true
  | _, .bl _ => true
  | _, .int _ => true
  | _, .str s => sOk s
  | n + 1, .tup l => l.all (pyOk n)
  | n + 1, .lst l => l.all (pyOk n)
  | _, _ => false
theorem pyOk_ok : ∀ (n : Nat) (d : D), pyOk n d = true → (py d).canLay0 = true ∧ (py d).depth ≤ n
  | n, .non, _ => by simp [py, PyData.canLay0, PyData.depth]
  | n, .bl b, _ => by simp [py, PyData.canLay0, PyData.depth]
  | n, .int i, _ => by simp [py, PyData.canLay0, PyData.depth]
  | n, .str s, h => by
    refine ⟨?_, by simp [py, PyData.depth]⟩
    have : sOk s = true := by cases n <;> simpa [pyOk] using h
    simpa [py, PyData.canLay0, sOk] using this
  | n + 1, .tup l, h => by
    have hs : ∀ (l : List D), l.all (pyOk n) = true → PyData.canLayAll0 (pys l) = true ∧ PyData.depthAll (pys l) ≤ n := by
      intro l
      induction l with
      | nil => intro _; simp [pys, PyData.canLayAll0, PyData.depthAll]
      | cons d r ih =>
        intro h
        simp only [List.all_cons, Bool.and_eq_true] at h
        have h1 := pyOk_ok n d h.1
        have h2 := ih h.2
        simp only [pys, PyData.canLayAll0, PyData.depthAll, h1.1, h2.1, Bool.and_self, true_and]
        omega
    have := hs l (by simpa [pyOk] using h)
    simp only [py, PyData.canLay0, PyData.depth, this.1, true_and]
    omega
  | n + 1, .lst l, h => by
    have hs : ∀ (l : List D), l.all (pyOk n) = true → PyData.canLayAll0 (pys l) = true ∧ PyData.depthAll (pys l) ≤ n := by
      intro l
      induction l with
      | nil => intro _; simp [pys, PyData.canLayAll0, PyData.depthAll]
      | cons d r ih =>
        intro h
        simp only [List.all_cons, Bool.and_eq_true] at h
        have h1 := pyOk_ok n d h.1
        have h2 := ih h.2
        simp only [pys, PyData.canLayAll0, PyData.depthAll, h1.1, h2.1, Bool.and_self, true_and]
        omega
    have := hs l (by simpa [pyOk] using h)
    simp only [py, PyData.canLay0, PyData.depth, this.1, true_and]
    omega
  | 0, .tup l, h => by simp [pyOk] at h
  | 0, .lst l, h => by simp [pyOk] at h
  | 0, .dct l, h => by simp [pyOk] at h
  | 0, .dtt l, h => by simp [pyOk] at h
  | n + 1, .dct l, h => by simp [pyOk] at h
  | n + 1, .dtt l, h => by simp [pyOk] at h
  | 0, .set l, h => by simp [pyOk] at h
  | n + 1, .set l, h => by simp [pyOk] at h
  | 0, .obj c l, h => by simp [pyOk] at h
  | n + 1, .obj c l, h => by simp [pyOk] at h
  | 0, .scr l, h => by simp [pyOk] at h
  | n + 1, .scr l, h => by simp [pyOk] at h
/-- no dicts, sets, objects within -/
def plainD : Nat → D → Bool := pyOk
theorem eqv_dq : ∀ (n : Nat) (a b : D), pyOk n a = true → pyOk n b = true → PyData.eqv (py a) (py b) = dq a b := by
  have hl : ∀ (n : Nat), (∀ a b : D, pyOk n a = true → pyOk n b = true → PyData.eqv (py a) (py b) = dq a b) → ∀ l m : List D, l.all (pyOk n) = true → m.all (pyOk n) = true → PyData.eqvAll (pys l) (pys m) = dqs l m := by
    intro n ih l
    induction l with
    | nil => intro m _ _; cases m <;> simp [pys, PyData.eqvAll, dqs]
    | cons a l ihl =>
      intro m h1 h2
      cases m with
      | nil => simp [pys, PyData.eqvAll, dqs]
      | cons b m =>
        simp only [List.all_cons, Bool.and_eq_true] at h1 h2
        simp only [pys, PyData.eqvAll, dqs, ih a b h1.1 h2.1, ihl m h1.2 h2.2]
  intro n
  induction n with
  | zero =>
    intro a b ha hb
    cases a <;> cases b <;> first | (simp [pyOk] at ha; done) | (simp [pyOk] at hb; done) | simp [py, PyData.eqv, dq]
  | succ n ih =>
    intro a b ha hb
    cases a <;> cases b <;> first | (simp [pyOk] at ha; done) | (simp [pyOk] at hb; done) | (simp only [py, PyData.eqv, dq]; try rfl) | skip
    all_goals first | rfl | (exact hl n ih _ _ (by simpa [pyOk] using ha) (by simpa [pyOk] using hb)) | skip
def dEq (a b : D) : Option D := if pyOk 40 a && pyOk 40 b then some (.bl (dq a b)) else none
def dNe (a b : D) : Option D := if pyOk 40 a && pyOk 40 b then some (.bl (!dq a b)) else none
section
variable {K : PySem.W.Frag} {mg : Str → Option Value} {S : List Addr} {H G : Hp}
theorem dp_of (le : Le G H) : ∀ (n : Nat) {d : D} {v : V}, pyOk n d = true → Rf K mg G d v → Dp K H v (py d) := by
  have hl : ∀ n, (∀ {d : D} {v : V}, pyOk n d = true → Rf K mg G d v → Dp K H v (py d)) → ∀ {l : List D} {vs : List V}, l.all (pyOk n) = true → Rfs K mg G l vs → DpAll K H vs (pys l) := by
    intro n ih l
    induction l with
    | nil => intro vs _ r; cases r; exact .nil
    | cons a l ihl =>
      intro vs h r
      simp only [List.all_cons, Bool.and_eq_true] at h
      cases r with
      | cons r rs => exact .cons (ih h.1 r) (ihl h.2 rs)
  intro n
  induction n with
  | zero =>
    intro d v h r
    cases r with
    | non => exact .non
    | bl b => exact .bl b
    | int i => exact .int i
    | str s => exact .str s
    | _ => simp [pyOk] at h
  | succ n ih =>
    intro d v h r
    cases r with
    | non => exact .non
    | bl b => exact .bl b
    | int i => exact .int i
    | str s => exact .str s
    | tup hT r => exact .tup (le.seqT hT.t) (hl n ih (by simpa [pyOk] using h) r)
    | lst hL r => exact .lst (.of (le _ _ hL)) (hl n ih (by simpa [pyOk] using h) r)
    | _ => simp [pyOk] at h
theorem Rv.dp {n : Nat} {d : D} {v : V} (r : Rv K mg S H d v) (h : pyOk n d = true) : Dp K H v (py d) := by
  have w := r.whole
  have eq : hide [] H = H := by funext a; simp [hide]
  rw [eq] at w
  exact dp_of (Le.refl H) n h w
theorem shaped_of {d : D} (h : pyOk 40 d = true) : SeqAt.shaped (py d) = true := by
  have := pyOk_ok 40 d h
  unfold SeqAt.shaped
  rw [this.1, Bool.true_and]
  exact decide_eq_true (by omega)
end
theorem Room.u64 {k : Nat} {A : Around} (r : Room k A) : A.units + 65 < cLine := by
  have := r.un
  omega
section
variable {X : Cx}
theorem od_eq : OpD X (rEqD X.K) dEq := fun S H d1 d2 d v1 v2 Q al r1 r2 e q => by
  obtain ⟨h, e⟩ := ifSome' e
  subst e
  rw [Bool.and_eq_true] at h
  exact ⟨_, _, r1.dp h.1, r2.dp h.2, shaped_of h.1, shaped_of h.2, by rw [eqv_dq 40 _ _ h.1 h.2]; exact q _ H (Grow.refl H) (.bl _)⟩
theorem od_ne : OpD X (rNeD X.K) dNe := fun S H d1 d2 d v1 v2 Q al r1 r2 e q => by
  obtain ⟨h, e⟩ := ifSome' e
  subst e
  rw [Bool.and_eq_true] at h
  exact ⟨_, _, r1.dp h.1, r2.dp h.2, shaped_of h.1, shaped_of h.2, by rw [eqv_dq 40 _ _ h.1 h.2]; exact q _ H (Grow.refl H) (.bl _)⟩

/-! ### arithmetic -/
def ii (C : Int → Int → Bool) (g : Int → Int → D) : D → D → Option D
  | .int i, .int j => if C i j then some (g i j) else none
  | _, _ => none
theorem od_ii {C : Int → Int → Bool} {P : Int → Int → Prop} {g : Int → Int → D} {gv : Int → Int → V} (hC : ∀ i j, C i j = true → P i j) (hg : ∀ i j K mg G, Rf K mg G (g i j) (gv i j)) : OpD X (rI P gv) (ii C g) := fun S H d1 d2 d v1 v2 Q al r1 r2 e q => by
  cases d1 <;> cases d2 <;> first | (cases e; done) | skip
  obtain ⟨h, e⟩ := ifSome' e
  subst e
  exact ⟨_, _, r1.int_inv, r2.int_inv, hC _ _ h, q _ H (Grow.refl H) (hg _ _ _ _ _)⟩
def ii0 (g : Int → Int → D) : D → D → Option D
  | .int i, .int j => some (g i j)
  | _, _ => none
theorem od_ii0 {g : Int → Int → D} {gv : Int → Int → V} (hg : ∀ i j K mg G, Rf K mg G (g i j) (gv i j)) : OpD X (rI0 gv) (ii0 g) := fun S H d1 d2 d v1 v2 Q al r1 r2 e q => by
  cases d1 <;> cases d2 <;> first | (cases e; done) | skip
  cases e
  exact ⟨_, _, r1.int_inv, r2.int_inv, q _ H (Grow.refl H) (hg _ _ _ _ _)⟩
def sm (i : Int) : Bool := Nat.ble i.natAbs 999999999999999999999999999999
theorem sm_lt {i : Int} (h : sm i = true) : i.natAbs < 2 ^ 100 := by
  have h1 : i.natAbs ≤ 999999999999999999999999999999 := Nat.le_of_ble_eq_true h
  have : (2 : Nat) ^ 100 = 1267650600228229401496703205376 := by decide
  rw [this]
  omega
def dSub := ii0 fun i j => .int (i - j)
def dMulI := ii (fun i j => sm i && sm j) fun i j => .int (i * j)
def dDiv := ii (fun _ j => decide (0 < j) && sm j) fun i j => .int (i / j)
def dMod := ii (fun _ j => decide (0 < j)) fun i j => .int (i % j)
def dPow := ii (fun i j => sm i && decide (0 ≤ j) && decide (j ≤ 1000) && decide (i.natAbs < 18446744073709551616)) fun i j => .int (i ^ j.toNat)
def dLt := ii0 fun i j => .bl (decide (i < j))
def dLe := ii0 fun i j => .bl (decide (i ≤ j))
def dGt := ii0 fun i j => .bl (decide (j < i))
def dGe := ii0 fun i j => .bl (decide (j ≤ i))
theorem od_sub : OpD X (rI0 fun i j => .int (i - j)) dSub := od_ii0 fun i j _ _ _ => .int _
theorem od_lt : OpD X (rI0 fun i j => .bl (decide (i < j))) dLt := od_ii0 fun i j _ _ _ => .bl _
theorem od_le : OpD X (rI0 fun i j => .bl (decide (i ≤ j))) dLe := od_ii0 fun i j _ _ _ => .bl _
theorem od_gt : OpD X (rI0 fun i j => .bl (decide (j < i))) dGt := od_ii0 fun i j _ _ _ => .bl _
theorem od_ge : OpD X (rI0 fun i j => .bl (decide (j ≤ i))) dGe := od_ii0 fun i j _ _ _ => .bl _
theorem od_mulI : OpD X (rI CMulW fun i j => .int (i * j)) dMulI := od_ii (fun i j h => by
  rw [Bool.and_eq_true] at h
  exact wide_mul (sm_lt h.1) (sm_lt h.2) (by decide) (by decide) (by decide)) fun i j _ _ _ => .int _
theorem od_div : OpD X (rI CDivW fun i j => .int (i / j)) dDiv := od_ii (fun i j h => by
  rw [Bool.and_eq_true] at h
  exact wide_div (of_decide_eq_true h.1) (sm_lt h.2) (by decide) (by decide)) fun i j _ _ _ => .int _
theorem od_mod : OpD X (rI (fun _ j => 0 < j) fun i j => .int (i % j)) dMod := od_ii (fun i j h => of_decide_eq_true h) fun i j _ _ _ => .int _
theorem od_pow : OpD X (rI CPow fun i j => .int (i ^ j.toNat)) dPow := od_ii (fun i j h => by
  simp only [Bool.and_eq_true, decide_eq_true_eq] at h
  exact ⟨h.1.1.2, by omega, h.2⟩) fun i j _ _ _ => .int _
/-! + -/
def dAdd : D → D → Option D
  | .int i, .int j => some (.int (i + j))
  | .str s, .str t => if okLen (s.length + t.length) then some (.str (s ++ t)) else none
  | .tup l, .tup m => if okLen (l.length + m.length) then some (.tup (l ++ m)) else none
  | .lst l, .lst m => if okLen (l.length + m.length) then some (.lst (l ++ m)) else none
  | _, _ => none
theorem al_not {S : List Addr} {H : Hp} {p : Addr} (al : ∀ a ∈ S, ∃ o, H a = some o ∧ Own o) (hp : H p = none) : p ∉ S := fun z => by
  obtain ⟨o, e, _⟩ := al p z
  rw [hp] at e; cases e
theorem new_tup {K : PySem.W.Frag} {mg : Str → Option Value} {S : List Addr} {H : Hp} {p : Addr} {vs : List V} {ds : List D} (al : ∀ a ∈ S, ∃ o, H a = some o ∧ Own o) (hp : H p = none) (r : Rfs K mg (hide S H) ds vs) : Rf K mg (hide S (upd H p (.tup vs))) (.tup ds) (.ref p) :=
  .tup (.of (hide_some.mpr ⟨al_not al hp, upd_same⟩)) (r.mono (hide_grow _ (Grow.upd hp)))
theorem new_lst {K : PySem.W.Frag} {mg : Str → Option Value} {S : List Addr} {H : Hp} {p : Addr} {vs : List V} {ds : List D} (al : ∀ a ∈ S, ∃ o, H a = some o ∧ Own o) (hp : H p = none) (r : Rfs K mg (hide S H) ds vs) : Rf K mg (hide S (upd H p (.lst vs))) (.lst ds) (.ref p) :=
  .lst (hide_some.mpr ⟨al_not al hp, upd_same⟩) (r.mono (hide_grow _ (Grow.upd hp)))
abbrev rAddD (K : PySem.W.Frag) : R2 := fun x y H Q => (∃ i j, x = .int i ∧ y = .int j ∧ Q (.int (i + j)) H) ∨ (∃ i j, x = .str i ∧ y = .str j ∧ i.length + j.length ≤ sizeLine ∧ Q (.str (i ++ j)) H) ∨ rCatA K x y H Q ∨ rCat x y H Q
theorem op_addD : OpR X (binaryOp .Add) (rAddD X.K) := OpR.or op_add (OpR.or op_add_str (OpR.or op_catA op_cat))
theorem od_add : OpD X (rAddD X.K) dAdd := fun S H d1 d2 d v1 v2 Q al r1 r2 e q => by
  cases d1 <;> cases d2 <;> first | (cases e; done) | skip
  · cases e
    exact .inl ⟨_, _, r1.int_inv, r2.int_inv, q _ H (Grow.refl H) (.int _)⟩
  · obtain ⟨h, e⟩ := ifSome' e
    subst e
    exact .inr (.inl ⟨_, _, r1.str_inv, r2.str_inv, okLen_le h, q _ H (Grow.refl H) (.str _)⟩)
  · obtain ⟨h, e⟩ := ifSome' e
    subst e
    obtain ⟨a, vs, rfl, h1, h1', q1⟩ := r1.tup_inv
    obtain ⟨b, ws, rfl, h2, h2', q2⟩ := r2.tup_inv
    refine .inr (.inr (.inl ⟨a, b, vs, ws, rfl, rfl, h1, h2, by rw [← q1.length, ← q2.length]; exact okLen_le h, fun z => ?_, fun z1 z2 => ?_, fun z1 z2 p hp => ?_⟩))
    · subst z
      cases q1
      exact q _ H (Grow.refl H) (.tup h2' q2)
    · subst z2
      cases q2
      rw [List.append_nil] at q
      exact q _ H (Grow.refl H) (.tup h1' q1)
    · exact q _ _ (Grow.upd hp) (new_tup al hp (q1.append q2))
  · obtain ⟨h, e⟩ := ifSome' e
    subst e
    obtain ⟨a, vs, rfl, h1, q1⟩ := r1.lst_inv
    obtain ⟨b, ws, rfl, h2, q2⟩ := r2.lst_inv
    exact .inr (.inr (.inr ⟨a, b, vs, ws, rfl, rfl, h1, h2, by rw [← q1.length, ← q2.length]; exact okLen_le h, fun p hp => q _ _ (Grow.upd hp) (new_lst al hp (q1.append q2))⟩))
def dAddL : D → D → Option (List D)
  | .lst l, .lst m => if okLen (l.length + m.length) then some (l ++ m) else none
  | _, _ => none
theorem oo_add : OpO X rCat dAddL := fun S H d1 d2 d v1 v2 Q al r1 r2 e q => by
  cases d1 <;> cases d2 <;> first | (cases e; done) | skip
  obtain ⟨h, e⟩ := ifSome' e
  subst e
  obtain ⟨a, vs, rfl, h1, q1⟩ := r1.lst_inv
  obtain ⟨b, ws, rfl, h2, q2⟩ := r2.lst_inv
  exact ⟨a, b, vs, ws, rfl, rfl, h1, h2, by rw [← q1.length, ← q2.length]; exact okLen_le h, fun p hp => q p _ hp (q1.append q2)⟩
/-! * -/
def repL (l : List D) (k : Nat) : List D := (List.replicate k l).flatten
def dMul : D → D → Option D
  | .int i, .int j => if sm i && sm j then some (.int (i * j)) else none
  | .lst l, .int k => if small62 k && okLen (l.length * k.toNat) then some (.lst (repL l k.toNat)) else none
  | .tup l, .int k => if !l.isEmpty && decide (2 ≤ k) && decide (k ≤ 1000) && decide (l.length ≤ 1000) then some (.tup (repL l k.toNat)) else none
  | _, _ => none
abbrev rMulD (K : PySem.W.Frag) : R2 := fun x y H Q => (rI CMulW fun i j => .int (i * j)) x y H Q ∨ rRep x y H Q ∨ rRepT K x y H Q
theorem op_mulD : OpR X (binaryOp .Mult) (rMulD X.K) := OpR.or op_mulW (OpR.or op_rep op_repT)
theorem od_mul : OpD X (rMulD X.K) dMul := fun S H d1 d2 d v1 v2 Q al r1 r2 e q => by
  cases d1 <;> cases d2 <;> first | (cases e; done) | skip
  · exact .inl (od_mulI S H _ _ _ _ _ Q al r1 r2 e q)
  · obtain ⟨h, e⟩ := ifSome' e
    subst e
    simp only [Bool.and_eq_true, decide_eq_true_eq, Bool.not_eq_true'] at h
    obtain ⟨a, vs, rfl, h1, h1', q1⟩ := r1.tup_inv
    refine .inr (.inr ⟨a, _, vs, rfl, r2.int_inv, h1, fun z => ?_, h.1.1.2, h.1.2, by rw [← q1.length]; exact h.2, fun p hp => q _ _ (Grow.upd hp) (new_tup al hp (q1.rep _))⟩)
    subst z
    cases q1
    simp at h
  · obtain ⟨h, e⟩ := ifSome' e
    subst e
    rw [Bool.and_eq_true] at h
    obtain ⟨a, vs, rfl, h1, q1⟩ := r1.lst_inv
    have h3 := small62_of h.1
    exact .inr (.inl ⟨a, _, vs, rfl, r2.int_inv, h1, by omega, by omega, by rw [← q1.length]; exact okLen_le h.2, fun p hp => q _ _ (Grow.upd hp) (new_lst al hp (q1.rep _))⟩)
def dMulL : D → D → Option (List D)
  | .lst l, .int k => if small62 k && okLen (l.length * k.toNat) then some (repL l k.toNat) else none
  | _, _ => none
theorem oo_mul : OpO X rRep dMulL := fun S H d1 d2 d v1 v2 Q al r1 r2 e q => by
  cases d1 <;> cases d2 <;> first | (cases e; done) | skip
  obtain ⟨h, e⟩ := ifSome' e
  subst e
  rw [Bool.and_eq_true] at h
  obtain ⟨a, vs, rfl, h1, q1⟩ := r1.lst_inv
  have h3 := small62_of h.1
  exact ⟨a, _, vs, rfl, r2.int_inv, h1, by omega, by omega, by rw [← q1.length]; exact okLen_le h.2, fun p hp => q p _ hp (q1.rep _)⟩
/-! unary minus -/
def dNeg : D → Option D
  | .int i => some (.int (-i))
  | _ => none
theorem ud_neg : UnD X (rU fun i => .int (-i)) dNeg := fun S H d1 d v1 Q al r1 e q => by
  cases d1 <;> first | (cases e; done) | skip
  cases e
  exact ⟨_, r1.int_inv, q _ H (Grow.refl H) (.int _)⟩
/-! is None, is True -/
def isNonD : D → Bool
  | .non => true
  | _ => false
def dIs : D → D → Option D
  | a, .non => some (.bl (isNonD a))
  | .bl a, .bl b => some (.bl (decide (a = b)))
  | _, _ => none
def dIsNot : D → D → Option D
  | a, .non => some (.bl (!isNonD a))
  | .bl a, .bl b => some (.bl (!decide (a = b)))
  | _, _ => none
abbrev rIsD : R2 := fun x y H Q => (y = .non ∧ Q (.bl (decide (x = .non))) H) ∨ rIsB x y H Q
abbrev rIsNotD : R2 := fun x y H Q => (y = .non ∧ Q (.bl (!decide (x = .non))) H) ∨ rNotB x y H Q
theorem op_isD : OpR X (compareOp .Is) rIsD := OpR.or op_isN op_isBl
theorem op_isNotD : OpR X (compareOp .IsNot) rIsNotD := OpR.or op_notN op_notBl
theorem Rv.isNon {K : PySem.W.Frag} {mg : Str → Option Value} {S : List Addr} {H : Hp} {d : D} {v : V} (r : Rv K mg S H d v) : decide (v = .non) = isNonD d := by
  cases r with
  | rf r => cases r <;> rfl
  | lst _ _ => rfl
  | dK _ _ _ => rfl
  | dT _ _ _ => rfl
theorem od_is : OpD X rIsD dIs := fun S H d1 d2 d v1 v2 Q al r1 r2 e q => by
  cases d2 with
  | non => 
    have e' : some (D.bl (isNonD d1)) = some d := by
      cases d1 <;> exact e
    cases e'
    exact .inl ⟨r2.non_inv, by rw [r1.isNon]; exact q _ H (Grow.refl H) (.bl _)⟩
  | bl b =>
    cases d1 <;> first | (cases e; done) | skip
    cases e
    exact .inr ⟨_, _, r1.bl_inv, r2.bl_inv, q _ H (Grow.refl H) (.bl _)⟩
  | _ => cases d1 <;> cases e
theorem od_isNot : OpD X rIsNotD dIsNot := fun S H d1 d2 d v1 v2 Q al r1 r2 e q => by
  cases d2 with
  | non => 
    have e' : some (D.bl (!isNonD d1)) = some d := by
      cases d1 <;> exact e
    cases e'
    exact .inl ⟨r2.non_inv, by rw [r1.isNon]; exact q _ H (Grow.refl H) (.bl _)⟩
  | bl b =>
    cases d1 <;> first | (cases e; done) | skip
    cases e
    exact .inr ⟨_, _, r1.bl_inv, r2.bl_inv, q _ H (Grow.refl H) (.bl _)⟩
  | _ => cases d1 <;> cases e
/-! subscripts -/
theorem ifSomeO {α : Type} {c : Bool} {x : Option α} {r : α} (e : (if c then x else none) = some r) : c = true ∧ x = some r := by
  cases c with
  | true => exact ⟨rfl, by simpa using e⟩
  | false => cases e
def atD (l : List D) (i : Int) : Option D := atI l i
theorem Rfs.atI {K : PySem.W.Frag} {mg : Str → Option Value} {G : Hp} {ds : List D} {vs : List V} {i : Int} {d : D} (r : Rfs K mg G ds vs) (e : L2.atI ds i = some d) : ∃ v, L2.atI vs i = some v ∧ Rf K mg G d v := by
  unfold L2.atI at e ⊢
  rw [← r.length]
  obtain ⟨j, e1, e2⟩ := bindO e
  rw [e1]
  exact r.get e2
def dIx : D → D → Option D
  | .lst l, .int i => atI l i
  | .tup l, .int i => atI l i
  | .str z, .int i => if okLen z.length then (atI z.cps.toList i).map fun c => .str ⟨#[c]⟩ else none
  | _, _ => none
theorem od_ix : OpD X (rIx X.K) dIx := fun S H d1 d2 d v1 v2 Q al r1 r2 e q => by
  cases d1 <;> cases d2 <;> first | (cases e; done) | skip
  · rename_i z i
    obtain ⟨h, e⟩ := ifSomeO (show (if okLen z.length then (atI z.cps.toList i).map fun c => D.str ⟨#[c]⟩ else none) = some d from e)
    cases hc : atI z.cps.toList i with
    | none => rw [hc] at e; cases e
    | some c =>
      rw [hc] at e
      cases e
      exact .inr (.inr ⟨z, i, c, r1.str_inv, r2.int_inv, okLen_le h, hc, q _ H (Grow.refl H) (.str _)⟩)
  · obtain ⟨a, vs, rfl, h1, h1', q1⟩ := r1.tup_inv
    obtain ⟨v, ev, rv⟩ := q1.atI (show L2.atI _ _ = some d from e)
    exact .inr (.inl ⟨a, vs, _, v, rfl, r2.int_inv, h1, ev, q v H (Grow.refl H) rv⟩)
  · obtain ⟨a, vs, rfl, h1, q1⟩ := r1.lst_inv
    obtain ⟨v, ev, rv⟩ := q1.atI (show L2.atI _ _ = some d from e)
    exact .inl ⟨a, vs, _, v, rfl, r2.int_inv, .of h1, ev, q v H (Grow.refl H) rv⟩
/-! slices -/
def cutD (l : List D) (lo hi : Option Int) : List D := (l.drop (HT.sIx l.length 0 lo)).take (HT.sIx l.length l.length hi - HT.sIx l.length 0 lo)
theorem Rfs.cut {K : PySem.W.Frag} {mg : Str → Option Value} {G : Hp} {ds : List D} {vs : List V} (r : Rfs K mg G ds vs) (lo hi : Option Int) : Rfs K mg G (cutD ds lo hi) (cutV vs lo hi) := by
  unfold cutD cutV
  rw [← r.length]
  exact (r.drop _).take _
def dSl : D → Option Int → Option Int → Option D
  | .tup l, lo, hi => some (.tup (cutD l lo hi))
  | .lst l, lo, hi => some (.lst (cutD l lo hi))
  | _, _, _ => none
abbrev rSlD (K : PySem.W.Frag) : V → Option Int → Option Int → Hp → VK → Prop := fun x lo hi H Q => rSlA K x lo hi H Q ∨ rSlL K x lo hi H Q
theorem sl_D : SlR X (rSlD X.K) := SlR.or sl_tupA sl_list
theorem sd_sl : SlD X (rSlD X.K) dSl := fun S H d1 d lo hi v1 Q al r1 e q => by
  cases d1 <;> first | (cases e; done) | skip
  · cases e
    obtain ⟨a, vs, rfl, h1, h1', q1⟩ := r1.tup_inv
    refine .inl ⟨a, vs, rfl, h1, fun z => ?_, fun z p hp => q _ _ (Grow.upd hp) (new_tup al hp (q1.cut lo hi))⟩
    have ec : ∀ {ds : List D}, ds.length = vs.length → cutD ds lo hi = ds := fun {ds} hl => by
      unfold cutD
      rw [hl, z.1, z.2]
      simp [← hl]
    rw [ec q1.length] at q
    exact q _ H (Grow.refl H) (.tup h1' q1)
  · cases e
    obtain ⟨a, vs, rfl, h1, q1⟩ := r1.lst_inv
    exact .inr ⟨a, vs, rfl, .of h1, fun p hp => q _ _ (Grow.upd hp) (new_lst al hp (q1.cut lo hi))⟩
def dSlL : D → Option Int → Option Int → Option (List D)
  | .lst l, lo, hi => some (cutD l lo hi)
  | _, _, _ => none
theorem so_sl : SlO X (rSlL X.K) dSlL := fun S H d1 d lo hi v1 Q al r1 e q => by
  cases d1 <;> first | (cases e; done) | skip
  cases e
  obtain ⟨a, vs, rfl, h1, q1⟩ := r1.lst_inv
  exact ⟨a, vs, rfl, .of h1, fun p hp => q p _ hp (q1.cut lo hi)⟩
/-! ### built-ins -/
theorem Rvs.one {K : PySem.W.Frag} {mg : Str → Option Value} {S : List Addr} {H : Hp} {d : D} {vs : List V} (r : Rvs K mg S H [d] vs) : ∃ v, vs = [v] ∧ Rv K mg S H d v := by
  cases r with
  | cons r rs => cases rs; exact ⟨_, rfl, r⟩
theorem Rvs.two {K : PySem.W.Frag} {mg : Str → Option Value} {S : List Addr} {H : Hp} {d e : D} {vs : List V} (r : Rvs K mg S H [d, e] vs) : ∃ v w, vs = [v, w] ∧ Rv K mg S H d v ∧ Rv K mg S H e w := by
  cases r with
  | cons r rs =>
    cases rs with
    | cons r2 rs => cases rs; exact ⟨_, _, rfl, r, r2⟩
/-- a function of one argument, on argument lists -/
def f1 (g : D → Option D) : List D → Option D
  | [d] => g d
  | _ => none
def f1L (g : D → Option (List D)) : List D → Option (List D)
  | [d] => g d
  | _ => none
theorem ca1 {r : List V → Hp → VK → Prop} {g : D → Option D} (h : ∀ (S : List Addr) (H : Hp) (d1 d : D) (v1 : V) (Q : VK), (∀ a ∈ S, ∃ o, H a = some o ∧ Own o) → Rv X.K X.mg S H d1 v1 → g d1 = some d → (∀ v H', Grow H H' → Rf X.K X.mg (hide S H') d v → Q v H') → r [v1] H Q) : CaD X r (f1 g) := fun S H ds d vs Q al r1 e q => by
  match ds, r1, e with
  | [d1], r1, e =>
    obtain ⟨v, rfl, r2⟩ := r1.one
    exact h S H d1 d v Q al r2 e q
  | [], _, e => cases e
  | _ :: _ :: _, _, e => cases e
theorem co1 {r : List V → Hp → VK → Prop} {g : D → Option (List D)} (h : ∀ (S : List Addr) (H : Hp) (d1 : D) (d : List D) (v1 : V) (Q : VK), (∀ a ∈ S, ∃ o, H a = some o ∧ Own o) → Rv X.K X.mg S H d1 v1 → g d1 = some d → (∀ p H1 vs, Grow H H1 → H1 p = none → Rfs X.K X.mg (hide S H1) d vs → Q (.ref p) (upd H1 p (.lst vs))) → r [v1] H Q) : CaO X r (f1L g) := fun S H ds d vs Q al r1 e q => by
  match ds, r1, e with
  | [d1], r1, e =>
    obtain ⟨v, rfl, r2⟩ := r1.one
    exact h S H d1 d v Q al r2 e q
  | [], _, e => cases e
  | _ :: _ :: _, _, e => cases e
def lenD : D → Option D
  | .str s => if okLen s.length then some (.int s.length) else none
  | .tup l => some (.int l.length)
  | .lst l => some (.int l.length)
  | _ => none
abbrev rLen (K : PySem.W.Frag) : List V → Hp → VK → Prop := fun xs H Q => ∃ x n, xs = [x] ∧ LenV K x H n ∧ Q (.int n) H
theorem ca_len : CaD X (rLen X.K) (f1 lenD) := ca1 fun S H d1 d v1 Q al r1 e q => by
  cases d1 <;> first | (cases e; done) | skip
  · obtain ⟨h, e⟩ := ifSome' e
    subst e
    rw [r1.str_inv]
    exact ⟨_, _, rfl, ⟨okLen_le h, rfl⟩, q _ H (Grow.refl H) (.int _)⟩
  · cases e
    obtain ⟨a, vs, rfl, h1, h1', q1⟩ := r1.tup_inv
    refine ⟨_, _, rfl, .inr ⟨vs, h1, rfl⟩, ?_⟩
    rw [← q1.length]
    exact q _ H (Grow.refl H) (.int _)
  · cases e
    obtain ⟨a, vs, rfl, h1, q1⟩ := r1.lst_inv
    refine ⟨_, _, rfl, .inl ⟨vs, .of h1, rfl⟩, ?_⟩
    rw [← q1.length]
    exact q _ H (Grow.refl H) (.int _)
def absD : D → Option D
  | .int i => some (.int (if i < 0 then -i else i))
  | _ => none
theorem ca_abs : CaD X (fun xs H Q => ∃ i, xs = [.int i] ∧ Q (.int (if i < 0 then -i else i)) H) (f1 absD) := ca1 fun S H d1 d v1 Q al r1 e q => by
  cases d1 <;> first | (cases e; done) | skip
  cases e
  exact ⟨_, by rw [r1.int_inv], q _ H (Grow.refl H) (.int _)⟩
def intD : D → Option D
  | .int i => some (.int i)
  | .bl k => some (.int (if k then 1 else 0))
  | _ => none
theorem ca_int : CaD X (fun xs H Q => (∃ i, xs = [.int i] ∧ Q (.int i) H) ∨ ∃ k, xs = [.bl k] ∧ Q (.int (if k then 1 else 0)) H) (f1 intD) := ca1 fun S H d1 d v1 Q al r1 e q => by
  cases d1 <;> first | (cases e; done) | skip
  · cases e
    exact .inr ⟨_, by rw [r1.bl_inv], q _ H (Grow.refl H) (.int _)⟩
  · cases e
    exact .inl ⟨_, by rw [r1.int_inv], q _ H (Grow.refl H) (.int _)⟩
def f2 (g : D → D → Option D) : List D → Option D
  | [a, b] => g a b
  | _ => none
def max2D : D → D → Option D
  | .int i, .int j => some (.int (if j > i then j else i))
  | _, _ => none
def min2D : D → D → Option D
  | .int i, .int j => some (.int (if j < i then j else i))
  | _, _ => none
theorem ca2 {r : List V → Hp → VK → Prop} {g : D → D → Option D} (h : ∀ (S : List Addr) (H : Hp) (d1 d2 d : D) (v1 v2 : V) (Q : VK), (∀ a ∈ S, ∃ o, H a = some o ∧ Own o) → Rv X.K X.mg S H d1 v1 → Rv X.K X.mg S H d2 v2 → g d1 d2 = some d → (∀ v H', Grow H H' → Rf X.K X.mg (hide S H') d v → Q v H') → r [v1, v2] H Q) : CaD X r (f2 g) := fun S H ds d vs Q al r1 e q => by
  match ds, r1, e with
  | [d1, d2], r1, e =>
    obtain ⟨v, w, rfl, r2, r3⟩ := r1.two
    exact h S H d1 d2 d v w Q al r2 r3 e q
  | [], _, e => cases e
  | [_], _, e => cases e
  | _ :: _ :: _ :: _, _, e => cases e
theorem ca_max2 : CaD X (fun xs H Q => ∃ i j, xs = [.int i, .int j] ∧ Q (.int (if j > i then j else i)) H) (f2 max2D) := ca2 fun S H d1 d2 d v1 v2 Q al r1 r2 e q => by
  cases d1 <;> cases d2 <;> first | (cases e; done) | skip
  cases e
  rw [r1.int_inv, r2.int_inv]
  exact ⟨_, _, rfl, q _ H (Grow.refl H) (.int _)⟩
theorem ca_min2 : CaD X (fun xs H Q => ∃ i j, xs = [.int i, .int j] ∧ Q (.int (if j < i then j else i)) H) (f2 min2D) := ca2 fun S H d1 d2 d v1 v2 Q al r1 r2 e q => by
  cases d1 <;> cases d2 <;> first | (cases e; done) | skip
  cases e
  rw [r1.int_inv, r2.int_inv]
  exact ⟨_, _, rfl, q _ H (Grow.refl H) (.int _)⟩
/-- a list of ints, of bools -/
def getInts : List D → Option (List Int)
  | [] => some []
  | .int i :: r => (getInts r).map (i :: ·)
  | _ :: _ => none
theorem getInts_map : ∀ {l : List D} {ns : List Int}, getInts l = some ns → l = ns.map D.int
  | [], _, e => by cases e; rfl
  | .int i :: r, _, e => by
    unfold getInts at e
    cases h : getInts r with
    | none => rw [h] at e; cases e
    | some ns => rw [h] at e; cases e; rw [getInts_map h]; rfl
  | .non :: _, _, e => by cases e
  | .bl _ :: _, _, e => by cases e
  | .str _ :: _, _, e => by cases e
  | .tup _ :: _, _, e => by cases e
  | .lst _ :: _, _, e => by cases e
  | .dct _ :: _, _, e => by cases e
  | .dtt _ :: _, _, e => by cases e
  | .set _ :: _, _, e => by cases e
  | .obj _ _ :: _, _, e => by cases e
  | .scr _ :: _, _, e => by cases e
@[simp] theorem getInts_of (ns : List Int) : getInts (ns.map D.int) = some ns := by
  induction ns with
  | nil => rfl
  | cons n r ih => simp [getInts, ih]
def getBls : List D → Option (List Bool)
  | [] => some []
  | .bl i :: r => (getBls r).map (i :: ·)
  | _ :: _ => none
theorem getBls_map : ∀ {l : List D} {ns : List Bool}, getBls l = some ns → l = ns.map D.bl
  | [], _, e => by cases e; rfl
  | .bl i :: r, _, e => by
    unfold getBls at e
    cases h : getBls r with
    | none => rw [h] at e; cases e
    | some ns => rw [h] at e; cases e; rw [getBls_map h]; rfl
  | .non :: _, _, e => by cases e
  | .int _ :: _, _, e => by cases e
  | .str _ :: _, _, e => by cases e
  | .tup _ :: _, _, e => by cases e
  | .lst _ :: _, _, e => by cases e
  | .dct _ :: _, _, e => by cases e
  | .dtt _ :: _, _, e => by cases e
  | .set _ :: _, _, e => by cases e
  | .obj _ _ :: _, _, e => by cases e
  | .scr _ :: _, _, e => by cases e
@[simp] theorem getBls_of (ns : List Bool) : getBls (ns.map D.bl) = some ns := by
  induction ns with
  | nil => rfl
  | cons n r ih => simp [getBls, ih]
def sumD : D → Option D
  | .lst l => (getInts l).map fun ns => .int ns.sum
  | _ => none
theorem mapO {α β : Type} {x : Option α} {f : α → β} {r : β} (e : x.map f = some r) : ∃ a, x = some a ∧ f a = r := by
  cases x with
  | none => cases e
  | some a => exact ⟨a, rfl, Option.some.inj e⟩
theorem ca_sum : CaD X (rSum X.K) (f1 sumD) := ca1 fun S H d1 d v1 Q al r1 e q => by
  cases d1 <;> first | (cases e; done) | skip
  obtain ⟨ns, e1, rfl⟩ := mapO (show (getInts _).map _ = some d from e)
  have := getInts_map e1
  subst this
  obtain ⟨a, vs, rfl, h1, q1⟩ := r1.lst_inv
  have := q1.ints
  subst this
  exact ⟨a, ns, rfl, .of h1, q _ H (Grow.refl H) (.int _)⟩
def lmax : List Int → Option Int
  | [] => none
  | a :: r => some (r.foldl (fun m x => if x > m then x else m) a)
def lmin : List Int → Option Int
  | [] => none
  | a :: r => some (r.foldl (fun m x => if x < m then x else m) a)
theorem lmax_spec : ∀ (r : List Int) (a : Int), r.foldl (fun m x => if x > m then x else m) a ∈ a :: r ∧ ∀ y ∈ a :: r, y ≤ r.foldl (fun m x => if x > m then x else m) a
  | [], a => ⟨by simp, by simp⟩
  | b :: r, a => by
    have := lmax_spec r (if b > a then b else a)
    simp only [List.foldl_cons]
    refine ⟨?_, fun y hy => ?_⟩
    · have h := this.1
      simp only [List.mem_cons] at h ⊢
      by_cases c : b > a
      · simp only [c, if_true] at h ⊢
        rcases h with h | h <;> simp [h]
      · simp only [c, if_false] at h ⊢
        rcases h with h | h <;> simp [h]
    · have h := this.2
      have h0 := h (if b > a then b else a) (by simp)
      simp only [List.mem_cons] at hy
      rcases hy with rfl | rfl | hy
      · refine Int.le_trans ?_ h0
        split <;> omega
      · refine Int.le_trans ?_ h0
        split <;> omega
      · exact h y (by simp [hy])
theorem lmin_spec : ∀ (r : List Int) (a : Int), r.foldl (fun m x => if x < m then x else m) a ∈ a :: r ∧ ∀ y ∈ a :: r, r.foldl (fun m x => if x < m then x else m) a ≤ y
  | [], a => ⟨by simp, by simp⟩
  | b :: r, a => by
    have := lmin_spec r (if b < a then b else a)
    simp only [List.foldl_cons]
    refine ⟨?_, fun y hy => ?_⟩
    · have h := this.1
      simp only [List.mem_cons] at h ⊢
      by_cases c : b < a
      · simp only [c, if_true] at h ⊢
        rcases h with h | h <;> simp [h]
      · simp only [c, if_false] at h ⊢
        rcases h with h | h <;> simp [h]
    · have h := this.2
      have h0 := h (if b < a then b else a) (by simp)
      simp only [List.mem_cons] at hy
      rcases hy with rfl | rfl | hy
      · refine Int.le_trans h0 ?_
        split <;> omega
      · refine Int.le_trans h0 ?_
        split <;> omega
      · exact h y (by simp [hy])
def maxD : D → Option D
  | .lst l => (getInts l).bind fun ns => (lmax ns).map D.int
  | _ => none
def minD : D → Option D
  | .lst l => (getInts l).bind fun ns => (lmin ns).map D.int
  | _ => none
theorem ca_max : CaD X (rMax X.K) (f1 maxD) := ca1 fun S H d1 d v1 Q al r1 e q => by
  cases d1 <;> first | (cases e; done) | skip
  obtain ⟨ns, e1, e2⟩ := bindO (show (getInts _).bind _ = some d from e)
  obtain ⟨m, e3, rfl⟩ := mapO e2
  have := getInts_map e1
  subst this
  obtain ⟨a, vs, rfl, h1, q1⟩ := r1.lst_inv
  have := q1.ints
  subst this
  cases ns with
  | nil => cases e3
  | cons x r =>
    cases e3
    have sp := lmax_spec r x
    refine ⟨a, x :: r, rfl, .of h1, by simp, fun m hm hy => ?_⟩
    have : m = r.foldl (fun m x => if x > m then x else m) x := Int.le_antisymm (sp.2 m hm) (hy _ sp.1)
    subst this
    exact q _ H (Grow.refl H) (.int _)
theorem ca_min : CaD X (rMin X.K) (f1 minD) := ca1 fun S H d1 d v1 Q al r1 e q => by
  cases d1 <;> first | (cases e; done) | skip
  obtain ⟨ns, e1, e2⟩ := bindO (show (getInts _).bind _ = some d from e)
  obtain ⟨m, e3, rfl⟩ := mapO e2
  have := getInts_map e1
  subst this
  obtain ⟨a, vs, rfl, h1, q1⟩ := r1.lst_inv
  have := q1.ints
  subst this
  cases ns with
  | nil => cases e3
  | cons x r =>
    cases e3
    have sp := lmin_spec r x
    refine ⟨a, x :: r, rfl, .of h1, by simp, fun m hm hy => ?_⟩
    have : m = r.foldl (fun m x => if x < m then x else m) x := Int.le_antisymm (hy _ sp.1) (sp.2 m hm)
    subst this
    exact q _ H (Grow.refl H) (.int _)
def anyD : D → Option D
  | .lst l => (getBls l).map fun ns => .bl (ns.any id)
  | _ => none
def allD : D → Option D
  | .lst l => (getBls l).map fun ns => .bl (ns.all id)
  | _ => none
theorem ca_any : CaD X (rAny X.K) (f1 anyD) := ca1 fun S H d1 d v1 Q al r1 e q => by
  cases d1 <;> first | (cases e; done) | skip
  obtain ⟨ns, e1, rfl⟩ := mapO (show (getBls _).map _ = some d from e)
  have := getBls_map e1
  subst this
  obtain ⟨a, vs, rfl, h1, q1⟩ := r1.lst_inv
  have := q1.bls
  subst this
  exact ⟨a, ns, rfl, .of h1, q _ H (Grow.refl H) (.bl _)⟩
theorem ca_all : CaD X (rAll X.K) (f1 allD) := ca1 fun S H d1 d v1 Q al r1 e q => by
  cases d1 <;> first | (cases e; done) | skip
  obtain ⟨ns, e1, rfl⟩ := mapO (show (getBls _).map _ = some d from e)
  have := getBls_map e1
  subst this
  obtain ⟨a, vs, rfl, h1, q1⟩ := r1.lst_inv
  have := q1.bls
  subst this
  exact ⟨a, ns, rfl, .of h1, q _ H (Grow.refl H) (.bl _)⟩
def tupleD : D → Option D
  | .lst l => some (.tup l)
  | .tup l => some (.tup l)
  | _ => none
abbrev rTupleD (K : PySem.W.Frag) : List V → Hp → VK → Prop := fun xs H Q => ∃ p ys, xs = [.ref p] ∧ ((SqL K H p ys ∧ ∀ l, H l = none → Q (.ref l) (upd H l (.tup ys))) ∨ (SqT K H p ys ∧ Q (.ref p) H))
theorem ca_tuple : CaD X (rTupleD X.K) (f1 tupleD) := ca1 fun S H d1 d v1 Q al r1 e q => by
  cases d1 <;> first | (cases e; done) | skip
  · cases e
    obtain ⟨a, vs, rfl, h1, h1', q1⟩ := r1.tup_inv
    exact ⟨a, vs, rfl, .inr ⟨h1, q _ H (Grow.refl H) (.tup h1' q1)⟩⟩
  · cases e
    obtain ⟨a, vs, rfl, h1, q1⟩ := r1.lst_inv
    exact ⟨a, vs, rfl, .inl ⟨.of h1, fun p hp => q _ _ (Grow.upd hp) (new_tup al hp q1)⟩⟩
def listD : D → Option (List D)
  | .lst l => some l
  | .tup l => some l
  | .scr ns => some (ns.map D.int)
  | _ => none
abbrev rListD (K : PySem.W.Frag) : List V → Hp → VK → Prop := fun xs H Q => ∃ p ys, xs = [.ref p] ∧ (SqL K H p ys ∨ SqT K H p ys) ∧ ∀ l, H l = none → Q (.ref l) (upd H l (.lst ys))
theorem co_list : CaO X (rListD X.K) (f1L listD) := co1 fun S H d1 d v1 Q al r1 e q => by
  cases d1 <;> first | (cases e; done) | skip
  · cases e
    obtain ⟨a, vs, rfl, h1, h1', q1⟩ := r1.tup_inv
    exact ⟨a, vs, rfl, .inr h1, fun p hp => q p H vs (Grow.refl H) hp q1⟩
  · cases e
    obtain ⟨a, vs, rfl, h1, q1⟩ := r1.lst_inv
    exact ⟨a, vs, rfl, .inl (.of h1), fun p hp => q p H vs (Grow.refl H) hp q1⟩
  · cases e
    cases r1 with
    | rf r1 =>
      cases r1 with
      | scr h => exact ⟨_, _, rfl, .inl ((hide_le _ _).seqL h), fun p hp => q p H _ (Grow.refl H) hp (Rfs.of_ints _)⟩
/-! ### in -/
def dIn : D → D → Option D
  | d, .lst l => if pyOk 39 d && l.all (pyOk 39) then some (.bl (l.any fun z => dq z d)) else none
  | _, _ => none
def dNotIn : D → D → Option D
  | d, .lst l => if pyOk 39 d && l.all (pyOk 39) then some (.bl (!l.any fun z => dq z d)) else none
  | _, _ => none
theorem any_pys {d : D} (hd : pyOk 39 d = true) : ∀ (l : List D), l.all (pyOk 39) = true → (pys l).any (fun z => PyData.eqv z (py d)) = l.any fun z => dq z d
  | [], _ => rfl
  | a :: r, h => by
    simp only [List.all_cons, Bool.and_eq_true] at h
    simp only [pys, List.any_cons, eqv_dq 39 a d h.1 hd, any_pys hd r h.2]
theorem shaped_of39 {d : D} (h : pyOk 39 d = true) : SeqAt.shaped (py d) = true := by
  have := pyOk_ok 39 d h
  unfold SeqAt.shaped
  rw [this.1, Bool.true_and]
  exact decide_eq_true (by omega)
theorem Rv.dpL {K : PySem.W.Frag} {mg : Str → Option Value} {S : List Addr} {H : Hp} {l : List D} {v : V} (r : Rv K mg S H (.lst l) v) (h : l.all (pyOk 39) = true) : Dp K H v (.list (pys l)) := r.dp (n := 40) h
theorem od_in : OpD X (rInD X.K) dIn := fun S H d1 d2 d v1 v2 Q al r1 r2 e q => by
  cases d2 <;> first | (cases e; done) | (cases d1 <;> cases e; done) | skip
  rename_i l
  obtain ⟨h, e⟩ := ifSome' (show (if pyOk 39 d1 && l.all (pyOk 39) then some (D.bl (l.any fun z => dq z d1)) else none) = some d by cases d1 <;> exact e)
  subst e
  rw [Bool.and_eq_true] at h
  exact ⟨_, _, r1.dp h.1, r2.dpL h.2, shaped_of39 h.1, shaped_of (d := .lst l) h.2, by rw [any_pys h.1 l h.2]; exact q _ H (Grow.refl H) (.bl _)⟩
theorem od_notIn : OpD X (rNotInD X.K) dNotIn := fun S H d1 d2 d v1 v2 Q al r1 r2 e q => by
  cases d2 <;> first | (cases e; done) | (cases d1 <;> cases e; done) | skip
  rename_i l
  obtain ⟨h, e⟩ := ifSome' (show (if pyOk 39 d1 && l.all (pyOk 39) then some (D.bl (!l.any fun z => dq z d1)) else none) = some d by cases d1 <;> exact e)
  subst e
  rw [Bool.and_eq_true] at h
  exact ⟨_, _, r1.dp h.1, r2.dpL h.2, shaped_of39 h.1, shaped_of (d := .lst l) h.2, by rw [any_pys h.1 l h.2]; exact q _ H (Grow.refl H) (.bl _)⟩
/-! ### isinstance -/
inductive Bt where
  | int | bool | str | list | tuple
  deriving DecidableEq
def Bt.nm : Bt → String
  | .int => "int"
  | .bool => "bool"
  | .str => "str"
  | .list => "list"
  | .tuple => "tuple"
def isB : Bt → D → Option Bool
  | b, .non => some false
  | b, .bl _ => some (decide (b = .bool) || decide (b = .int))
  | b, .int _ => some (decide (b = .int))
  | b, .str _ => some (decide (b = .str))
  | b, .tup _ => some (decide (b = .tuple))
  | b, .lst _ => some (decide (b = .list))
  | _, _ => none
def tyNm : D → String
  | .non => "NoneType"
  | .bl _ => "bool"
  | .int _ => "int"
  | .str _ => "str"
  | .tup _ => "tuple"
  | _ => "list"
theorem kit_isB {K : PySem.W.Frag} {b : Bt} {d : D} {r : Bool} (e : isB b d = some r) : PySem.W.kitOne K (.type (tyNm d)) (.type b.nm) = some r := by
  cases d <;> first | (cases e; done) | skip
  all_goals (cases b <;> cases e <;> refine kit_ty ?_ <;> simp only [tyNm, Bt.nm] <;> decide +kernel)
theorem Rv.tyx {K : PySem.W.Frag} {mg : Str → Option Value} {S : List Addr} {H : Hp} {d : D} {v : V} {b : Bt} {r : Bool} (h : Rv K mg S H d v) (e : isB b d = some r) : TyX K H v (.type (tyNm d)) := by
  cases d with
  | non => rw [h.non_inv]; exact .base .non
  | bl b => rw [h.bl_inv]; exact .base (.bl b)
  | int i => rw [h.int_inv]; exact .base (.int i)
  | str s => rw [h.str_inv]; exact .base (.str s)
  | tup l =>
    obtain ⟨a, vs, rfl, h1, _, _⟩ := h.tup_inv
    rcases h1 with (h1 | ⟨o, h1⟩) | ⟨o, its, n, h1, h2, _⟩
    · exact .base (.tup h1)
    · exact .fTuple h1
    · exact .kTuple h1 h2
  | lst l =>
    obtain ⟨a, vs, rfl, h1, _⟩ := h.lst_inv
    exact .base (.lst h1)
  | dct l => cases e
  | dtt l => cases e
  | set l => cases e
  | obj c l => cases e
  | scr l => cases e
/-- isinstance(e, T): the class is written -/
def eIsI (b : Bt) (f : Ef) : Ef := fun ρ => (f ρ).bind fun p => (isB b (p.1.res p.2)).bind fun k => some (.v (.bl k), p.2)
theorem de_isI {τ : List Ty} {e : Expr} {f : Ef} {p pos pos2 : Pos} {x T : Str} (b : Bt) (hg : Gl X x) (hm : X.mg x = none) (hv : bootBuiltins x = some (.builtin "isinstance")) (hg2 : Gl X T) (hm2 : X.mg T = none) (hv2 : bootBuiltins T = some (.type b.nm)) (he : DE X e τ f) (hn : x ≠ "__name__" := by decide) (hdb : (x == ("__debug__" : Str)) = false := by decide) (hn2 : T ≠ "__name__" := by decide) (hdb2 : (T == ("__debug__" : Str)) = false := by decide)
    (hs : starEach [e, .Name T pos2] X.env = (false, eval e X.env) :: starEach [.Name T pos2] X.env := by rfl) (hs2 : starEach [Expr.Name T pos2] X.env = (false, eval (.Name T pos2) X.env) :: starEach [] X.env := by rfl) (hpl : (backTo pos (starEach [Expr.Name T pos2] X.env)).any (·.1) = false := by rfl) :
    DE X (.Call (.Name x p) [e, .Name T pos2] [] pos) τ (eIsI b f) := pe_imp (pe_callB call_isi hg hm hv (pa_cons he (pa_cons (pe_bltn (v := .ty b.nm) (u := .type b.nm) hg2 hm2 hv2 rfl hn2 hdb2) pa_nil hs2) hs) hn hdb hs hpl) fun σ H Q ⟨R, ρ, fs, h, ρ', s, e, q⟩ => by
  obtain ⟨w, e1, e2⟩ := bindO e
  obtain ⟨k, e3, e4⟩ := bindO e2
  cases e4
  refine ⟨R, ρ, fs, w.1, w.2, s, e1, fun v H1 fs1 t1 s1 r => ?_⟩
  exact ⟨v, .ty b.nm, _, _, k, rfl, .ty _, (s1.res r).tyx e3, kit_isB e3, q _ H1 fs1 t1 s1 (.bl _)⟩
end
end TL

namespace TL
open PySem PySem.Spec PyProof.Rows L2

/-- a def of the text as it stands behind the top -/
structure Dfn (K : PySem.W.Frag) (mg : Str → Option Value) (x : Str) (st : Stmt) (ps : List Str) (f : Addr) (fd : FuncData) : Prop where
  fn : Fun K x x st f fd
  mg : mg x = some (.ref f)
  bd : Binds K fd ps []
/-- a def that may be called -/
structure Cal (P : Program) (w : World) (K : PySem.W.Frag) (mg : Str → Option Value) (base : Heap) (f : Addr) (fd : FuncData) (x : Str) (k : Nat) (ps : List Str) (sg : Sg) (G : Fm) : Prop where
  ok : FnD P w K mg base k f fd ps sg G
  mg : mg x = some (.ref f)
  kp : PySem.W.keepIn K (.ref f) = true
  bd : Binds K fd ps []
  len : ∀ ds r, G ds = some r → ds.length = sg.ps.length
section
variable {P : Program} {w : World} {K : PySem.W.Frag} {mg : Str → Option Value} {base : Heap} {f : Addr} {fd : FuncData} {x : Str} {k j : Nat} {ps : List Str} {sg : Sg} {G G' : Fm}
theorem Cal.mono (c : Cal P w K mg base f fd x j ps sg G) (h : j ≤ k) : Cal P w K mg base f fd x k ps sg G := ⟨FnOk.mono c.ok h, c.mg, c.kp, c.bd, c.len⟩
theorem Cal.of (c : Cal P w K mg base f fd x k ps sg G) (le : ∀ ds r, G' ds = some r → G ds = some r) : Cal P w K mg base f fd x k ps sg G' := ⟨c.ok.of le, c.mg, c.kp, c.bd, fun ds r h => c.len ds r (le ds r h)⟩
theorem runF_len {b : Sf} {n m : Nat} : ∀ ds r, runF b n m ds = some r → ds.length = n := fun ds r e => by
  unfold runF at e
  by_cases h : ds.length = n
  · exact h
  · rw [if_neg h] at e; cases e
/-- the rule for a def -/
theorem cal_ok {b : Sf} {τ' : List Ty} {st : Stmt} {N : List Str} (D : Dfn K mg x st ps f fd) (S : FnScope N ps (defScope st)) (γ : Gm) (m : Nat) (hn : sg.ps.length = ps.length := by rfl) (hm : sg.ps.length + m = N.length := by rfl)
    (hio : γ.io = ioOf (sg.ps.map Ty.io) := by rfl) (hret : γ.ret = sg.ret := by rfl) (hrty : γ.rty = sg.ps.map Ty.io ++ List.replicate m .no := by rfl) (hnx : leTb γ.rty τ' = true := by rfl) (hfall : sg.ret = .sh ∨ ∀ ρ ρ', b ρ ≠ some (.nx ρ'))
    (hbody : ∀ (cdv : Value) (A : Around) (outer : List PySem.Env) (s : Shared) (H : Hp) (E : XK), Room k (A.deeper (envOfC x (defScope st) s.heap.objs.size f cdv)) →
      DSs (cxOf CX0 P w K mg base N x (defScope st) f cdv A outer s H E).nox γ (defBody st) (sg.ps ++ List.replicate m .no) b τ') :
    Cal P w K mg base f fd x (k + 1) ps sg (runF b sg.ps.length m) :=
  ⟨fn_ok D.fn S sg γ m hn hm hio hret hrty hnx hfall hbody, D.mg, D.fn.kp, D.bd, runF_len⟩
/-- .. with a number of turns for its whiles -/
theorem Cal.ofN {F : Nat → Fm} (h : ∀ n, Cal P w K mg base f fd x k ps sg (F n)) (le : ∀ ds r, G ds = some r → ∃ n, F n ds = some r) : Cal P w K mg base f fd x k ps sg G :=
  ⟨FnD.ofN (fun n => (h n).ok) le, (h 0).mg, (h 0).kp, (h 0).bd, fun ds r h1 => by
    obtain ⟨n, h2⟩ := le ds r h1
    exact (h n).len ds r h2⟩
end
section
variable {X : Cx} {τ : List Ty} {e : Expr} {es : List Expr} {pos p : Pos} {f : Addr} {fd : FuncData} {x : Str} {k : Nat} {ps : List Str} {sg : Sg} {F : Fm}
theorem do_fn {g : Af} (c : Cal X.prog X.w X.K X.mg X.base f fd x k ps sg F) (hr : Room k X.A) (n : Nat) (hg : Gl X x) (ha : DA X (e :: es) τ g) (hps : sg.ps = List.replicate n .sh := by rfl) (hdb : (x == ("__debug__" : Str)) = false := by decide) (he : starEach (e :: es) X.env = (false, eval e X.env) :: starEach es X.env := by rfl) (hpl : (backTo pos (starEach es X.env)).any (·.1) = false := by rfl) :
    DO X (.Call (.Name x p) (e :: es) [] pos) τ (oCall F g) sg.ret := do_call c.ok hr hg c.mg c.kp c.bd ha n hps (fun ds r h => by rw [c.len ds r h, hps]; simp) hdb he hpl
theorem do_fnB {g : Af} (c : Cal X.prog X.w X.K X.mg X.base f fd x k ps sg F) (hr : Room k X.A) (n : Nat) (hg : Gl X x) (ha : DA X (e :: es) τ g) (hps : sg.ps = List.replicate n .sh := by rfl) (hdb : (x == ("__debug__" : Str)) = false := by decide) (he : starEach (e :: es) X.env = (false, eval e X.env) :: starEach es X.env := by rfl) (hpl : (backTo pos (starEach es X.env)).any (·.1) = false := by rfl) :
    DO X (.Call (.Name x p) (e :: es) [] pos) τ (oCallB sg.ret F g) sg.ret := do_callB' c.ok hr hg c.mg c.kp c.bd ha n hps (fun ds r h => by rw [c.len ds r h, hps]; simp) hdb he hpl
theorem do_fnI {g : Af} {t : Ty} (c : Cal X.prog X.w X.K X.mg X.base f fd x k ps sg F) (hr : Room k X.A) (i j n : Nat) (hg : Gl X x) (ha : DAi X (e :: es) τ g) (hps : sg.ps = ioPs n j t := by rfl) (ht : τ[i]? = some t := by rfl) (hno : t ≠ .no := by intro z; cases z) (hsh : t.io = t := by rfl) (hdb : (x == ("__debug__" : Str)) = false := by decide) (he : starEach (e :: es) X.env = (false, eval e X.env) :: starEach es X.env := by rfl) (hpl : (backTo pos (starEach es X.env)).any (·.1) = false := by rfl) :
    DO X (.Call (.Name x p) (e :: es) [] pos) τ (oCallI F i j g) sg.ret := do_callI i j n c.ok hr hg c.mg c.kp c.bd ha hps (fun ds r h => by rw [c.len ds r h, hps]; simp [ioPs]) ht hno hsh hdb he hpl
end
/-! ### names of built-ins -/
theorem bt_len : bootBuiltins "len" = some (.builtin "len") := by decide +kernel
theorem bt_abs : bootBuiltins "abs" = some (.builtin "abs") := by decide +kernel
theorem bt_sum : bootBuiltins "sum" = some (.builtin "sum") := by decide +kernel
theorem bt_max : bootBuiltins "max" = some (.builtin "max") := by decide +kernel
theorem bt_min : bootBuiltins "min" = some (.builtin "min") := by decide +kernel
theorem bt_any : bootBuiltins "any" = some (.builtin "any") := by decide +kernel
theorem bt_all : bootBuiltins "all" = some (.builtin "all") := by decide +kernel
theorem bt_sorted : bootBuiltins "sorted" = some (.builtin "sorted") := by decide +kernel
theorem bt_isinstance : bootBuiltins "isinstance" = some (.builtin "isinstance") := by decide +kernel
theorem bt_int : bootBuiltins "int" = some (.type "int") := by decide +kernel
theorem bt_bool : bootBuiltins "bool" = some (.type "bool") := by decide +kernel
theorem bt_str : bootBuiltins "str" = some (.type "str") := by decide +kernel
theorem bt_tuple : bootBuiltins "tuple" = some (.type "tuple") := by decide +kernel
theorem bt_list : bootBuiltins "list" = some (.type "list") := by decide +kernel
theorem bt_dict : bootBuiltins "dict" = some (.type "dict") := by decide +kernel
theorem bt_set : bootBuiltins "set" = some (.type "set") := by decide +kernel
theorem hu64 {k : Nat} {A : Around} (r : Room k A) : A.units + 64 < cLine := r.units
theorem hu65 {k : Nat} {A : Around} (r : Room k A) : A.units + 65 < cLine := by
  have := r.un
  omega
/-! ### blocks that do not fall through -/
def NN (f : Sf) : Prop := ∀ ρ ρ', f ρ ≠ some (.nx ρ')
theorem nn_ret {f : Ef} : NN (sRet f) := fun ρ ρ' e => by
  obtain ⟨p, _, e2⟩ := bindO e
  obtain ⟨p1, p2⟩ := p
  cases p1 <;> cases e2
theorem nn_retO {f : Of} : NN (sRetO f) := fun ρ ρ' e => by
  obtain ⟨p, _, e2⟩ := bindO e
  cases e2
theorem nn_retX {i : Nat} : NN (sRetX i) := fun ρ ρ' e => by cases e
theorem nn_retN : NN sRetN := fun ρ ρ' e => by cases e
theorem nn_seq {f g : Sf} (h : NN g) : NN (sSeq f g) := fun ρ ρ' e => by
  obtain ⟨o, _, e2⟩ := bindO e
  cases o with
  | nx r => exact h _ _ e2
  | _ => cases e2
theorem nn_if {t : Tf} {f g : Sf} (h : NN f) (k : NN g) : NN (sIf t f g) := fun ρ ρ' e => by
  obtain ⟨p, _, e2⟩ := bindO e
  cases hp : p.1 with
  | true => rw [hp] at e2; exact h _ _ e2
  | false => rw [hp] at e2; exact k _ _ e2
/-! ### slots forgotten ahead of a block -/
def sKb (ks : List Nat) (f : Sf) : Sf := fun ρ => f (kill ks ρ)
theorem dss_killB {X : Cx} {γ : Gm} {τ τ' : List Ty} {sts : List Stmt} {f : Sf} (ks : List Nat) (h : DSs X γ sts (killT ks τ) f τ') : DSs X γ sts τ (sKb ks f) τ' := pss_imp h fun D σ H ⟨R, ρ, fs, o, s, e, q⟩ => by
  obtain ⟨fs1, s1, sub⟩ := s.killS ks
  exact ⟨R, kill ks ρ, fs1, o, s1, e, q.mono ((Step.refl H fs).less sub) (Kp.refl _ _) (fun ρ' σ' H' fs' eo t' k' s' => by subst eo; exact q σ' H' fs' t' k' s') rfl rfl rfl⟩
/-! ### the law -/
/-- the law's promise: True at every script -/
def sgL : Sg := ⟨[.sh], .sh⟩
def lawF (F : Fm) : Prop := ∀ ns : List Int, ns.length ≤ 63 → ∃ r, F [.scr ns] = some (.bl true, r)
theorem law_sp {K : PySem.W.Frag} {mg : Str → Option Value} {F : Fm} (h : lawF F) {H : Hp} {a : Addr} {ns : List Int} (hl : ns.length ≤ 63) (hS : SqL K H a (ns.map V.int)) {E : XK} : spD K mg sgL F [.ref a] H (fun v _ => v = .bl true) E := by
  obtain ⟨r, e⟩ := h ns hl
  refine ⟨[], [.scr ns], [], .bl true, r, ⟨.cons (f := []) (g := []) (.sh (.scr ?_)) .nil, List.nodup_nil, fun a ha => nomatch ha⟩, e, fun v H' fs' fv _ _ rp => ?_⟩
  · have eq : hide [] H = H := by funext a; simp [hide]
    rw [show ([] : List Addr) ++ [] = [] from rfl, eq]
    exact hS
  · cases rp with
    | sh rf => cases rf; rfl
end TL

/-! ### sorted of tuples of ints -/
namespace TL
open PySem PySem.Spec PyProof.Rows L2
theorem lexLt_asym : ∀ (x y : List Int), HT.lexLt x y = true → HT.lexLt y x = false
  | [], [], h => by simp [HT.lexLt] at h
  | [], _ :: _, _ => rfl
  | _ :: _, [], h => by simp [HT.lexLt] at h
  | a :: x, b :: y, h => by
    rw [HT.lexLt_cons] at h ⊢
    by_cases e : a = b
    · subst e
      simp only [if_true] at h ⊢
      exact lexLt_asym x y h
    · rw [if_neg e] at h
      rw [if_neg (fun z => e z.symm)]
      have := of_decide_eq_true h
      exact decide_eq_false (by omega)
theorem lexLt_tr : ∀ (x y z : List Int), HT.lexLt y x = false → HT.lexLt z y = false → HT.lexLt z x = false
  | [], y, z, h1, h2 => by
    cases y with
    | nil => exact h2
    | cons b y =>
      cases z with
      | nil => rfl
      | cons c z => rfl
  | a :: x, [], z, h1, h2 => by simp [HT.lexLt] at h1
  | a :: x, b :: y, [], h1, h2 => by simp [HT.lexLt] at h2
  | a :: x, b :: y, c :: z, h1, h2 => by
    rw [HT.lexLt_cons] at h1 h2 ⊢
    by_cases e1 : b = a
    · subst e1
      by_cases e2 : c = b
      · subst e2
        simp only [if_true] at h1 h2 ⊢
        exact lexLt_tr x y z h1 h2
      · rw [if_neg e2] at h2 ⊢
        exact h2
    · rw [if_neg e1] at h1
      by_cases e2 : c = b
      · subst e2
        rw [if_neg e1]
        exact h1
      · rw [if_neg e2] at h2
        have a1 := of_decide_eq_false h1
        have a2 := of_decide_eq_false h2
        rw [if_neg (by omega)]
        exact decide_eq_false (by omega)
theorem lexLt_eq : ∀ (x y : List Int), HT.lexLt x y = false → HT.lexLt y x = false → x = y
  | [], [], _, _ => rfl
  | [], _ :: _, h, _ => by simp [HT.lexLt] at h
  | _ :: _, [], _, h => by simp [HT.lexLt] at h
  | a :: x, b :: y, h1, h2 => by
    rw [HT.lexLt_cons] at h1 h2
    by_cases e : a = b
    · subst e
      simp only [if_true] at h1 h2
      rw [lexLt_eq x y h1 h2]
    · rw [if_neg e] at h1
      rw [if_neg (fun z => e z.symm)] at h2
      have a1 := of_decide_eq_false h1
      have a2 := of_decide_eq_false h2
      omega
/-- sorted, as a function -/
def sortRows (l : List (List Int)) : List (List Int) := l.mergeSort fun a b => !HT.lexLt b a
theorem sortRows_perm (l : List (List Int)) : (sortRows l).Perm l := List.mergeSort_perm _ _
theorem sortRows_srt (l : List (List Int)) : (sortRows l).Pairwise fun a b => HT.lexLt b a = false := by
  have := List.pairwise_mergeSort (le := fun a b => !HT.lexLt b a) (fun a b c h1 h2 => by
    simp only [Bool.not_eq_true'] at h1 h2 ⊢
    exact lexLt_tr a b c h1 h2) (fun a b => by
    cases h : HT.lexLt b a with
    | false => simp
    | true => simp [lexLt_asym b a h]) l
  exact this.imp fun h => by simpa using h
theorem srt_uniq {α : Type} {lt : α → α → Bool} (ae : ∀ x y, lt x y = false → lt y x = false → x = y) : ∀ {l m : List α}, l.Perm m → (l.Pairwise fun a b => lt b a = false) → (m.Pairwise fun a b => lt b a = false) → l = m
  | [], m, p, _, _ => by simpa using p.symm.eq_nil
  | x :: l, [], p, _, _ => by simpa using p.eq_nil
  | x :: l, y :: m, p, h1, h2 => by
    have hxy : x = y := by
      have hx : x ∈ y :: m := p.mem_iff.mp (by simp)
      have hy : y ∈ x :: l := p.mem_iff.mpr (by simp)
      rcases List.mem_cons.mp hx with e | hx
      · exact e
      rcases List.mem_cons.mp hy with e | hy
      · exact e.symm
      exact ae x y ((List.pairwise_cons.mp h2).1 x hx) ((List.pairwise_cons.mp h1).1 y hy)
    subst hxy
    rw [srt_uniq ae p.cons_inv (List.pairwise_cons.mp h1).2 (List.pairwise_cons.mp h2).2]
end TL
namespace SrtO
open PySem PySem.Calls PyProof.Rows
/-- a tuple of ints -/
def IsRow (h : Heap) (v : Value) (ns : List Int) : Prop := ∃ (a : Addr) (us : List Value), v = .ref a ∧ IsTup h a us.toArray ∧ IntsAre us ns
theorem ints_inj : ∀ {us : List Value} {ns ms : List Int}, IntsAre us ns → IntsAre us ms → ns = ms := fun {us ns ms} h k => by
  have h1 := L2.vals_of_ints h
  have h2 := L2.vals_of_ints k
  have := L2.Vals.inj h1 h2
  exact (List.map_inj_right (fun a b e => by injection e)).mp this
theorem IsRow.inj {h : Heap} {v : Value} {ns ms : List Int} (x : IsRow h v ns) (y : IsRow h v ms) : ns = ms := by
  obtain ⟨a, us, rfl, ⟨o, e, _, n, d⟩, i⟩ := x
  obtain ⟨b, ws, e2, ⟨o', e', _, n', d'⟩, j⟩ := y
  cases e2
  rw [e] at e'; cases e'
  rw [d] at d'
  injection d' with d1 _
  have : us = ws := by simpa using congrArg Array.toList d1
  subst this
  exact ints_inj i j
open Classical in
noncomputable def rowOf (h : Heap) (v : Value) : List Int := if x : ∃ ns, IsRow h v ns then x.choose else []
theorem rowOf_eq {h : Heap} {v : Value} {ns : List Int} (x : IsRow h v ns) : rowOf h v = ns := by
  unfold rowOf
  have e : ∃ ns, IsRow h v ns := ⟨ns, x⟩
  rw [dif_pos e]
  exact e.choose_spec.inj x
theorem swo_row (k : Value → List Int) : Swo fun v u => HT.lexLt (k v) (k u) := ⟨fun x y h => TL.lexLt_asym _ _ h, fun x y z h1 h2 => TL.lexLt_tr _ _ _ h1 h2⟩
section
variable {prog : Program} {w : World} {A : Around} {E : Value → Shared → Prop} {s : Shared}
theorem kat_ints {b fin : Bool} {Q : Bool → Shared → Prop} : ∀ {xs ys : List Value} {ns ms : List Int} (i : Nat), IntsAre xs ns → IntsAre ys ms → fin = decide (ns.length < ms.length) → Q (HT.lexLt ns ms) s → PySem.W.KatLex prog w A b fin Q (xs.zip ys) i s
  | [], ys, ns, ms, i, hx, hy, hf, q => by
    have := L2.vals_of_ints hx
    cases ns with
    | nil =>
      refine PySem.W.kat_nil ?_
      rw [hf]
      cases ms <;> exact q
    | cons _ _ => cases this
  | x :: xs, [], ns, ms, i, hx, hy, hf, q => by
    have h1 := L2.vals_of_ints hx
    have h2 := L2.vals_of_ints hy
    cases ns with
    | nil => cases h1
    | cons n ns =>
      cases ms with
      | cons _ _ => cases h2
      | nil =>
        refine PySem.W.kat_nil ?_
        rw [hf]
        exact q
  | x :: xs, y :: ys, ns, ms, i, hx, hy, hf, q => by
    have h1 := L2.vals_of_ints hx
    have h2 := L2.vals_of_ints hy
    cases ns with
    | nil => cases h1
    | cons n ns =>
      cases ms with
      | nil => cases h2
      | cons m ms =>
        cases h1 with
        | cons r1 t1 =>
          cases h2 with
          | cons r2 t2 =>
            obtain ⟨t, rfl⟩ := r1
            obtain ⟨u, rfl⟩ := r2
            refine PySem.W.kat_cons (SeqAt.EqAt.int_int n t m u prog w _ _ ?_)
            refine PySem.W.kat_go (fun e1 => ?_) (fun e1 => ?_)
            · have ex : n = m := by simpa using e1
              subst ex
              refine PySem.W.kat_yes (kat_ints (i + 1) (L2.Vals.ints t1) (L2.Vals.ints t2) (by rw [hf]; simp) ?_)
              rw [HT.lexLt_cons, if_pos rfl] at q
              exact q
            · have ex : ¬ n = m := by simpa using e1
              rw [HT.lexLt_cons, if_neg ex] at q
              exact PySem.W.kat_no (TS.oneLt_ints _ q)
theorem row_cmp {vs : List Value} {k : Value → List Int} (hp : ∀ v ∈ vs, IsRow s.heap v (k v)) : Cmp prog w A s (tuples' true) (fun p => p.1 ∈ vs) (lt2 fun v u => HT.lexLt (k v) (k u)) := by
  intro p q hm hm'
  have h1 := hp _ hm
  have h2 := hp _ hm'
  show wpAny (model prog w) A (keyLt' (tuples' true) p.1 q.1) (fun r s' => s' = s ∧ r = HT.lexLt (k p.1) (k q.1)) (fun _ _ => False) s
  generalize k p.1 = x at h1 ⊢
  generalize k q.1 = y at h2 ⊢
  obtain ⟨a, us, e, ⟨o, ho, hc, n, hd⟩, hi⟩ := h1
  obtain ⟨a', us', e', ⟨o', ho', hc', n', hd'⟩, hi'⟩ := h2
  rw [e, e']
  refine PySem.W.kat_lt ho hd ho' hd' ?_
  refine kat_ints 0 hi hi' ?_ ⟨rfl, rfl⟩
  have l1 := hi.length
  have l2 := hi'.length
  simp [l1, l2]
theorem row_firsts {h : Heap} : ∀ {vs : List Value}, (∀ v ∈ vs, ∃ n ns, IsRow h v (n :: ns)) → ∃ fs : List Value, PySem.W.KatTups h vs fs ∧ fs.length = vs.length ∧ ∀ f ∈ fs, ∃ x t, f = Value.int x t
  | [], _ => ⟨[], PySem.W.KatTups.nil, rfl, fun _ hm => by simp at hm⟩
  | v :: vs, hp => by
    obtain ⟨fs, h1, h2, h3⟩ := row_firsts (vs := vs) fun v' hm => hp v' (List.mem_cons_of_mem _ hm)
    obtain ⟨x, ns, a, us, e, ⟨o, ho, hc, n, hd⟩, hi⟩ := hp v (List.mem_cons_self ..)
    subst e
    have hv := L2.vals_of_ints hi
    cases us with
    | nil => cases hv
    | cons u us =>
      cases hv with
      | cons r _ =>
        obtain ⟨t, rfl⟩ := r
        refine ⟨.int x t :: fs, PySem.W.KatTups.cons ho hc hd rfl h1, by rw [List.length_cons, List.length_cons, h2], fun f hm => ?_⟩
        rcases List.mem_cons.mp hm with z | z
        · exact ⟨x, t, z⟩
        · exact h3 f z
theorem rows_sortableO {a : Addr} {vs : List Value} {k : Value → List Int} (h0 : 0 < vs.length) (hp : ∀ v ∈ vs, IsRow s.heap v (k v)) (hne : ∀ v ∈ vs, k v ≠ []) (ha : ∀ o, s.heap.get? a = some o → o.cls ≠ .type "tuple") : SortableO prog w A s a vs fun v u => HT.lexLt (k v) (k u) := by
  intro h' keep
  have hp' : ∀ v ∈ vs, IsRow h' v (k v) := fun v hm => by
    obtain ⟨b, us, e, ⟨o, ho, hc, n, hd⟩, hi⟩ := hp v hm
    exact ⟨b, us, e, ⟨o, keep b o (fun z => by subst z; exact ha o ho hc) ho, hc, n, hd⟩, hi⟩
  obtain ⟨fs, h1, h2, h3⟩ := row_firsts (h := h') (vs := vs) fun v hm => by
    have := hp' v hm
    have hn := hne v hm
    generalize k v = x at this hn
    cases x with
    | nil => exact absurd rfl hn
    | cons n ns => exact ⟨n, ns, this⟩
  refine ⟨tuples' true, fun Q E hq => ?_, row_cmp hp'⟩
  refine PySem.W.kat_kind (T := .type "int") h1 (by omega) (fun f hm => ?_) (by rfl) ?_
  · obtain ⟨x, t, rfl⟩ := h3 f hm
    exact PySem.W.Looks.now
  · have e : (Value.type "int" != Value.type "tuple") = true := by first | decide +kernel | rfl | decide
    rw [e]
    exact hq
end
end SrtO
namespace TL
open PySem PySem.Spec PyProof.Rows L2
def RowsAt (K : PySem.W.Frag) (H : Hp) (rows : List (List Int)) (xs : List V) : Prop := Paired (fun ns x => ∃ t, x = V.ref t ∧ SqU K H t (ns.map V.int)) rows xs
def rSortedR (K : PySem.W.Frag) : List V → Hp → VK → Prop := fun vs H Q => ∃ (a : Addr) (xs : List V) (rows : List (List Int)), vs = [V.ref a] ∧ SqL K H a xs ∧ RowsAt K H rows xs ∧ (∀ r ∈ rows, r ≠ []) ∧
  ∀ ys p, RowsAt K H (sortRows rows) ys → H p = none → Q (.ref p) (upd H p (.lst ys))
theorem paired_mem {α β : Type} {F : α → β → Prop} : ∀ {l : List α} {m : List β}, Paired F l m → ∀ b ∈ m, ∃ a ∈ l, F a b
  | _, _, .nil, b, h => by simp at h
  | _, _, .cons r t, b, h => by
    rcases List.mem_cons.mp h with e | h
    · subst e; exact ⟨_, by simp, r⟩
    · obtain ⟨a, ha, f⟩ := paired_mem t b h
      exact ⟨a, by simp [ha], f⟩
theorem paired_map {α β γ : Type} {F : α → β → Prop} (g : γ → α) (k : γ → β) : ∀ {l : List γ}, (∀ c ∈ l, F (g c) (k c)) → Paired F (l.map g) (l.map k)
  | [], _ => .nil
  | c :: r, h => .cons (h c (by simp)) (paired_map g k fun d hd => h d (by simp [hd]))
section
variable {X : Cx}
theorem cr_sortedR : CallR X (.builtin "sorted") (rSortedR X.K) := by
  intro pins s σ H vs us Q I r h
  obtain ⟨a, xs, rows, rfl, hs, hr, hne, q⟩ := h
  obtain ⟨its, rv, hl, hz⟩ := I.list hs
  obtain ⟨u, rfl, ru⟩ := vals1 r
  obtain rfl : u = Value.ref a := ru
  obtain ⟨e1, e2⟩ := refs_back rv fun x m => by
    obtain ⟨ns, _, t, e, _⟩ := paired_mem hr x m
    exact ⟨t, e⟩
  have hrow : ∀ x ∈ xs, ∀ ns, (∃ t, x = V.ref t ∧ SqU X.K H t (ns.map V.int)) → ∀ u, RelV x u → SrtO.IsRow s.heap u ns := fun x _ ns ⟨t, e, hT⟩ u ru => by
    subst e
    cases (show u = Value.ref t from ru)
    obtain ⟨ts, rt, it, _⟩ := I.tuple hT.t
    exact ⟨t, ts, rfl, it, rt.ints⟩
  have hp : ∀ v ∈ its, SrtO.IsRow s.heap v (SrtO.rowOf s.heap v) ∧ SrtO.rowOf s.heap v ∈ rows := fun v hv => by
    obtain ⟨t, rfl⟩ := e2 v hv
    have hm : V.ref t ∈ xs := by rw [e1]; exact List.mem_map.mpr ⟨_, hv, rfl⟩
    obtain ⟨ns, hn, hx⟩ := paired_mem hr _ hm
    have w := hrow _ hm ns hx (.ref t) rfl
    rw [SrtO.rowOf_eq w]
    exact ⟨w, hn⟩
  have erows : its.map (SrtO.rowOf s.heap) = rows := by
    clear e1 hp
    have key : ∀ {rows : List (List Int)} {xs : List V} {its : List Value}, RowsAt X.K H rows xs → Vals xs its → its.map (SrtO.rowOf s.heap) = rows := by
      intro rows xs its hr
      induction hr generalizing its with
      | nil => intro rv; cases rv; rfl
      | cons h _ ih =>
        intro rv
        cases rv with
        | cons r rt =>
          rw [List.map_cons, ih rt]
          congr 1
          obtain ⟨t, e, hT⟩ := h
          subst e
          cases (show _ = Value.ref t from r)
          obtain ⟨ts, rt', it, _⟩ := I.tuple hT.t
          exact SrtO.rowOf_eq ⟨t, ts, rfl, it, rt'.ints⟩
    exact key hr rv
  refine SrtO.sorted_ord (SrtO.swo_row (SrtO.rowOf s.heap)) hl.isList (by rw [← rv.length]; exact hz) (fun h2 h₁ a' ha kk => ?_) fun out h1 h2 => ?_
  · refine SrtO.rows_sortableO (s := { s with heap := h₁ }) (by omega) (fun v hm => ?_) (fun v hm => hne _ (hp v hm).2) fun o e => ?_
    · obtain ⟨b, ws, e, it, hi⟩ := (hp v hm).1
      exact ⟨b, ws, e, it.keeps fun c o eo => (kk c o eo).2, hi⟩
    · have e' : some o = some _ := e.symm.trans ha
      cases e'
      intro c
      exact absurd (Value.type.inj c) (by decide)
  · have h3 : ∀ u ∈ out, ∃ a, u = Value.ref a := fun u hu => e2 u (h2.perm.mem_iff.mp hu)
    have esort : out.map (SrtO.rowOf s.heap) = sortRows rows := by
      refine srt_uniq (lt := HT.lexLt) (fun x y h k => lexLt_eq x y h k) ?_ ?_ (sortRows_srt rows)
      · rw [← erows]
        exact (h2.perm.map _).trans (sortRows_perm _).symm
      · exact List.pairwise_map.mpr h1
    have hys : RowsAt X.K H (sortRows rows) (out.map backV) := by
      rw [← esort]
      refine paired_map _ _ fun u hu => ?_
      have hm := h2.perm.mem_iff.mp hu
      obtain ⟨t, rfl⟩ := e2 u hm
      have hx : V.ref t ∈ xs := by rw [e1]; exact List.mem_map.mpr ⟨_, hm, rfl⟩
      obtain ⟨ns, hn, hxs⟩ := paired_mem hr _ hx
      have w := hrow _ hx ns hxs (.ref t) rfl
      rw [SrtO.rowOf_eq w]
      exact hxs
    obtain ⟨ep, he'⟩ := PyProof.Rows.sortedAll_at s.heap its out.toArray
    have hlen : (out.map backV).length ≤ sizeLine := by
      rw [List.length_map, h2.perm.length_eq, ← rv.length]
      exact hz
    exact ⟨.ref _, upd H (s.heap.objs.size + 1) (.lst (out.map backV)), I.laid (t' := s.toks) (fun _ _ => PyProof.Rows.sortedAll_old) (Nat.le_succ _) ⟨hlen, out, ep, vals_back h3, he'⟩, rfl, q _ _ hys (I.hok.fresh (Nat.le_succ _))⟩
def rowD (ns : List Int) : D := .tup (ns.map D.int)
def getRows : List D → Option (List (List Int))
  | [] => some []
  | .tup l :: r => (getInts l).bind fun ns => if ns.isEmpty then none else (getRows r).map (ns :: ·)
  | _ :: _ => none
theorem getRows_of : ∀ {rows : List (List Int)}, (∀ r ∈ rows, r ≠ []) → getRows (rows.map rowD) = some rows
  | [], _ => rfl
  | r :: rows, h => by
    have hr : r.isEmpty = false := by
      cases r with
      | nil => exact absurd rfl (h [] (by simp))
      | cons _ _ => rfl
    simp [getRows, rowD, hr]
    exact ⟨h r (by simp), getRows_of (rows := rows) fun x hx => h x (List.mem_cons_of_mem _ hx)⟩
theorem getRows_inv : ∀ {l : List D} {rows : List (List Int)}, getRows l = some rows → l = rows.map rowD ∧ ∀ r ∈ rows, r ≠ []
  | [], _, e => by cases e; exact ⟨rfl, by simp⟩
  | d :: r, rows, e => by
    cases d <;> first | (cases e; done) | skip
    rename_i l
    obtain ⟨ns, e1, e2⟩ := bindO (show (getInts l).bind _ = some rows from e)
    cases hn : ns with
    | nil => rw [hn] at e2; cases e2
    | cons n ns' =>
      rw [hn] at e2
      obtain ⟨rs, e3, e4⟩ := mapO (show (getRows r).map _ = some rows from e2)
      obtain ⟨h1, h2⟩ := getRows_inv e3
      subst e4
      refine ⟨?_, fun x hx => ?_⟩
      · rw [List.map_cons, ← h1, rowD, ← hn, getInts_map e1]
      · rcases List.mem_cons.mp hx with z | z
        · subst z; simp
        · exact h2 x z
def sortR : D → Option (List D)
  | .lst l => (getRows l).map fun rows => (sortRows rows).map rowD
  | _ => none
theorem rows_rf {K : PySem.W.Frag} {mg : Str → Option Value} {G : Hp} : ∀ {rows : List (List Int)} {vs : List V}, RowsAt K G rows vs → Rfs K mg G (rows.map rowD) vs
  | _, _, .nil => .nil
  | _, _, .cons ⟨t, e, h⟩ r => by
    subst e
    exact .cons (.tup h (Rfs.of_ints _)) (rows_rf r)
theorem rf_rows {K : PySem.W.Frag} {mg : Str → Option Value} {G : Hp} : ∀ {rows : List (List Int)} {vs : List V}, Rfs K mg G (rows.map rowD) vs → RowsAt K G rows vs
  | [], _, r => by cases r; exact .nil
  | ns :: rows, _, r => by
    cases r with
    | cons h r =>
      cases h with
      | tup hT q =>
        have := q.ints
        subst this
        exact .cons ⟨_, rfl, hT⟩ (rf_rows r)
theorem RowsAt.mono {K : PySem.W.Frag} {G G' : Hp} (e : Le G G') {rows : List (List Int)} {vs : List V} (h : RowsAt K G rows vs) : RowsAt K G' rows vs := Paired.mapP h fun _ _ ⟨t, a, b⟩ => ⟨t, a, e.seqU b⟩
/-- what a hidden heap shows of tuples that a whole heap shows -/
theorem RowsAt.hide {K : PySem.W.Frag} {S : List Addr} {H : Hp} (al : ∀ a ∈ S, ∃ o, H a = some o ∧ Own o) {rows : List (List Int)} {vs : List V} (h : RowsAt K H rows vs) : RowsAt K (hide S H) rows vs := Paired.mapP h fun _ _ ⟨t, a, b⟩ => by
  refine ⟨t, a, ?_⟩
  have hid : ∀ o, H t = some o → ¬ Own o → TL.hide S H t = some o := fun o e n => hide_some.mpr ⟨fun z => by
    obtain ⟨o', e', w⟩ := al t z
    rw [e] at e'; cases e'; exact n w, e⟩
  rcases b with b | ⟨k, (b | ⟨o, b⟩) | b⟩
  · exact .inl (hid _ b fun z => z)
  · exact .inl (hid _ b fun z => z)
  · exact .inr ⟨k, .inl (.inr ⟨o, hid _ b fun z => z⟩)⟩
  · exact .inr ⟨k, .inr b⟩
theorem co_sortR : CaO X (rSortedR X.K) (f1L sortR) := co1 fun S H d1 d v1 Q al r1 e q => by
  cases d1 <;> first | (cases e; done) | skip
  rename_i l
  obtain ⟨rows, e1, rfl⟩ := mapO (show (getRows l).map _ = some d from e)
  obtain ⟨rfl, hne⟩ := getRows_inv e1
  obtain ⟨a, vs, rfl, h1, q1⟩ := r1.lst_inv
  exact ⟨a, vs, rows, rfl, .of h1, (rf_rows q1).mono (hide_le _ _), hne, fun ys p hy hp => q p H ys (Grow.refl H) hp (rows_rf (hy.hide al))⟩
def sortInts (ns : List Int) : List Int := ns.mergeSort fun a b => decide (a ≤ b)
theorem sortInts_perm (l : List Int) : (sortInts l).Perm l := List.mergeSort_perm _ _
theorem sortInts_srt (l : List Int) : (sortInts l).Pairwise (· ≤ ·) := by
  have := List.pairwise_mergeSort (le := fun a b : Int => decide (a ≤ b)) (fun a b c h1 h2 => by
    simp only [decide_eq_true_eq] at h1 h2 ⊢
    omega) (fun a b => by
    simp only [Bool.or_eq_true, decide_eq_true_eq]
    omega) l
  exact this.imp fun h => by simpa using h
theorem ints_uniq {l m : List Int} (p : l.Perm m) (h1 : l.Pairwise (· ≤ ·)) (h2 : m.Pairwise (· ≤ ·)) : l = m :=
  srt_uniq (lt := fun a b : Int => decide (a < b)) (fun x y a b => by
    have := of_decide_eq_false a
    have := of_decide_eq_false b
    omega) p (h1.imp fun h => decide_eq_false (by omega)) (h2.imp fun h => decide_eq_false (by omega))
def sortI : D → Option (List D)
  | .lst l => (getInts l).map fun ns => (sortInts ns).map D.int
  | _ => none
theorem co_sortI : CaO X (rSortedI X.K) (f1L sortI) := co1 fun S H d1 d v1 Q al r1 e q => by
  cases d1 <;> first | (cases e; done) | skip
  rename_i l
  obtain ⟨ns, e1, rfl⟩ := mapO (show (getInts l).map _ = some d from e)
  have := getInts_map e1
  subst this
  obtain ⟨a, vs, rfl, h1, q1⟩ := r1.lst_inv
  have := q1.ints
  subst this
  refine ⟨a, ns, rfl, .of h1, fun ns' p hp hs hn => ?_⟩
  rw [ints_uniq (hp.trans (sortInts_perm ns).symm) hs (sortInts_srt ns)]
  exact q p H _ (Grow.refl H) hn (Rfs.of_ints _)
end
/-! ### zip -/
def zipD (l m : List D) : List D := (l.zip m).map fun p => .tup [p.1, p.2]
def iZp (f : Af) : Itf := fun ρ => (f ρ).bind fun p => match p.1 with
  | [.v (.lst l), .v (.lst m)] => some (zipD l m, p.2)
  | [.v (.tup l), .v (.tup m)] => some (zipD l m, p.2)
  | _ => none
section
variable {K : PySem.W.Frag} {mg : Str → Option Value} {G : Hp}
theorem zip_get {l m : List D} {i : Nat} {d : D} (e : (zipD l m)[i]? = some d) : ∃ a b, l[i]? = some a ∧ m[i]? = some b ∧ d = .tup [a, b] := by
  unfold zipD at e
  rw [List.getElem?_map] at e
  cases h : (l.zip m)[i]? with
  | none => rw [h] at e; cases e
  | some p =>
    rw [h] at e
    cases e
    obtain ⟨a, b⟩ := p
    obtain ⟨h1, h2⟩ := List.getElem?_zip_eq_some.mp h
    exact ⟨a, b, h1, h2, rfl⟩
theorem walks_zipT {a b : Addr} {vs ws : List V} {l m : List D} (h : SqT K G a vs) (k : SqT K G b ws) (r : Rfs K mg G l vs) (q : Rfs K mg G m ws) : Walks K mg (RZ.ItzT K a b) (zipD l m) G := fun i S H al le => by
  have h1 : SqT K H a vs := (hide_le S H).seqT (le.seqT h)
  have k1 : SqT K H b ws := (hide_le S H).seqT (le.seqT k)
  refine ⟨fun d e => ?_, fun e => ?_⟩
  · obtain ⟨x, y, e1, e2, rfl⟩ := zip_get e
    obtain ⟨v, ev, rv⟩ := r.get e1
    obtain ⟨w, ew, rw'⟩ := q.get e2
    refine ⟨⟨vs, ws, v, w, h1, k1, ev, ew⟩, fun z H' ⟨T, v', w', ez, nT, eH, f1, f2⟩ => ?_⟩
    subst ez; subst eH
    have a1 := f1 vs h1
    have a2 := f2 ws k1
    rw [ev] at a1; cases a1
    rw [ew] at a2; cases a2
    exact ⟨Grow.upd nT, new_tup al nT (.cons (rv.mono le) (.one (rw'.mono le)))⟩
  · refine ⟨vs, ws, h1, k1, ?_⟩
    have := r.length
    have := q.length
    unfold zipD at e
    simp at e
    omega
theorem walks_zipL {a b : Addr} {vs ws : List V} {l m : List D} (h : G a = some (.lst vs)) (k : G b = some (.lst ws)) (r : Rfs K mg G l vs) (q : Rfs K mg G m ws) : Walks K mg (Itz K a b) (zipD l m) G := fun i S H al le => by
  have h1 : SqL K H a vs := .of (hide_le _ _ _ _ (le _ _ h))
  have k1 : SqL K H b ws := .of (hide_le _ _ _ _ (le _ _ k))
  refine ⟨fun d e => ?_, fun e => ?_⟩
  · obtain ⟨x, y, e1, e2, rfl⟩ := zip_get e
    obtain ⟨v, ev, rv⟩ := r.get e1
    obtain ⟨w, ew, rw'⟩ := q.get e2
    refine ⟨⟨vs, ws, v, w, h1, k1, ev, ew⟩, fun z H' ⟨T, v', w', ez, nT, eH, f1, f2⟩ => ?_⟩
    subst ez; subst eH
    have a1 := f1 vs h1
    have a2 := f2 ws k1
    rw [ev] at a1; cases a1
    rw [ew] at a2; cases a2
    exact ⟨Grow.upd nT, new_tup al nT (.cons (rv.mono le) (.one (rw'.mono le)))⟩
  · refine ⟨vs, ws, h1, k1, ?_⟩
    have := r.length
    have := q.length
    unfold zipD at e
    simp at e
    omega
end
section
variable {X : Cx} {γ : Gm} {τ : List Ty} {e e2 o : Expr} {es : List Expr} {p pos tpos : Pos} {elts : List Expr} {kk : Nat}
theorem di_zip {f : Af} (hg : Gl X "zip") (hm : X.mg "zip" = none) (ha : DA X [e, e2] τ f) (hs : starEach [e, e2] X.env = (false, eval e X.env) :: starEach [e2] X.env := by rfl) (hpl : (backTo pos (starEach [e2] X.env)).any (·.1) = false := by rfl) :
    DI X (.Tuple elts kk tpos) (.Call (.Name "zip" p) [e, e2] [] pos) τ (iZp f) := pi_imp (RZ.pi_zipA hg hm ha hs hpl) fun σ H Q ⟨R, ρ, fs, ds, ρ', s, eq, q⟩ => by
  obtain ⟨w, e1, e2⟩ := bindO eq
  obtain ⟨w1, w2⟩ := w
  simp only at e2
  refine ⟨R, ρ, fs, _, _, s, e1, fun vs H' fs' t s' r => ?_⟩
  split at e2
  · cases e2
    cases r with
    | cons r1 rs =>
      cases rs with
      | cons r2 rs =>
        cases rs
        cases r1 with
        | lst h1 q1 =>
          cases r2 with
          | lst h2 q2 => exact ⟨_, _, _, _, rfl, .inl ⟨.of (hide_le _ _ _ _ h1), .of (hide_le _ _ _ _ h2), q _ H' fs' t s' (walks_zipL h1 h2 q1 q2)⟩⟩
  · cases e2
    cases r with
    | cons r1 rs =>
      cases rs with
      | cons r2 rs =>
        cases rs
        cases r1 with
        | tup h1 q1 =>
          cases r2 with
          | tup h2 q2 => exact ⟨_, _, _, _, rfl, .inr ⟨(hide_le _ _).seqT h1.t, (hide_le _ _).seqT h2.t, q _ H' fs' t s' (walks_zipT h1.t h2.t q1 q2)⟩⟩
  · cases e2
/-! ### methods -/
def isLst : D → Bool
  | .lst _ => true
  | _ => false
def eMtL (g : D → List D → Option D) (f : Ef) (a : Af) : Ef := fun ρ => (f ρ).bind fun p => if isLst (p.1.res p.2) then (a p.2).bind fun q => (g (p.1.res q.2) (q.1.map fun h => h.res q.2)).bind fun d => some (.v d, q.2) else none
/-- a built-in type's method: list T is seen as one -/
theorem de_mtL {r : V → List V → Hp → VK → Prop} {g : D → List D → Option D} {f : Ef} {a : Af} {name : Str} {id : String} {apos cpos : Pos} (slot : Slot "list" name id) (hty : typeOf (.builtin id) = pure (.type "method_descriptor")) (hm : MtR X id r) (o' : MtD X "list" r g)
    (ho : DE X o τ f) (ha : DA X (e :: es) τ a)
    (hbase : attributeBase o name X.env (eval o X.env) = eval o X.env := by rfl)
    (hfew : ((backTo cpos (starEach (e :: es) X.env)).all (fun x => !x.1) && (backToKw cpos (keywordEach [] X.env)).all (fun x => x.1.isSome)
      && decide ((e :: es).length + ([] : List Keyword).length + (if ([] : List Keyword).isEmpty then 0 else 1) < 30)) = true := by rfl)
    (hline : (apos.endLine == cpos.line) = true := by rfl) (hs : starEach (e :: es) X.env = (false, eval e X.env) :: starEach es X.env := by rfl) (hplain : (backTo cpos (starEach es X.env)).any (·.1) = false := by rfl) :
    DE X (.Call (.Attribute o name apos) (e :: es) [] cpos) τ (eMtL g f a) := pe_imp (pe_bm PySem.F.plainAttrs_list slot hty hm ho ha hbase hfew hline hs hplain) fun σ H Q ⟨R, ρ, fs, h, ρ', s, eq, q⟩ => by
  obtain ⟨w, e1, e2⟩ := bindO eq
  obtain ⟨hl, e2⟩ := ifSomeO e2
  obtain ⟨z, e3, e4⟩ := bindO e2
  obtain ⟨d, e5, e6⟩ := bindO e4
  cases e6
  refine ⟨R, ρ, fs, w.1, w.2, s, e1, fun v H1 fs1 t1 s1 r1 => ⟨?_, R, w.2, fs1, z.1, z.2, s1, e3, fun vs H2 fs2 t2 s2 r2 => ?_⟩⟩
  · have rv := s1.res r1
    revert rv hl
    generalize w.1.res w.2 = dd
    intro hl rv
    cases dd <;> first | (cases hl; done) | skip
    obtain ⟨a, vs, rfl, h1, _⟩ := rv.lst_inv
    exact .inl ⟨rfl, _, .of h1⟩
  · exact o' (R ++ fs2) H2 _ _ _ v vs Q s2.own (s2.res (s1.holdH t2 r1)) (s2.ress r2) e5 fun v4 H4 g4 rf => q v4 H4 fs2 ((t1.trans t2).trans (Step.grow g4 _)) (s2.grow g4) rf
def indexD : D → List D → Option D
  | .lst l, [d] => if pyOk 39 d && l.all (pyOk 39) then (l.findIdx? fun z => dq z d).map fun j => .int (j : Nat) else none
  | _, _ => none
theorem pys_get : ∀ {l : List D} {i : Nat}, (pys l)[i]? = (l[i]?).map py
  | [], i => by simp [pys]
  | a :: r, 0 => by simp [pys]
  | a :: r, i + 1 => by simpa [pys] using pys_get (l := r) (i := i)
theorem mtd_index : MtD X "list" (rIndexD X.K) indexD := fun S H d1 ds d v1 vs Q al r1 rs e q => by
  match d1, ds, rs, e with
  | .lst l, [x], rs, e =>
    obtain ⟨v, rfl, r2⟩ := rs.one
    obtain ⟨h, e⟩ := ifSomeO (show (if pyOk 39 x && l.all (pyOk 39) then (l.findIdx? fun z => dq z x).map fun j => D.int (j : Nat) else none) = some d from e)
    rw [Bool.and_eq_true] at h
    obtain ⟨j, e1, rfl⟩ := mapO e
    obtain ⟨hj, e2, e3⟩ := List.findIdx?_eq_some_iff_getElem.mp e1
    have r1' := r1.dpL h.2
    obtain ⟨a, ws, rfl, h1, q1⟩ := r1.lst_inv
    have hall : ∀ i (hi : i < l.length), pyOk 39 l[i] = true := fun i hi => List.all_eq_true.mp h.2 _ (List.getElem_mem hi)
    refine ⟨a, v, py x, pys l, j, py l[j], rfl, rfl, r1', r2.dp h.1, shaped_of (d := .lst l) h.2, shaped_of39 h.1, ?_, ?_, fun m z' hm hz => ?_, q _ H (Grow.refl H) (.int _)⟩
    · rw [pys_get, List.getElem?_eq_getElem hj]; rfl
    · rw [eqv_dq 39 _ _ (hall j hj) h.1]; exact e2
    · rw [pys_get, List.getElem?_eq_getElem (by omega)] at hz
      cases hz
      rw [eqv_dq 39 _ _ (hall m (by omega)) h.1]
      have := e3 m hm
      simpa using this
/-! ### isinstance(x, (list, tuple)) -/
def eIsLT (f : Ef) : Ef := fun ρ => (f ρ).bind fun p => (isB .list (p.1.res p.2)).bind fun k => (isB .tuple (p.1.res p.2)).bind fun k' => some (.v (.bl (k || k')), p.2)
theorem de_isLT {f : Ef} {x : Str} {p2 p3 pt : Pos} {kt : Nat} (hg : Gl X x) (hm : X.mg x = none) (hv : bootBuiltins x = some (.builtin "isinstance")) (hgl : Gl X "list") (hml : X.mg "list" = none) (hvl : bootBuiltins "list" = some (.type "list")) (hgt : Gl X "tuple") (hmt : X.mg "tuple" = none) (hvt : bootBuiltins "tuple" = some (.type "tuple")) (he : DE X e τ f) (hn : x ≠ "__name__" := by decide) (hdb : (x == ("__debug__" : Str)) = false := by decide)
    (hs : starEach [e, .Tuple [.Name "list" p2, .Name "tuple" p3] kt pt] X.env = (false, eval e X.env) :: starEach [.Tuple [.Name "list" p2, .Name "tuple" p3] kt pt] X.env := by rfl) (hpl : (backTo pos (starEach [Expr.Tuple [.Name "list" p2, .Name "tuple" p3] kt pt] X.env)).any (·.1) = false := by rfl) :
    DE X (.Call (.Name x p) [e, .Tuple [.Name "list" p2, .Name "tuple" p3] kt pt] [] pos) τ (eIsLT f) :=
  pe_imp (pe_callB call_isiT hg hm hv (pa_cons he (pa_cons (pe_tup (pa_cons (pe_bltn (v := .ty "list") hgl hml hvl rfl) (pa_cons (pe_bltn (v := .ty "tuple") hgt hmt hvt rfl) pa_nil rfl) rfl)) pa_nil rfl) hs) hn hdb hs hpl) fun σ H Q ⟨R, ρ, fs, h, ρ', s, e, q⟩ => by
  obtain ⟨w, e1, e2⟩ := bindO e
  obtain ⟨k, e3, e4⟩ := bindO e2
  obtain ⟨k', e5, e6⟩ := bindO e4
  cases e6
  refine ⟨R, ρ, fs, w.1, w.2, s, e1, fun v H1 fs1 t1 s1 r => ⟨by decide, fun tp htp => ?_⟩⟩
  have g := Grow.upd (o := .tup [V.ty "list", V.ty "tuple"]) htp
  refine ⟨v, tp, [.ty "list", .ty "tuple"], .type (tyNm (w.1.res w.2)), [.type "list", .type "tuple"], k || k', rfl, upd_same, .cons (.ty "list") (.cons (.ty "tuple") .nil), ?_, ?_, ?_⟩
  · exact ((s1.grow g).res ((s1.holdH (Step.grow g fs1) r))).tyx e3
  · refine kitAny_cons (b := k) (kit_isB e3) (fun hk => ?_) (fun hk => by rw [hk]; rfl)
    refine kitAny_cons (b := k') (kit_isB e5) (fun hk' => ?_) (fun hk' => by rw [hk']; simp)
    rw [hk, hk']
    exact kitAny_nil
  · exact q _ _ fs1 (t1.trans (Step.grow g _)) (s1.grow g) (.bl _)
end
/-! ### constants of the module -/
structure KC (K : PySem.W.Frag) (m : Str → Option Value) (x : Str) (d : D) where
  v : V
  u : Value
  mg : m x = some u
  rl : RelV v u
  rf : ∀ G, Rf K m G d v
/-! ### a list of lists: o[i][j] = e, the indices quiet -/
abbrev Qf := Rho → Option D
def tQ (X : Cx) (τ : List Ty) (f : Qf) : TE := fun σ H Q => ∃ R ρ fs d, SR X.K X.mg R τ ρ σ H fs ∧ f ρ = some d ∧ ∀ v H', Grow H H' → Rf X.K X.mg (hide (R ++ fs) H') d v → Q v H'
abbrev DQ (X : Cx) (e : Expr) (τ : List Ty) (f : Qf) : Prop := PE X e (tQ X τ f)
def qVar (i : Nat) : Qf := fun ρ => some (ρ.getD i .non)
def qInt (n : Int) : Qf := fun _ => some (.int n)
section
variable {X : Cx} {γ : Gm} {τ : List Ty} {e ok ei ej : Expr} {p pp pos : Pos}
theorem dq_var {e : Expr} (i : Nat) (h : PE X e (tVar i)) (ht : τ[i]? = some .sh := by rfl) : DQ X e τ (qVar i) := pe_imp h fun σ H Q ⟨R, ρ, fs, d, s, e, q⟩ => by
  cases e
  obtain ⟨v, f, ev, r, _⟩ := s.get ht (by intro z; cases z)
  cases r with
  | sh r => exact ⟨v, ev, q v H (Grow.refl H) r⟩
theorem dq_int {i j} {pos : Pos} : DQ X (.Constant (.int i) j pos) τ (qInt i) := pe_imp pe_int fun σ H Q ⟨R, ρ, fs, d, s, e, q⟩ => by
  cases e
  exact q _ H (Grow.refl H) (.int _)
theorem Rps.split {K : PySem.W.Frag} {mg : Str → Option Value} {H G : Hp} : ∀ {ts : List Ty} {ds : List D} {vs : List V} {f : List Addr} {i : Nat} {t : Ty}, Rps K mg H G ts ds vs f → ts[i]? = some t →
    ∃ d v f1 fo f2, ds[i]? = some d ∧ vs[i]? = some v ∧ f = f1 ++ fo ++ f2 ∧ Rp K mg H G t d v fo ∧
      ∀ {H' G' : Hp} {d' : D} {fo' : List Addr}, (∀ a ∈ f1 ++ f2, H' a = H a) → Le G G' → Rp K mg H' G' t d' v fo' → Rps K mg H' G' ts (ds.set i d') vs (f1 ++ fo' ++ f2)
  | _, _, _, _, _, _, .nil, e => by simp at e
  | _, _, _, _, 0, t, .cons (d := d) (v := v) (f := f0) (g := g) h r, e => by
    simp at e
    subst e
    refine ⟨d, v, [], f0, g, rfl, rfl, by simp, h, fun {H' G' d' fo'} k le h' => ?_⟩
    exact .cons h' (r.mono le fun a ha => k a (by simpa using ha))
  | _, _, _, _, i + 1, t, .cons (d := d0) (v := v0) (f := f0) (g := g) h r, e => by
    obtain ⟨d, v, f1, fo, f2, e1, e2, ef, hp, k⟩ := Rps.split (i := i) r (by simpa using e)
    refine ⟨d, v, f0 ++ f1, fo, f2, by simpa using e1, by simpa using e2, by rw [ef]; simp, hp, fun {H' G' d' fo'} kk le h' => ?_⟩
    have := Rps.cons (h.mono le fun a ha => kk a (by simp [ha])) (k (fun a ha => kk a (by simp at ha ⊢; rcases ha with h | h <;> simp [h])) le h')
    simpa using this
def sSetIx2 (i : Nat) (f : Ef) (fi fj : Qf) : Sf := fun ρ => (f ρ).bind fun p => (fi p.2).bind fun di => (fj p.2).bind fun dj => match p.1, di, dj, p.2.getD i .non with
  | .v d, .int k, .int m, .lst l => (ixN l.length k).bind fun j => (l[j]?).bind fun c => match c with
      | .lst r => (setL r m d).bind fun r' => some (.nx (p.2.set i (.lst (l.set j (.lst r')))))
      | _ => none
  | _, _, _, _ => none
theorem sSetIx2_inv {i : Nat} {f : Ef} {fi fj : Qf} {ρ : Rho} {o : Out} (e : sSetIx2 i f fi fj ρ = some o) : ∃ d ρ1 k m l j r j2, f ρ = some (.v d, ρ1) ∧ fi ρ1 = some (.int k) ∧ fj ρ1 = some (.int m) ∧ ρ1.getD i .non = .lst l ∧ ixN l.length k = some j ∧ l[j]? = some (.lst r) ∧ ixN r.length m = some j2 ∧ o = .nx (ρ1.set i (.lst (l.set j (.lst (r.set j2 d))))) := by
  obtain ⟨p, e1, e2⟩ := bindO e
  obtain ⟨di, e3, e4⟩ := bindO e2
  obtain ⟨dj, e5, e6⟩ := bindO e4
  obtain ⟨p1, p2⟩ := p
  cases p1 with
  | x i => cases e6
  | v d =>
    cases di <;> first | (cases e6; done) | skip
    cases dj <;> first | (cases e6; done) | skip
    rename_i k m
    simp only at e6 e3 e5
    cases hl : p2.getD i .non <;> rw [hl] at e6 <;> first | (cases e6; done) | skip
    rename_i l
    obtain ⟨j, e7, e8⟩ := bindO e6
    obtain ⟨c, e9, e10⟩ := bindO e8
    cases c <;> first | (cases e10; done) | skip
    rename_i r
    obtain ⟨r', e11, e12⟩ := bindO e10
    obtain ⟨j2, e13, e14⟩ := bindO e11
    cases e14
    cases e12
    exact ⟨d, p2, k, m, l, j, r, j2, e1, e3, e5, hl, e7, e9, e13, rfl⟩
theorem ds_setix2 {f : Ef} {fi fj : Qf} (i : Nat) (he : DE X e τ f) (ho : PE X ok (tVar i)) (hi : DQ X ei τ fi) (hj : DQ X ej τ fj) (ht : τ[i]? = some (.oL (.oL .sh)) := by rfl) (hpl : PlainIx ei := by exact fun _ _ => rfl)
    (ha : ∀ v, assign (.Subscript (.Subscript ok ei pp) ej p) X.env v = (do
      let ov ← holding [v] (eval (.Subscript ok ei pp) X.env)
      let iv ← holding [v, ov] (eval ej X.env)
      standAt p
      holding [v, ov, iv] (setItem ov iv v)
      release [v, ov, iv] []) := by intro _; rfl)
    (hs : swapsWithSole [.Subscript (.Subscript ok ei pp) ej p] e pos.line X.env = pure false := by rfl) (hw : swappedStores [.Subscript (.Subscript ok ei pp) ej p] e X.env = pure none := by rfl)
    (h1 : (assignEach [.Subscript (.Subscript ok ei pp) ej p] X.env).map (·.2) = [assign (.Subscript (.Subscript ok ei pp) ej p) X.env] := by rfl) :
    DS X γ (.Assign [.Subscript (.Subscript ok ei pp) ej p] e pos) τ (sSetIx2 i f fi fj) τ := ps_imp (ps_asg he (pg_sub (pe_ix ix_list ho hi hpl) hj set_list ha) hs hw h1) fun D σ H ⟨R, ρ, fs, out, s, e, q⟩ => by
  obtain ⟨d, ρ1, k, m, l, j, r, j2, e1, e3, e5, hl, e7, e9, e13, rfl⟩ := sSetIx2_inv e
  obtain ⟨v0, f0, ev0, r0, _⟩ := s.get ht (by intro z; cases z)
  refine ⟨R, ρ, fs, _, _, s, e1, fun v H1 fs1 t1 s1 rv => ⟨v0, ev0, R, ρ1, fs1, _, s1, e3, fun vi H2 g2 ri => ?_⟩⟩
  cases ri
  have s2 := s1.grow g2
  have rv2 : Rf X.K X.mg (hide (R ++ fs1) H2) d v := Rf.mono (hide_grow _ g2) rv
  obtain ⟨f1, fo, f2, ef, hos, _, _, h2', _⟩ := s2.sl.split ht
  rcases hos with ⟨z, _⟩ | ⟨v1, ev1, r1⟩
  · cases z
  rw [ev0] at ev1; cases ev1
  rw [hl] at r1
  cases r1 with
  | @oL t a vs ds g h rs =>
    have hjl : j < l.length := (List.getElem?_eq_some_iff.mp e9).1
    obtain ⟨dd, vb, g1, go, g2', ed, evb, eg, rb, mkb⟩ := rs.split (i := j) (t := .oL .sh) (by rw [List.getElem?_replicate, if_pos hjl])
    rw [e9] at ed; cases ed
    cases rb with
    | @oL t b ws ds' gg hb rbs =>
      obtain ⟨rfb, egg⟩ := rbs.to_sh
      subst egg
      refine ⟨a, vs, k, .ref b, rfl, rfl, .of h, ?_, R, ρ1, fs1, _, s2, e5, fun vj H3 g3 rj => ?_⟩
      · unfold atI
        rw [← rs.len, e7]
        exact evb
      cases rj
      have hb3 := g3 _ _ hb
      refine ⟨b, ws, m, j2, rfl, rfl, hb3, by rw [← rfb.length]; exact e13, ?_⟩
      have s3 := s2.grow g3
      have nd := s3.nd
      have hbfs : b ∈ fs1 := by rw [ef, eg]; simp
      have hab : a ≠ b := fun z => by
        rw [ef, eg] at nd
        simp only [List.nodup_append, List.nodup_cons, List.mem_append, List.mem_cons] at nd
        exact nd.2.1.1.2.1.1 (.inl (.inr (.inl z)))
      have le : Le (hide (R ++ fs1) H2) (hide (R ++ fs1) (upd H3 b (.lst (ws.set j2 v)))) := (hide_grow _ g3).trans (hide_mono fun c u n e => ⟨n, by rw [upd_ne fun z => n (by rw [z]; exact List.mem_append_right _ hbfs)]; exact e⟩)
      have keepF : ∀ c ∈ fs1, c ≠ b → upd H3 b (.lst (ws.set j2 v)) c = H2 c := fun c hc z => by
        obtain ⟨u, eu, _⟩ := s2.sl.there c hc
        rw [upd_ne z, eu]
        exact g3 _ _ eu
      have nin : ∀ c ∈ g1 ++ g2', c ≠ b := fun c hc z => by
        subst z
        rw [ef, eg] at nd
        simp only [List.nodup_append, List.nodup_cons, List.mem_append, List.mem_cons] at nd
        rcases List.mem_append.mp hc with hc | hc
        · exact nd.2.1.1.2.1.2.1.2.2 c hc c (.inl rfl) rfl
        · exact nd.2.1.1.2.1.2.2.2 c (.inr (.inl rfl)) c hc rfl
      have nin2 : ∀ c ∈ f1 ++ f2, c ≠ b := fun c hc z => by
        subst z
        rw [ef, eg] at nd
        simp only [List.nodup_append, List.nodup_cons, List.mem_append, List.mem_cons] at nd
        rcases List.mem_append.mp hc with hc | hc
        · exact nd.2.1.1.2.2 c hc c (.inr (.inl (.inr (.inl rfl)))) rfl
        · exact nd.2.1.2.2 c (.inr (.inr (.inl (.inr (.inl rfl))))) c hc rfl
      have rbn : Rp X.K X.mg (upd H3 b (.lst (ws.set j2 v))) (hide (R ++ fs1) (upd H3 b (.lst (ws.set j2 v)))) (.oL .sh) (.lst (r.set j2 d)) (.ref b) [b] := .oL upd_same (Rps.of_sh ((rfb.set j2 rv2).mono le))
      have rsn := mkb (fun c hc => keepF c (by rw [ef, eg]; simp only [List.mem_append, List.mem_cons] at hc ⊢; rcases hc with h | h <;> simp [h]) (nin c hc)) le rbn
      have ra : Rp X.K X.mg (upd H3 b (.lst (ws.set j2 v))) (hide (R ++ fs1) (upd H3 b (.lst (ws.set j2 v)))) (.oL (.oL .sh)) (.lst (l.set j (.lst (r.set j2 d)))) (.ref a) (a :: g) := by
        refine .oL (vs := vs) ?_ ?_
        · rw [upd_ne hab]; exact g3 _ _ h
        · rw [List.length_set, eg]; exact rsn
      have sl' := h2' (H' := upd H3 b (.lst (ws.set j2 v))) (fun c hc => keepF c (by rw [ef]; simp only [List.mem_append, List.mem_cons] at hc ⊢; rcases hc with h | h <;> simp [h]) (nin2 c hc)) le ev0 ra
      rw [set_at ht, ← ef] at sl'
      refine q σ _ fs1 (t1.trans ((Step.grow (g2.trans g3) fs1).trans ⟨fun c u n e => ?_, fun c hc => .inl hc, fun c u e => ?_⟩)) (Kp.refl _ _) ⟨sl', nd, fun c hc => ?_⟩
      · rw [upd_ne fun z => n (by rw [z]; exact hbfs)]; exact e
      · by_cases z : c = b
        · exact ⟨_, by rw [z, upd_same]⟩
        · exact ⟨u, by rw [upd_ne z]; exact e⟩
      · obtain ⟨u, eu, w⟩ := s3.al c hc
        exact ⟨u, by rw [upd_ne fun z => (List.nodup_append.mp nd).2.2 c hc b hbfs z]; exact eu, w⟩
end
end TL

namespace TL
open PySem PySem.Spec PyProof.Rows L2

def spL (K : PySem.W.Frag) : Sp := fun vs H Q _ => ∃ (a : Addr) (ns : List Int), vs = [.ref a] ∧ SqL K H a (ns.map V.int) ∧ ns.length ≤ 63 ∧ ∀ H', Q (.bl true) H'
theorem law_imp {K : PySem.W.Frag} {mg : Str → Option Value} {F : Fm} (h : lawF F) : ∀ vs H Q E, spL K vs H Q E → spD K mg sgL F vs H Q E := fun vs H Q E ⟨a, ns, ev, hS, hl, q⟩ => by
  subst ev
  obtain ⟨r, e⟩ := h ns hl
  refine ⟨[], [.scr ns], [], .bl true, r, ⟨.cons (f := []) (g := []) (.sh (.scr ?_)) .nil, List.nodup_nil, fun a ha => nomatch ha⟩, e, fun v H' fs' fv _ _ rp => ?_⟩
  · have eq : hide [] H = H := by funext a; simp [hide]
    rw [show ([] : List Addr) ++ [] = [] from rfl, eq]
    exact hS
  · cases rp with
    | sh rf => cases rf; exact q H'
theorem toL {P : Program} {w : World} {K : PySem.W.Frag} {mg : Str → Option Value} {fa : Addr} {k : Nat} {F : Fm} {B : FuncData → Prop} (h : lawF F)
    (x : ∃ fd : FuncData, B fd ∧ ∀ base : Heap, K.In base → base.Ns mainGlobals mg → FnOk P w K mg base CX0 k fa fd ["script"] (spD K mg sgL F)) :
    ∃ fd : FuncData, B fd ∧ ∀ base : Heap, K.In base → base.Ns mainGlobals mg → FnOk P w K mg base CX0 k fa fd ["script"] (spL K) := by
  obtain ⟨fd, b, f⟩ := x
  exact ⟨fd, b, fun base h1 h2 => (f base h1 h2).imp (law_imp h)⟩
theorem Cal.none {P : Program} {w : World} {K : PySem.W.Frag} {mg : Str → Option Value} {base : Heap} {f : Addr} {fd : FuncData} {x : Str} {st : Stmt} {k : Nat} {ps : List Str} {sg : Sg} (D : Dfn K mg x st ps f fd) : Cal P w K mg base f fd x k ps sg (fun _ => none) :=
  ⟨{ len := fun vs H Q E h => (by obtain ⟨_, _, _, _, _, _, e, _⟩ := h; cases e), run := fun A outer s H args us vs Q E _ _ _ _ h => (by obtain ⟨_, _, _, _, _, _, e, _⟩ := h; cases e) }, D.mg, D.fn.kp, D.bd, fun ds r e => by cases e⟩
end TL

namespace TL
open PySem PySem.Spec PyProof.Rows L2

section ev
variable (ρ : Rho) (f f' f'' : Ef) (t t' : Tf) (g : Af) (b b' : Sf) (o : Of)
@[simp] theorem v_eC (d : D) : eC d ρ = some (.v d, ρ) := rfl
@[simp] theorem v_eVar (i : Nat) : eVar i ρ = some (.v (ρ.getD i .non), ρ) := rfl
@[simp] theorem v_eOwn (i : Nat) : eOwn i ρ = some (.x i, ρ) := rfl
@[simp] theorem v_res (d : D) : Hd.res (.v d) ρ = d := rfl
@[simp] theorem x_res (i : Nat) : Hd.res (.x i) ρ = ρ.getD i .non := rfl
@[simp] theorem v_eBin (k : D → D → Option D) : eBin k f f' ρ = (f ρ).bind fun p => (f' p.2).bind fun q => (k (p.1.res q.2) (q.1.res q.2)).bind fun d => some (.v d, q.2) := rfl
@[simp] theorem v_eBinO (k : D → D → Option (List D)) : eBinO k f f' ρ = (f ρ).bind fun p => (f' p.2).bind fun q => (k (p.1.res q.2) (q.1.res q.2)).bind fun d => some (.lst d, q.2) := rfl
@[simp] theorem v_eF : eF o ρ = (o ρ).bind fun p => some (.v p.1, p.2) := rfl
@[simp] theorem v_tB : tB f ρ = (f ρ).bind fun p => (truthD (p.1.res p.2)).bind fun k => some (k, p.2) := rfl
def blOf (p : Hd × Rho) : Option (Bool × Rho) := match p.1 with
  | .v (.bl k) => some (k, p.2)
  | _ => none
@[simp] theorem v_blOf (k : Bool) : blOf (.v (.bl k), ρ) = some (k, ρ) := rfl
@[simp] theorem v_tBl : tBl f ρ = (f ρ).bind blOf := rfl
@[simp] theorem v_tAnd : tAnd' t t' ρ = (t ρ).bind fun p => if p.1 then t' p.2 else some (false, p.2) := rfl
@[simp] theorem v_tOr : tOr' t t' ρ = (t ρ).bind fun p => if p.1 then some (true, p.2) else t' p.2 := rfl
@[simp] theorem v_tNot : tNot' t ρ = (t ρ).bind fun p => some (!p.1, p.2) := rfl
@[simp] theorem v_tYes : tYesF ρ = some (true, ρ) := rfl
@[simp] theorem v_eAnd : eAnd f f' ρ = (f ρ).bind fun p => (truthD (p.1.res p.2)).bind fun k => if k then f' p.2 else some p := rfl
@[simp] theorem v_eOr : eOr f f' ρ = (f ρ).bind fun p => (truthD (p.1.res p.2)).bind fun k => if k then some p else f' p.2 := rfl
@[simp] theorem v_eNot : eNot f ρ = (f ρ).bind fun p => (truthD (p.1.res p.2)).bind fun k => some (.v (.bl (!k)), p.2) := rfl
@[simp] theorem v_eIf : eIf t f f' ρ = (t ρ).bind fun p => if p.1 then f p.2 else f' p.2 := rfl
def chain2 (k' : D → D → Option D) (q : Hd × Rho) (r : Ef) : D → Option (Hd × Rho)
  | .bl true => (r q.2).bind fun r => (k' (q.1.res r.2) (r.1.res r.2)).bind fun d' => some (.v d', r.2)
  | .bl false => some (.v (.bl false), q.2)
  | _ => none
@[simp] theorem v_chain2 (k' : D → D → Option D) (q : Hd × Rho) (r : Ef) (c : Bool) : chain2 k' q r (.bl c) = if c then (r q.2).bind fun r => (k' (q.1.res r.2) (r.1.res r.2)).bind fun d' => some (.v d', r.2) else some (.v (.bl false), q.2) := by
  cases c <;> rfl
@[simp] theorem v_eChain (k k' : D → D → Option D) : eChain k k' f f' f'' ρ = (f ρ).bind fun p => (f' p.2).bind fun q => (k (p.1.res q.2) (q.1.res q.2)).bind (chain2 k' q f'') := by
  unfold eChain
  congr 1
@[simp] theorem v_aNil : aNil ρ = some ([], ρ) := rfl
@[simp] theorem v_aCons : aCons f g ρ = (f ρ).bind fun p => (g p.2).bind fun q => some (p.1 :: q.1, q.2) := rfl
@[simp] theorem v_hv0 : hvals [] = some [] := rfl
@[simp] theorem v_hv1 (d : D) (r : List Hd) : hvals (.v d :: r) = (hvals r).bind fun ds => some (d :: ds) := rfl
@[simp] theorem v_eTup : eTup g ρ = (g ρ).bind fun p => (hvals p.1).bind fun ds => if okLen ds.length then some (.v (.tup ds), p.2) else none := rfl
@[simp] theorem v_oLst : oLst g ρ = (g ρ).bind fun p => (hvals p.1).bind fun ds => if okLen ds.length then some (.lst ds, p.2) else none := rfl
@[simp] theorem v_eUn (k : D → Option D) : eUn k f ρ = (f ρ).bind fun p => (k (p.1.res p.2)).bind fun d => some (.v d, p.2) := rfl
@[simp] theorem v_eCa (k : List D → Option D) : eCa k g ρ = (g ρ).bind fun p => (k (p.1.map fun h => h.res p.2)).bind fun d => some (.v d, p.2) := rfl
@[simp] theorem v_oCa (k : List D → Option (List D)) : oCa k g ρ = (g ρ).bind fun p => (k (p.1.map fun h => h.res p.2)).bind fun d => some (.lst d, p.2) := rfl
@[simp] theorem v_f1 (k : D → Option D) (d : D) : f1 k [d] = k d := rfl
@[simp] theorem v_f1L (k : D → Option (List D)) (d : D) : f1L k [d] = k d := rfl
@[simp] theorem v_f2 (k : D → D → Option D) (d e : D) : f2 k [d, e] = k d e := rfl
@[simp] theorem v_pNo : pNo ρ = some (none, ρ) := rfl
def ptOf (p : Hd × Rho) : Option (Option Int × Rho) := match p.1 with
  | .v (.int i) => some (some i, p.2)
  | _ => none
@[simp] theorem v_ptOf (i : Int) : ptOf (.v (.int i), ρ) = some (some i, ρ) := rfl
@[simp] theorem v_pSome : pSome f ρ = (f ρ).bind ptOf := rfl
@[simp] theorem v_eSl (k : D → Option Int → Option Int → Option D) (lo hi : Pf) : eSl k f lo hi ρ = (f ρ).bind fun p => (lo p.2).bind fun l => (hi l.2).bind fun h => (k (p.1.res h.2) l.1 h.1).bind fun d => some (.v d, h.2) := rfl
@[simp] theorem v_oSl (k : D → Option Int → Option Int → Option (List D)) (lo hi : Pf) : oSl k f lo hi ρ = (f ρ).bind fun p => (lo p.2).bind fun l => (hi l.2).bind fun h => (k (p.1.res h.2) l.1 h.1).bind fun d => some (.lst d, h.2) := rfl
@[simp] theorem v_eIsI (bt : Bt) : eIsI bt f ρ = (f ρ).bind fun p => (isB bt (p.1.res p.2)).bind fun k => some (.v (.bl k), p.2) := rfl
@[simp] theorem v_eIsLT : eIsLT f ρ = (f ρ).bind fun p => (isB .list (p.1.res p.2)).bind fun k => (isB .tuple (p.1.res p.2)).bind fun k' => some (.v (.bl (k || k')), p.2) := rfl
@[simp] theorem v_eMtL (k : D → List D → Option D) : eMtL k f g ρ = (f ρ).bind fun p => if isLst (p.1.res p.2) then (g p.2).bind fun q => (k (p.1.res q.2) (q.1.map fun h => h.res q.2)).bind fun d => some (.v d, q.2) else none := rfl
def oeOf (p : Hd × Rho) : Option (D × Rho) := match p.1 with
  | .v d => some (d, p.2)
  | _ => none
@[simp] theorem v_oeOf (d : D) : oeOf (.v d, ρ) = some (d, ρ) := rfl
@[simp] theorem v_oE : oE f ρ = (f ρ).bind oeOf := rfl
@[simp] theorem v_oCall (F : Fm) : oCall F g ρ = (g ρ).bind fun p => (hvals p.1).bind fun ds => (F ds).bind fun r => some (r.1, p.2) := rfl
@[simp] theorem v_oCallB (ty : Ty) (F : Fm) : oCallB ty F g ρ = (g ρ).bind fun p => (F (p.1.map fun h => h.res p.2)).bind fun r => if immR ty r.1 then some (r.1, p.2) else none := rfl
@[simp] theorem v_oCallI (F : Fm) (i j : Nat) : oCallI F i j g ρ = (g ρ).bind fun p => (hvI i p.1 j p.2).bind fun ds => (F ds).bind fun r => some (r.1, p.2.set i (r.2.getD j .non)) := rfl
@[simp] theorem v_hvI (i : Nat) (r : List Hd) : hvI i (.x i :: r) 0 ρ = (hvals r).bind fun ds => some (ρ.getD i .non :: ds) := by simp [hvI]
@[simp] theorem v_hvI1 (i j : Nat) (d : D) (r : List Hd) : hvI i (.v d :: r) (j + 1) ρ = (hvI i r j ρ).bind fun ds => some (d :: ds) := rfl
/-! statements -/
@[simp] theorem v_sNil : sNil ρ = some (.nx ρ) := rfl
def andThen (b : Sf) : Out → Option Out
  | .nx ρ => b ρ
  | o => some o
@[simp] theorem v_then_nx : andThen b (.nx ρ) = b ρ := rfl
@[simp] theorem v_then_rt (d : D) : andThen b (.rt d ρ) = some (.rt d ρ) := rfl
@[simp] theorem v_then_bk : andThen b (.bk ρ) = some (.bk ρ) := rfl
@[simp] theorem v_then_ct : andThen b (.ct ρ) = some (.ct ρ) := rfl
@[simp] theorem v_sSeq : sSeq b b' ρ = (b ρ).bind (andThen b') := by
  unfold sSeq
  congr 1
def thenKl (ks : List Nat) : Out → Option Out
  | .nx ρ => some (.nx (kill ks ρ))
  | o => some o
@[simp] theorem v_thenKl_nx (ks : List Nat) : thenKl ks (.nx ρ) = some (.nx (kill ks ρ)) := rfl
@[simp] theorem v_thenKl_rt (ks : List Nat) (d : D) : thenKl ks (.rt d ρ) = some (.rt d ρ) := rfl
@[simp] theorem v_thenKl_bk (ks : List Nat) : thenKl ks (.bk ρ) = some (.bk ρ) := rfl
@[simp] theorem v_thenKl_ct (ks : List Nat) : thenKl ks (.ct ρ) = some (.ct ρ) := rfl
@[simp] theorem v_sKl (ks : List Nat) : sKl ks b ρ = (b ρ).bind (thenKl ks) := by
  unfold sKl
  congr 1
@[simp] theorem v_sKb (ks : List Nat) : sKb ks b ρ = b (kill ks ρ) := rfl
@[simp] theorem v_sPass : sPass ρ = some (.nx ρ) := rfl
@[simp] theorem v_sBrk : sBrk ρ = some (.bk ρ) := rfl
@[simp] theorem v_sCont : sCont ρ = some (.ct ρ) := rfl
def rtOf (p : Hd × Rho) : Option Out := match p.1 with
  | .v d => some (.rt d p.2)
  | _ => none
@[simp] theorem v_rtOf (d : D) : rtOf (.v d, ρ) = some (.rt d ρ) := rfl
@[simp] theorem v_sRet : sRet f ρ = (f ρ).bind rtOf := rfl
@[simp] theorem v_sRetO : sRetO o ρ = (o ρ).bind fun p => some (.rt p.1 p.2) := rfl
@[simp] theorem v_sRetX (i : Nat) : sRetX i ρ = some (.rt (ρ.getD i .non) ρ) := rfl
@[simp] theorem v_sRetN : sRetN ρ = some (.rt .non ρ) := rfl
@[simp] theorem v_sIf : sIf t b b' ρ = (t ρ).bind fun p => if p.1 then b p.2 else b' p.2 := rfl
@[simp] theorem v_gNm (i : Nat) (d : D) : gNm i d ρ = some (ρ.set i d) := rfl
@[simp] theorem v_gsNil : gsNil [] ρ = some ρ := rfl
@[simp] theorem v_gsCons (k : Gf) (h : List D → Rho → Option Rho) (d : D) (r : List D) : gsCons k h (d :: r) ρ = (k d ρ).bind fun ρ' => h r ρ' := rfl
@[simp] theorem v_gTp (k : List D → Rho → Option Rho) (ds : List D) : gTp k (.tup ds) ρ = k ds ρ := rfl
def asgOf (k : Gf) (p : Hd × Rho) : Option Out := match p.1 with
  | .v d => (k d p.2).bind fun ρ' => some (.nx ρ')
  | _ => none
@[simp] theorem v_asgOf (k : Gf) (d : D) : asgOf k (.v d, ρ) = (k d ρ).bind fun ρ' => some (.nx ρ') := rfl
@[simp] theorem v_sAsg (k : Gf) : sAsg f k ρ = (f ρ).bind (asgOf k) := rfl
@[simp] theorem v_sSetO (i : Nat) : sSetO i o ρ = (o ρ).bind fun p => some (.nx (p.2.set i p.1)) := rfl
def appOf (i : Nat) (p : Hd × Rho) : Option Out := match p.1, p.2.getD i .non with
  | .v d, .lst l => if okLen (l.length + 1) then some (.nx (p.2.set i (.lst (l ++ [d])))) else none
  | _, _ => none
theorem v_appOf (i : Nat) (d : D) (l : List D) (h : ρ.getD i .non = .lst l) : appOf i (.v d, ρ) = if okLen (l.length + 1) then some (.nx (ρ.set i (.lst (l ++ [d])))) else none := by
  unfold appOf; simp only [h]
@[simp] theorem v_sApp (i : Nat) : sApp i f ρ = (f ρ).bind (appOf i) := rfl
def setIxOf (i : Nat) (fk : Ef) : Hd × Rho → Option Out := fun p => (fk p.2).bind fun q => match p.1, q.1, q.2.getD i .non with
  | .v d, .v (.int k), .lst l => (setL l k d).bind fun l' => some (.nx (q.2.set i (.lst l')))
  | _, _, _ => none
theorem v_setIxOf (i : Nat) (fk : Ef) (d : D) (k : Int) (ρ' : Rho) (l : List D) (h : fk ρ = some (.v (.int k), ρ')) (h' : ρ'.getD i .non = .lst l) : setIxOf i fk (.v d, ρ) = (setL l k d).bind fun l' => some (.nx (ρ'.set i (.lst l'))) := by
  unfold setIxOf; simp only [h, Option.bind_some, h']
@[simp] theorem v_sSetIx (i : Nat) (fk : Ef) : sSetIx i f fk ρ = (f ρ).bind (setIxOf i fk) := rfl
@[simp] theorem v_lNil : lNil ρ = some ([], ρ) := rfl
@[simp] theorem v_lCons (h : Lf) : lCons o h ρ = (o ρ).bind fun p => (h p.2).bind fun q => some (p.1 :: q.1, q.2) := rfl
def parOf (i j : Nat) : List D × Rho → Option Out
  | ([a, b], ρ) => some (.nx ((ρ.set i a).set j b))
  | _ => none
@[simp] theorem v_parOf (i j : Nat) (a b : D) : parOf i j ([a, b], ρ) = some (.nx ((ρ.set i a).set j b)) := rfl
@[simp] theorem v_sPar (i j : Nat) (h : Lf) : sPar i j h ρ = (h ρ).bind (parOf i j) := by
  unfold sPar
  congr 1; funext p; obtain ⟨p1, p2⟩ := p; unfold parOf; split <;> simp_all
def parOf3 (i j l : Nat) : List D × Rho → Option Out
  | ([a, b, c], ρ) => some (.nx (((ρ.set i a).set j b).set l c))
  | _ => none
@[simp] theorem v_parOf3 (i j l : Nat) (a b c : D) : parOf3 i j l ([a, b, c], ρ) = some (.nx (((ρ.set i a).set j b).set l c)) := rfl
@[simp] theorem v_sPar3 (i j l : Nat) (h : Lf) : sPar3 i j l h ρ = (h ρ).bind (parOf3 i j l) := by
  unfold sPar3
  congr 1; funext p; obtain ⟨p1, p2⟩ := p; unfold parOf3; split <;> simp_all
/-! walks -/
@[simp] theorem v_seqL (l : List D) : seqD (.v (.lst l)) = some l := rfl
@[simp] theorem v_seqT (l : List D) : seqD (.v (.tup l)) = some l := rfl
@[simp] theorem v_iSeq : iSeq f ρ = (f ρ).bind fun p => (seqD p.1).bind fun l => some (l, p.2) := rfl
def rng1Of : List Hd × Rho → Option (List D × Rho)
  | ([.v (.int j)], ρ) => if small62 j then some (intsD 0 j.toNat, ρ) else none
  | _ => none
@[simp] theorem v_rng1Of (j : Int) (h : small62 j = true) : rng1Of ([.v (.int j)], ρ) = some (intsD 0 j.toNat, ρ) := by
  simp only [rng1Of, h, if_true]
@[simp] theorem v_iRng1 : TL.iRng1 g ρ = (g ρ).bind rng1Of := by
  unfold TL.iRng1
  congr 1; funext p; obtain ⟨p1, p2⟩ := p; unfold rng1Of; split <;> simp_all
def rng2Of : List Hd × Rho → Option (List D × Rho)
  | ([.v (.int i), .v (.int j)], ρ) => if small62 i && small62 j then some (intsD i (j - i).toNat, ρ) else none
  | _ => none
@[simp] theorem v_rng2Of (i j : Int) (h : small62 i = true) (h' : small62 j = true) : rng2Of ([.v (.int i), .v (.int j)], ρ) = some (intsD i (j - i).toNat, ρ) := by
  simp only [rng2Of, h, h', Bool.and_self, if_true]
@[simp] theorem v_iRng2 : TL.iRng2 g ρ = (g ρ).bind rng2Of := by
  unfold TL.iRng2
  congr 1; funext p; obtain ⟨p1, p2⟩ := p; unfold rng2Of; split <;> simp_all
def zpOf : List Hd × Rho → Option (List D × Rho)
  | ([.v (.lst l), .v (.lst m)], ρ) => some (zipD l m, ρ)
  | ([.v (.tup l), .v (.tup m)], ρ) => some (zipD l m, ρ)
  | _ => none
@[simp] theorem v_zpL (l m : List D) : zpOf ([.v (.lst l), .v (.lst m)], ρ) = some (zipD l m, ρ) := rfl
@[simp] theorem v_zpT (l m : List D) : zpOf ([.v (.tup l), .v (.tup m)], ρ) = some (zipD l m, ρ) := rfl
@[simp] theorem v_iZp : iZp g ρ = (g ρ).bind zpOf := by
  unfold iZp
  congr 1; funext p; obtain ⟨p1, p2⟩ := p; unfold zpOf; split <;> simp_all
/-- one round of a loop -/
def stepB (k : Gf) (b : Sf) (d : D) (ρ : Rho) : Option Out := (k d ρ).bind b
@[simp] theorem v_stepB (k : Gf) (d : D) : stepB k b d ρ = (k d ρ).bind b := rfl
@[simp] theorem v_sFor (ks : List Nat) (it : Itf) (k : Gf) : sFor ks it k b ρ = (it ρ).bind fun p => loopF (stepB k b) ks p.1 (kill ks p.2) := rfl
@[simp] theorem v_stepLc (own : List Nat) (k : Gf) (el : Of) (d : D) : stepLc own k t el d ρ = (k d ρ).bind fun ρ1 => (t ρ1).bind fun p => if p.1 then (el p.2).bind fun q => some (some q.1, kill own q.2) else some (none, kill own p.2) := rfl
@[simp] theorem v_oLc (own : List Nat) (it : Itf) (k : Gf) (el : Of) : oLc own it k t el ρ = (it ρ).bind fun p => if okLen p.1.length then (lcF (stepLc own k t el) p.1 p.2).bind fun r => some (.lst r.1, r.2) else none := rfl
@[simp] theorem v_kill0 : kill [] ρ = ρ := rfl
@[simp] theorem v_kill1 (k : Nat) (ks : List Nat) : kill (k :: ks) ρ = kill ks (ρ.set k .non) := rfl
end ev

/-! ### values -/
@[simp] theorem d_add (i j : Int) : dAdd (.int i) (.int j) = some (.int (i + j)) := rfl
@[simp] theorem d_sub (i j : Int) : dSub (.int i) (.int j) = some (.int (i - j)) := rfl
@[simp] theorem d_lt (i j : Int) : dLt (.int i) (.int j) = some (.bl (decide (i < j))) := rfl
@[simp] theorem d_le (i j : Int) : dLe (.int i) (.int j) = some (.bl (decide (i ≤ j))) := rfl
@[simp] theorem d_gt (i j : Int) : dGt (.int i) (.int j) = some (.bl (decide (j < i))) := rfl
@[simp] theorem d_ge (i j : Int) : dGe (.int i) (.int j) = some (.bl (decide (j ≤ i))) := rfl
@[simp] theorem d_mod (i j : Int) : dMod (.int i) (.int j) = if decide (0 < j) then some (.int (i % j)) else none := rfl
@[simp] theorem d_div (i j : Int) : dDiv (.int i) (.int j) = if decide (0 < j) && sm j then some (.int (i / j)) else none := rfl
@[simp] theorem d_mul (i j : Int) : dMul (.int i) (.int j) = if sm i && sm j then some (.int (i * j)) else none := rfl
@[simp] theorem d_neg (i : Int) : dNeg (.int i) = some (.int (-i)) := rfl
@[simp] theorem d_is0 (a : D) : dIs a .non = some (.bl (isNonD a)) := by cases a <;> rfl
@[simp] theorem d_isb (a b : Bool) : dIs (.bl a) (.bl b) = some (.bl (decide (a = b))) := rfl
@[simp] theorem d_isNot0 (a : D) : dIsNot a .non = some (.bl (!isNonD a)) := by cases a <;> rfl
@[simp] theorem d_isNotb (a b : Bool) : dIsNot (.bl a) (.bl b) = some (.bl (!decide (a = b))) := rfl
@[simp] theorem d_nn : isNonD .non = true := rfl
@[simp] theorem d_ni (i : Int) : isNonD (.int i) = false := rfl
@[simp] theorem d_nb (i : Bool) : isNonD (.bl i) = false := rfl
@[simp] theorem d_ns (i : Str) : isNonD (.str i) = false := rfl
@[simp] theorem d_nt (i : List D) : isNonD (.tup i) = false := rfl
@[simp] theorem d_nl (i : List D) : isNonD (.lst i) = false := rfl
@[simp] theorem d_eqi (i j : Int) : dEq (.int i) (.int j) = some (.bl (i == j)) := rfl
@[simp] theorem d_nei (i j : Int) : dNe (.int i) (.int j) = some (.bl (!(i == j))) := rfl
@[simp] theorem d_eqb (i j : Bool) : dEq (.bl i) (.bl j) = some (.bl (i == j)) := rfl
@[simp] theorem d_neb (i j : Bool) : dNe (.bl i) (.bl j) = some (.bl (!(i == j))) := rfl
@[simp] theorem pyOk_n (n : Nat) : pyOk n .non = true := by cases n <;> rfl
@[simp] theorem pyOk_b (n : Nat) (b : Bool) : pyOk n (.bl b) = true := by cases n <;> rfl
@[simp] theorem pyOk_i (n : Nat) (b : Int) : pyOk n (.int b) = true := by cases n <;> rfl
@[simp] theorem pyOk_s (n : Nat) (b : Str) : pyOk n (.str b) = sOk b := by cases n <;> rfl
theorem d_eqs (s : Str) (h : sOk s = true) : dEq (.str s) (.str s) = some (.bl true) := by
  unfold dEq; rw [pyOk_s, h]; simp [dq]
@[simp] theorem d_tr_n : truthD .non = some false := rfl
@[simp] theorem d_tr_b (b : Bool) : truthD (.bl b) = some b := rfl
@[simp] theorem d_tr_i (i : Int) : truthD (.int i) = some (i != 0) := rfl
@[simp] theorem d_tr_t (l : List D) : truthD (.tup l) = some (!l.isEmpty) := rfl
@[simp] theorem d_tr_l (l : List D) : truthD (.lst l) = some (!l.isEmpty) := rfl
@[simp] theorem d_len_t (l : List D) : lenD (.tup l) = some (.int l.length) := rfl
@[simp] theorem d_len_l (l : List D) : lenD (.lst l) = some (.int l.length) := rfl
@[simp] theorem d_abs (i : Int) : absD (.int i) = some (.int (if i < 0 then -i else i)) := rfl
@[simp] theorem d_int (i : Int) : intD (.int i) = some (.int i) := rfl
@[simp] theorem d_intb (i : Bool) : intD (.bl i) = some (.int (if i then 1 else 0)) := rfl
@[simp] theorem d_max2 (i j : Int) : max2D (.int i) (.int j) = some (.int (if j > i then j else i)) := rfl
@[simp] theorem d_min2 (i j : Int) : min2D (.int i) (.int j) = some (.int (if j < i then j else i)) := rfl
@[simp] theorem d_tup_l (l : List D) : tupleD (.lst l) = some (.tup l) := rfl
@[simp] theorem d_tup_t (l : List D) : tupleD (.tup l) = some (.tup l) := rfl
@[simp] theorem d_lst_l (l : List D) : listD (.lst l) = some l := rfl
@[simp] theorem d_lst_t (l : List D) : listD (.tup l) = some l := rfl
@[simp] theorem d_lst_s (l : List Int) : listD (.scr l) = some (l.map D.int) := rfl
@[simp] theorem d_ix_l (l : List D) (i : Int) : dIx (.lst l) (.int i) = atI l i := rfl
@[simp] theorem d_ix_t (l : List D) (i : Int) : dIx (.tup l) (.int i) = atI l i := rfl
@[simp] theorem d_sl_t (l : List D) (lo hi : Option Int) : dSl (.tup l) lo hi = some (.tup (cutD l lo hi)) := rfl
@[simp] theorem d_sl_l (l : List D) (lo hi : Option Int) : dSl (.lst l) lo hi = some (.lst (cutD l lo hi)) := rfl
@[simp] theorem d_slL (l : List D) (lo hi : Option Int) : dSlL (.lst l) lo hi = some (cutD l lo hi) := rfl
@[simp] theorem d_addL (l m : List D) : dAddL (.lst l) (.lst m) = if okLen (l.length + m.length) then some (l ++ m) else none := rfl
@[simp] theorem d_add_l (l m : List D) : dAdd (.lst l) (.lst m) = if okLen (l.length + m.length) then some (.lst (l ++ m)) else none := rfl
@[simp] theorem d_add_t (l m : List D) : dAdd (.tup l) (.tup m) = if okLen (l.length + m.length) then some (.tup (l ++ m)) else none := rfl
@[simp] theorem d_isB_n (b : Bt) : isB b .non = some false := by cases b <;> rfl
@[simp] theorem d_isB_b (b : Bt) (x : Bool) : isB b (.bl x) = some (decide (b = .bool) || decide (b = .int)) := by cases b <;> rfl
@[simp] theorem d_isB_i (b : Bt) (x : Int) : isB b (.int x) = some (decide (b = .int)) := by cases b <;> rfl
@[simp] theorem d_isB_s (b : Bt) (x : Str) : isB b (.str x) = some (decide (b = .str)) := by cases b <;> rfl
@[simp] theorem d_isB_t (b : Bt) (x : List D) : isB b (.tup x) = some (decide (b = .tuple)) := by cases b <;> rfl
@[simp] theorem d_isB_l (b : Bt) (x : List D) : isB b (.lst x) = some (decide (b = .list)) := by cases b <;> rfl
theorem ix_nat {α : Type} (l : List α) (n : Nat) (h : n < l.length) : atI l (n : Int) = some l[n] := by
  unfold atI ixN; simp [h]
theorem ix_get {α : Type} (l : List α) (i : Int) (h0 : 0 ≤ i) (h : i < l.length) : atI l i = l[i.toNat]? := by
  unfold atI ixN; simp [h0, h]
@[simp] theorem ix_0 {α : Type} (a : α) (l : List α) : atI (a :: l) 0 = some a := by
  unfold atI ixN; simp
@[simp] theorem ix_1 {α : Type} (a b : α) (l : List α) : atI (a :: b :: l) 1 = some b := by
  unfold atI ixN; simp
  rw [if_pos (by omega)]; rfl
@[simp] theorem ix_2 {α : Type} (a b c : α) (l : List α) : atI (a :: b :: c :: l) 2 = some c := by
  unfold atI ixN; simp
  rw [if_pos (by omega)]; rfl
@[simp] theorem ix_3 {α : Type} (a b c d : α) (l : List α) : atI (a :: b :: c :: d :: l) 3 = some d := by
  unfold atI ixN; simp
  rw [if_pos (by omega)]; rfl
theorem s62_of {i : Int} (h : -1000000000000 ≤ i) (h' : i ≤ 1000000000000) : small62 i = true := by
  exact Nat.ble_eq_true_of_le (by omega)
theorem okLen_of {n : Nat} (h : n ≤ 16777216) : okLen n = true := by
  unfold okLen; simpa using h
theorem sm_of {i : Int} (h : -1000000000000000000 ≤ i) (h' : i ≤ 1000000000000000000) : sm i = true := by
  exact Nat.ble_eq_true_of_le (by omega)
@[simp] theorem intsD_len (lo : Int) (n : Nat) : (intsD lo n).length = n := by simp [intsD]

/-! ### calls -/
def fin (n : Nat) : Out → Option (D × List D)
  | .rt d ρ => some (d, ρ.take n)
  | .nx ρ => some (.non, ρ.take n)
  | _ => none
@[simp] theorem fin_rt (n : Nat) (d : D) (ρ : Rho) : fin n (.rt d ρ) = some (d, ρ.take n) := rfl
@[simp] theorem fin_nx (n : Nat) (ρ : Rho) : fin n (.nx ρ) = some (.non, ρ.take n) := rfl
theorem v_runF (b : Sf) (n m : Nat) (ds : List D) (h : ds.length = n) : runF b n m ds = (b (ds ++ List.replicate m .non)).bind (fin n) := by
  unfold runF; rw [if_pos h]
  congr 1
theorem v_run1 (b : Sf) (m : Nat) (a0 : D) : runF b 1 m [a0] = (b ([a0] ++ List.replicate m .non)).bind (fin 1) := v_runF _ _ _ _ rfl
theorem v_run2 (b : Sf) (m : Nat) (a0 b0 : D) : runF b 2 m [a0, b0] = (b ([a0, b0] ++ List.replicate m .non)).bind (fin 2) := v_runF _ _ _ _ rfl
theorem v_run3 (b : Sf) (m : Nat) (a0 b0 c0 : D) : runF b 3 m [a0, b0, c0] = (b ([a0, b0, c0] ++ List.replicate m .non)).bind (fin 3) := v_runF _ _ _ _ rfl
theorem v_run4 (b : Sf) (m : Nat) (a0 b0 c0 d0 : D) : runF b 4 m [a0, b0, c0, d0] = (b ([a0, b0, c0, d0] ++ List.replicate m .non)).bind (fin 4) := v_runF _ _ _ _ rfl
theorem v_run5 (b : Sf) (m : Nat) (a0 b0 c0 d0 e0 : D) : runF b 5 m [a0, b0, c0, d0, e0] = (b ([a0, b0, c0, d0, e0] ++ List.replicate m .non)).bind (fin 5) := v_runF _ _ _ _ rfl
theorem v_run6 (b : Sf) (m : Nat) (a0 b0 c0 d0 e0 f0 : D) : runF b 6 m [a0, b0, c0, d0, e0, f0] = (b ([a0, b0, c0, d0, e0, f0] ++ List.replicate m .non)).bind (fin 6) := v_runF _ _ _ _ rfl
theorem v_run7 (b : Sf) (m : Nat) (a0 b0 c0 d0 e0 f0 g0 : D) : runF b 7 m [a0, b0, c0, d0, e0, f0, g0] = (b ([a0, b0, c0, d0, e0, f0, g0] ++ List.replicate m .non)).bind (fin 7) := v_runF _ _ _ _ rfl
theorem v_run8 (b : Sf) (m : Nat) (a0 b0 c0 d0 e0 f0 g0 h0 : D) : runF b 8 m [a0, b0, c0, d0, e0, f0, g0, h0] = (b ([a0, b0, c0, d0, e0, f0, g0, h0] ++ List.replicate m .non)).bind (fin 8) := v_runF _ _ _ _ rfl

/-! ### loops -/
theorem loop_nil (b : D → Rho → Option Out) (ks : List Nat) (ρ : Rho) : loopF b ks [] ρ = some (.nx ρ) := rfl
theorem loop_nx {b : D → Rho → Option Out} {ks : List Nat} {d : D} {ds : List D} {ρ ρ' : Rho} (h : b d ρ = some (.nx ρ')) : loopF b ks (d :: ds) ρ = loopF b ks ds (kill ks ρ') := by
  show (b d ρ).bind _ = _
  rw [h]; rfl
theorem loop_rt {b : D → Rho → Option Out} {ks : List Nat} {d e : D} {ds : List D} {ρ ρ' : Rho} (h : b d ρ = some (.rt e ρ')) : loopF b ks (d :: ds) ρ = some (.rt e ρ') := by
  show (b d ρ).bind _ = _
  rw [h]; rfl
/-- what goes on behind a round -/
def nxOf (ks : List Nat) : Out → Option Rho
  | .nx ρ => some (kill ks ρ)
  | .ct ρ => some (kill ks ρ)
  | _ => none
@[simp] theorem v_nxOf (ks : List Nat) (ρ : Rho) : nxOf ks (.nx ρ) = some (kill ks ρ) := rfl
@[simp] theorem v_nxOfc (ks : List Nat) (ρ : Rho) : nxOf ks (.ct ρ) = some (kill ks ρ) := rfl
theorem loop_go {b : D → Rho → Option Out} {ks : List Nat} {d : D} {ds : List D} {ρ ρ' : Rho} (h : (b d ρ).bind (nxOf ks) = some ρ') : loopF b ks (d :: ds) ρ = loopF b ks ds ρ' := by
  show (b d ρ).bind _ = _
  cases e : b d ρ with
  | none => rw [e] at h; cases h
  | some o =>
    rw [e] at h
    cases o with
    | nx r => cases h; rfl
    | ct r => cases h; rfl
    | bk r => cases h
    | rt d r => cases h
/-- a loop that goes through: the state as a fold -/
theorem loop_fold {α σ : Type} {b : D → Rho → Option Out} {ks : List Nat} (emb : α → D) (st : σ → Rho) (f : σ → α → σ) (inv : σ → Prop) : ∀ (l : List α) (s : σ), inv s →
    (∀ a ∈ l, ∀ s, inv s → inv (f s a) ∧ (b (emb a) (st s)).bind (nxOf ks) = some (st (f s a))) → loopF b ks (l.map emb) (st s) = some (.nx (st (l.foldl f s)))
  | [], s, _, _ => rfl
  | a :: l, s, hi, h => by
    obtain ⟨i1, e1⟩ := h a (by simp) s hi
    rw [List.map_cons, loop_go e1]
    exact loop_fold emb st f inv l _ i1 fun a ha => h a (by simp [ha])
/-- .. with an invariant only -/
theorem loop_inv {α σ : Type} {b : D → Rho → Option Out} {ks : List Nat} (emb : α → D) (st : σ → Rho) (I : List α → σ → Prop) : ∀ (l pre : List α) (s : σ), I pre s →
    (∀ pre' a post, pre ++ l = pre' ++ a :: post → ∀ s, I pre' s → ∃ s', (b (emb a) (st s)).bind (nxOf ks) = some (st s') ∧ I (pre' ++ [a]) s') → ∃ s', loopF b ks (l.map emb) (st s) = some (.nx (st s')) ∧ I (pre ++ l) s'
  | [], pre, s, hi, _ => ⟨s, rfl, by simpa using hi⟩
  | a :: l, pre, s, hi, h => by
    obtain ⟨s', e1, i1⟩ := h pre a l rfl s hi
    obtain ⟨s2, e2, i2⟩ := loop_inv emb st I l (pre ++ [a]) _ i1 fun pre' a' post e => h pre' a' post (by simpa using e)
    exact ⟨s2, by rw [List.map_cons, loop_go e1, e2], by simpa using i2⟩
/-- a search -/
theorem loop_find {α : Type} {b : D → Rho → Option Out} {ks : List Nat} (emb : α → D) (ρ : Rho) (p : α → Bool) (res : α → D) (rr : α → Rho) : ∀ (l : List α),
    (∀ a ∈ l, if p a then b (emb a) ρ = some (.rt (res a) (rr a)) else (b (emb a) ρ).bind (nxOf ks) = some ρ) →
    loopF b ks (l.map emb) ρ = match l.find? p with | some a => some (.rt (res a) (rr a)) | none => some (.nx ρ)
  | [], _ => rfl
  | a :: l, h => by
    have h1 := h a (by simp)
    cases hp : p a with
    | true =>
      rw [hp, if_pos rfl] at h1
      rw [List.map_cons, loop_rt h1, List.find?_cons, hp]
    | false =>
      rw [hp, if_neg (by simp)] at h1
      rw [List.map_cons, loop_go h1, List.find?_cons, hp]
      exact loop_find emb ρ p res rr l fun a ha => h a (by simp [ha])
/-- comprehensions -/
theorem lc_map {α : Type} {step : D → Rho → Option (Option D × Rho)} (emb : α → D) (g : α → Option D) (ρ : Rho) : ∀ (l : List α), (∀ a ∈ l, step (emb a) ρ = some (g a, ρ)) → lcF step (l.map emb) ρ = some (l.filterMap g, ρ)
  | [], _ => rfl
  | a :: l, h => by
    show (step (emb a) ρ).bind _ = _
    rw [h a (by simp)]
    simp only [Option.bind_some]
    rw [lc_map emb g ρ l fun a ha => h a (by simp [ha])]
    simp only [Option.bind_some, List.filterMap_cons]
    cases g a <;> rfl
theorem lc_all {α : Type} {step : D → Rho → Option (Option D × Rho)} (emb : α → D) (g : α → D) (ρ : Rho) (l : List α) (h : ∀ a ∈ l, step (emb a) ρ = some (some (g a), ρ)) : lcF step (l.map emb) ρ = some (l.map g, ρ) := by
  rw [lc_map emb (fun a => some (g a)) ρ l h]
  simp
/-- .. with a state that changes -/
theorem lc_st {α σ : Type} {step : D → Rho → Option (Option D × Rho)} (emb : α → D) (st : σ → Rho) (inv : σ → Prop) (Q : α → D → Prop) : ∀ (l : List α) (s : σ), inv s →
    (∀ a ∈ l, ∀ s, inv s → ∃ d s', inv s' ∧ Q a d ∧ step (emb a) (st s) = some (some d, st s')) → ∃ (ds : List D) (s' : σ), inv s' ∧ ds.length = l.length ∧ (∀ (i : Nat) (a : α) (d : D), l[i]? = some a → ds[i]? = some d → Q a d) ∧ lcF step (l.map emb) (st s) = some (ds, st s')
  | [], s, hi, _ => ⟨[], s, hi, rfl, by simp, rfl⟩
  | a :: l, s, hi, h => by
    obtain ⟨d, s1, i1, q1, e1⟩ := h a (by simp) s hi
    obtain ⟨ds, s2, i2, hl, q2, e2⟩ := lc_st emb st inv Q l s1 i1 fun a ha => h a (by simp [ha])
    refine ⟨d :: ds, s2, i2, by simp [hl], fun i a' d' ha hd => ?_, ?_⟩
    · cases i with
      | zero => simp at ha hd; subst ha; subst hd; exact q1
      | succ i => simp at ha hd; exact q2 i a' d' ha hd
    · show (step (emb a) (st s)).bind _ = _
      rw [e1]
      simp only [Option.bind_some]
      rw [e2]; rfl
theorem loop_ext {α β : Type} {b : D → Rho → Option Out} {ks : List Nat} (emb : α → D) (st : List β → Rho) (g : α → List β) (M B : Nat) : ∀ (l : List α) (acc : List β),
    (∀ a ∈ l, (g a).length ≤ M) → acc.length + l.length * M ≤ B →
    (∀ a ∈ l, ∀ acc : List β, acc.length + M ≤ B → (b (emb a) (st acc)).bind (nxOf ks) = some (st (acc ++ g a))) → loopF b ks (l.map emb) (st acc) = some (.nx (st (acc ++ l.flatMap g)))
  | [], acc, _, _, _ => by simp [loop_nil]
  | a :: l, acc, hM, hB, h => by
    have hl : (a :: l).length * M = l.length * M + M := by simp [Nat.succ_mul]
    have e1 := h a (by simp) acc (by omega)
    have hg := hM a (by simp)
    rw [List.map_cons, loop_go e1, loop_ext emb st g M B l (acc ++ g a) (fun a ha => hM a (by simp [ha])) (by simp; omega) fun a ha => h a (by simp [ha])]
    simp
theorem len_flat {α β : Type} (g : α → List β) (M : Nat) : ∀ l : List α, (∀ a ∈ l, (g a).length ≤ M) → (l.flatMap g).length ≤ l.length * M
  | [], _ => by simp
  | a :: l, h => by
    have h1 := len_flat g M l fun a ha => h a (by simp [ha])
    have h2 := h a (by simp)
    simp only [List.flatMap_cons, List.length_append, List.length_cons, Nat.succ_mul]
    omega
theorem intsD0 (n : Nat) : intsD 0 n = (List.range n).map fun i : Nat => D.int (i : Int) := by
  unfold intsD; simp
theorem loopF_cons (b : D → Rho → Option Out) (ks : List Nat) (d : D) (ds : List D) (ρ : Rho) : loopF b ks (d :: ds) ρ = (b d ρ).bind fun o => match o with
    | .nx ρ' => loopF b ks ds (kill ks ρ')
    | .ct ρ' => loopF b ks ds (kill ks ρ')
    | .bk ρ' => some (.nx (kill ks ρ'))
    | .rt d ρ' => some (.rt d ρ') := rfl
theorem lcF_nil (b : D → Rho → Option (Option D × Rho)) (ρ : Rho) : lcF b [] ρ = some ([], ρ) := rfl
theorem lcF_cons (b : D → Rho → Option (Option D × Rho)) (d : D) (ds : List D) (ρ : Rho) : lcF b (d :: ds) ρ = (b d ρ).bind fun q => (lcF b ds q.2).bind fun w => some (q.1.toList ++ w.1, w.2) := rfl
end TL

namespace TL
open PySem PySem.Spec PyProof.Rows L2

def b__law_draw : Sf := (sRetO (oLst (aCons (eF (oCa (f1L listD) (aCons (eVar 0) aNil))) (aCons (eC (.int 0)) (aCons (eC (.int 0)) (aCons (eC (.int 17)) aNil))))))
def b__law_next : Sf := (sSeq (sIf (tBl (eBin dGt (eBin dIx (eOwn 0) (eC (.int 2))) (eC (.int 0)))) (sSeq (sAsg (eBin dMod (eCa (f1 intD) (aCons (eBin dIx (eOwn 0) (eC (.int 2))) aNil)) (eVar 1)) (gNm 2)) (sSeq (sSetIx 0 (eBin dDiv (eBin dIx (eOwn 0) (eC (.int 2))) (eVar 1)) (eC (.int 2))) (sRet (eVar 2)))) sNil) (sSeq (sIf (tBl (eBin dLt (eBin dIx (eOwn 0) (eC (.int 1))) (eCa (f1 lenD) (aCons (eBin dIx (eOwn 0) (eC (.int 0))) aNil)))) (sKl [3] (sSeq (sAsg (eCa (f1 absD) (aCons (eBin dIx (eBin dIx (eOwn 0) (eC (.int 0))) (eBin dIx (eOwn 0) (eC (.int 1)))) aNil)) (gNm 3)) (sSeq (sSetIx 0 (eBin dAdd (eBin dIx (eOwn 0) (eC (.int 1))) (eC (.int 1))) (eC (.int 1))) (sSeq (sIf (tBl (eBin dGe (eVar 3) (eBin dPow (eC (.int 10)) (eC (.int 18))))) (sSeq (sSetIx 0 (eBin dDiv (eVar 3) (eVar 1)) (eC (.int 2))) (sRet (eBin dMod (eCa (f1 intD) (aCons (eVar 3) aNil)) (eVar 1)))) sNil) (sSetIx 0 (eBin dMod (eCa (f1 intD) (aCons (eBin dAdd (eBin dAdd (eBin dMul (eBin dIx (eOwn 0) (eC (.int 3))) (eC (.int 48271))) (eVar 3)) (eC (.int 11))) aNil)) (eC (.int 2147483647))) (eC (.int 3))))))) (sSetIx 0 (eBin dMod (eCa (f1 intD) (aCons (eBin dAdd (eBin dMul (eBin dIx (eOwn 0) (eC (.int 3))) (eC (.int 48271))) (eC (.int 12345))) aNil)) (eC (.int 2147483647))) (eC (.int 3)))) (sRet (eBin dMod (eBin dDiv (eCa (f1 intD) (aCons (eBin dMod (eBin dMul (eBin dIx (eOwn 0) (eC (.int 3))) (eC (.int 69621))) (eC (.int 2147483629))) aNil)) (eC (.int 7))) (eVar 1)))))
def b__law_same (G__law_same : Fm) : Sf := (sSeq (sIf (tB (eIsLT (eVar 1))) (sSeq (sIf (tOr' (tBl (eBin dNe (eIsI .list (eVar 1)) (eIsI .list (eVar 0)))) (tBl (eBin dNe (eIsI .tuple (eVar 1)) (eIsI .tuple (eVar 0))))) (sRet (eC (.bl false))) sNil) (sSeq (sIf (tBl (eBin dNe (eCa (f1 lenD) (aCons (eVar 0) aNil)) (eCa (f1 lenD) (aCons (eVar 1) aNil)))) (sRet (eC (.bl false))) sNil) (sRet (eCa (f1 allD) (aCons (eF (oLc [2] (TL.iRng1 (aCons (eCa (f1 lenD) (aCons (eVar 1) aNil)) aNil)) (gNm 2) tYesF (oE (eF (oCall G__law_same (aCons (eBin dIx (eVar 0) (eVar 2)) (aCons (eBin dIx (eVar 1) (eVar 2)) aNil))))))) aNil))))) sNil) (sSeq (sIf (tBl (eBin dIs (eVar 1) (eC .non))) (sRet (eBin dIs (eVar 0) (eC .non))) sNil) (sSeq (sIf (tBl (eBin dNe (eIsI .bool (eVar 1)) (eIsI .bool (eVar 0)))) (sRet (eC (.bl false))) sNil) (sSeq (sIf (tB (eIsI .str (eVar 1))) (sRet (eAnd (eIsI .str (eVar 0)) (eBin dEq (eVar 0) (eVar 1)))) sNil) (sRet (eAnd (eIsI .int (eVar 0)) (eBin dEq (eVar 0) (eVar 1))))))))
/-! ### draws -/
structure Dr where
  pos : Int
  pend : Int
  seed : Int
def drD (ns : List Int) (s : Dr) : D := .lst [.lst (ns.map D.int), .int s.pos, .int s.pend, .int s.seed]
def Dr.ok (s : Dr) : Prop := 0 ≤ s.pos ∧ 0 ≤ s.seed ∧ s.seed < 2147483647
def Dr0 : Dr := ⟨0, 0, 17⟩
theorem Dr0.ok : Dr0.ok := by simp [Dr.ok, Dr0]
theorem draw_ok (ns : List Int) : runF b__law_draw 1 0 [.scr ns] = some (drD ns Dr0, [.scr ns]) := by
  simp [v_run1, b__law_draw, okLen, drD, Dr0]
theorem setL_1 (a b : D) (l : List D) (d : D) : setL (a :: b :: l) 1 d = some (a :: d :: l) := by
  unfold setL ixN; simp; rw [if_pos (by omega)]; rfl
theorem setL_2 (a b c : D) (l : List D) (d : D) : setL (a :: b :: c :: l) 2 d = some (a :: b :: d :: l) := by
  unfold setL ixN; simp; rw [if_pos (by omega)]; rfl
theorem setL_3 (a b c e : D) (l : List D) (d : D) : setL (a :: b :: c :: e :: l) 3 d = some (a :: b :: c :: d :: l) := by
  unfold setL ixN; simp; rw [if_pos (by omega)]; rfl
theorem next_ok (ns : List Int) (s : Dr) (h : s.ok) (m : Int) (h0 : 0 < m) (hm : m ≤ 1000000000000000000) : ∃ v s', s'.ok ∧ 0 ≤ v ∧ v < m ∧ runF b__law_next 2 2 [drD ns s, .int m] = some (.int v, [drD ns s', .int m]) := by
  obtain ⟨pos, pend, seed⟩ := s
  obtain ⟨k1, k2, k3⟩ := h
  simp only at k1 k2 k3
  have hsm : sm m = true := sm_of (by omega) (by omega)
  have fin7 : ∀ (z : Int), 0 ≤ z → z < 2147483647 → sm z = true := fun z a b => sm_of (by omega) (by omega)
  simp only [v_run2]
  unfold b__law_next
  by_cases hp : 0 < pend
  · refine ⟨pend % m, ⟨pos, pend / m, seed⟩, ⟨k1, k2, k3⟩, Int.emod_nonneg _ (by omega), Int.emod_lt_of_pos _ h0, ?_⟩
    simp [drD, hp, h0, hsm, setIxOf, setL_2]
  · by_cases hq : pos < ns.length
    · have e1 : atI (ns.map D.int) pos = some (.int (ns[pos.toNat]'(by omega))) := by
        rw [ix_get _ _ k1 (by simpa using hq)]
        simp [List.getElem?_eq_getElem (show pos.toNat < ns.length by omega)]
      generalize ns[pos.toNat]'(by omega) = c at e1
      have e2 : dPow (.int 10) (.int 18) = some (.int 1000000000000000000) := by kernel_rfl
      generalize hcell : (if c < 0 then -c else c) = cell
      have hc0 : 0 ≤ cell := by subst hcell; split <;> omega
      by_cases hb : 1000000000000000000 ≤ cell
      · refine ⟨cell % m, ⟨pos + 1, cell / m, seed⟩, ⟨by simp; omega, k2, k3⟩, Int.emod_nonneg _ (by omega), Int.emod_lt_of_pos _ h0, ?_⟩
        simp [drD, hp, hq, h0, hsm, setIxOf, setL_1, setL_2, e1, e2, hcell, hb]
      · have r1 := Int.emod_nonneg (seed * 48271 + cell + 11) (show (2147483647 : Int) ≠ 0 by omega)
        have r2 := Int.emod_lt_of_pos (seed * 48271 + cell + 11) (show (0 : Int) < 2147483647 by omega)
        generalize hr : (seed * 48271 + cell + 11) % 2147483647 = r at r1 r2
        refine ⟨r * 69621 % 2147483629 / 7 % m, ⟨pos + 1, pend, r⟩, ⟨by simp; omega, r1, r2⟩, Int.emod_nonneg _ (by omega), Int.emod_lt_of_pos _ h0, ?_⟩
        simp [drD, hp, hq, h0, hsm, setIxOf, setL_1, setL_3, e1, e2, hcell, hb, fin7 seed k2 k3, fin7 r r1 r2, sm_of (i := 48271) (by omega) (by omega), sm_of (i := 69621) (by omega) (by omega), sm_of (i := 7) (by omega) (by omega), hr]
    · have r1 := Int.emod_nonneg (seed * 48271 + 12345) (show (2147483647 : Int) ≠ 0 by omega)
      have r2 := Int.emod_lt_of_pos (seed * 48271 + 12345) (show (0 : Int) < 2147483647 by omega)
      generalize hr : (seed * 48271 + 12345) % 2147483647 = r at r1 r2
      refine ⟨r * 69621 % 2147483629 / 7 % m, ⟨pos, pend, r⟩, ⟨k1, r1, r2⟩, Int.emod_nonneg _ (by omega), Int.emod_lt_of_pos _ h0, ?_⟩
      simp [drD, hp, hq, h0, hsm, setIxOf, setL_3, fin7 seed k2 k3, fin7 r r1 r2, sm_of (i := 48271) (by omega) (by omega), sm_of (i := 69621) (by omega) (by omega), sm_of (i := 7) (by omega) (by omega), hr]
/-! ### the same -/
def R_same : Nat → Fm
  | 0 => fun _ => none
  | r + 1 => runF (b__law_same (R_same r)) 2 1
def okS (n : Nat) : Bool := Nat.ble n 10000
theorem okS_le {n : Nat} (h : okS n = true) : n ≤ 10000 := Nat.le_of_ble_eq_true h
theorem okS_of {n : Nat} (h : n ≤ 10000) : okS n = true := Nat.ble_eq_true_of_le h
def plain : Nat → D → Bool
  | _, .non => true
  | _, .bl _ => true
  | _, .int _ => true
  | _, .str s => sOk s
  | n + 1, .tup l => okS l.length && l.all (plain n)
  | n + 1, .lst l => okS l.length && l.all (plain n)
  | _, _ => false
mutual
theorem dq_self : ∀ (n : Nat) (d : D), plain n d = true → dq d d = true
  | n, .non, _ => rfl
  | n, .bl _, _ => by simp [dq]
  | n, .int _, _ => by simp [dq]
  | n, .str _, _ => by simp [dq]
  | n + 1, .tup l, h => by
    simp only [plain, Bool.and_eq_true, List.all_eq_true] at h
    simp only [dq]; exact dqs_self n l h.2
  | n + 1, .lst l, h => by
    simp only [plain, Bool.and_eq_true, List.all_eq_true] at h
    simp only [dq]; exact dqs_self n l h.2
  | 0, .tup _, h => by simp [plain] at h
  | 0, .lst _, h => by simp [plain] at h
  | n, .dct _, h => by cases n <;> simp [plain] at h
  | n, .dtt _, h => by cases n <;> simp [plain] at h
  | n, .set _, h => by cases n <;> simp [plain] at h
  | n, .obj _ _, h => by cases n <;> simp [plain] at h
  | n, .scr _, h => by cases n <;> simp [plain] at h
theorem dqs_self : ∀ (n : Nat) (l : List D), (∀ d ∈ l, plain n d = true) → dqs l l = true
  | n, [], _ => rfl
  | n, d :: l, h => by
    simp only [dqs, Bool.and_eq_true]
    exact ⟨dq_self n d (h d (by simp)), dqs_self n l fun d hd => h d (by simp [hd])⟩
end
theorem getBls_true (n : Nat) : getBls (List.replicate n (D.bl true)) = some (List.replicate n true) := by
  induction n with
  | zero => rfl
  | succ n ih => simp [List.replicate_succ, getBls, ih]
theorem same_ok : ∀ (n : Nat) (d : D), plain n d = true → R_same (n + 1) [d, d] = some (.bl true, [d, d]) := by
  intro n
  induction n with
  | zero =>
    intro d h
    show runF (b__law_same (R_same 0)) 2 1 [d, d] = _
    rw [v_run2]
    unfold b__law_same
    cases d <;> first | (cases h; done) | skip
    · simp
    · simp
    · simp
    · simp [d_eqs _ (show sOk _ = true from h)]
  | succ n ih =>
    intro d h
    show runF (b__law_same (R_same (n + 1))) 2 1 [d, d] = _
    rw [v_run2]
    unfold b__law_same
    have key : ∀ (l : List D), l.length ≤ 10000 → (∀ d ∈ l, plain n d = true) → ∀ (w : List D → D), (∀ m : List D, w m = .tup m ∨ w m = .lst m) →
        lcF (stepLc [2] (gNm 2) tYesF (oE (eF (oCall (R_same (n + 1)) (aCons (eBin dIx (eVar 0) (eVar 2)) (aCons (eBin dIx (eVar 1) (eVar 2)) aNil)))))) (intsD 0 l.length) [w l, w l, .non] = some (List.replicate l.length (.bl true), [w l, w l, .non]) := by
      intro l hl hp w hw
      unfold intsD
      rw [lc_all (fun i : Nat => D.int (0 + (i : Nat))) (fun _ => D.bl true)]
      · have : (List.range l.length).map (fun _ => D.bl true) = List.replicate l.length (D.bl true) := by
          rw [List.map_const', List.length_range]
        rw [this]
      · intro a ha
        have ha := List.mem_range.mp ha
        have e := ix_nat l a ha
        have e2 := ih l[a] (hp _ (List.getElem_mem ha))
        rcases hw l with e3 | e3 <;> simp [e3, e, e2]
    match d, h with
    | .non, _ => simp
    | .bl _, _ => simp
    | .int _, _ => simp
    | .str _, h => simp [d_eqs _ (show sOk _ = true from h)]
    | .dct _, h => simp [plain] at h
    | .dtt _, h => simp [plain] at h
    | .set _, h => simp [plain] at h
    | .obj _ _, h => simp [plain] at h
    | .scr _, h => simp [plain] at h
    | .tup l, h =>
      simp only [plain, Bool.and_eq_true, List.all_eq_true] at h
      have h1 := okS_le h.1
      simp [s62_of (i := (l.length : Int)) (by omega) (by omega), okLen_of (n := l.length) (by omega), key l h1 h.2 D.tup (fun m => .inl rfl), allD, getBls_true]
    | .lst l, h =>
      simp only [plain, Bool.and_eq_true, List.all_eq_true] at h
      have h1 := okS_le h.1
      simp [s62_of (i := (l.length : Int)) (by omega) (by omega), okLen_of (n := l.length) (by omega), key l h1 h.2 D.lst (fun m => .inr rfl), allD, getBls_true]
end TL

namespace TL
open PySem PySem.Spec PyProof.Rows L2
/-! ### the order of data -/
def rLtG (K : PySem.W.Frag) : R2 := fun x y H Q => ∃ d e, Dp K H x d ∧ Dp K H y e ∧ PySem.W.alike d e = true ∧ d ≠ .none ∧ d.depth ≤ 60 ∧ Q (.bl (PySem.W.dataLt d e)) H
theorem op_ltG {X : Cx} (hu : X.A.units + 64 < cLine) : OpR X (compareOp .Lt) (rLtG X.K) := by
  intro pins s σ H x y v u Q I rx ry h
  obtain ⟨d, e, hd, he, hal, hn, dp, q⟩ := h
  obtain ⟨as, r1⟩ := Dp.reads I d x v hd rx
  obtain ⟨bs, r2⟩ := Dp.reads I e y u he ry
  have R := PySem.W.rcLt_alike d e X.A s v u as bs r1 r2 hal hn (by omega)
  exact R X.prog X.w X.xe (EP X pins σ Q) ⟨.bl _, H, I, rfl, q⟩
def alikeD (a b : D) : Bool := PySem.W.alike (py a) (py b)
def ltD (a b : D) : Bool := PySem.W.dataLt (py a) (py b)
def dLtG (a b : D) : Option D := if pyOk 40 a && pyOk 40 b && alikeD a b && !isNonD a then some (.bl (ltD a b)) else none
theorem py_none {n : Nat} {d : D} (h : pyOk n d = true) (h2 : isNonD d = false) : py d ≠ .none := by
  cases d <;> cases n <;> simp_all [py, isNonD, pyOk]
theorem od_ltG {X : Cx} : OpD X (rLtG X.K) dLtG := fun S H d1 d2 d v1 v2 Q al r1 r2 e q => by
  obtain ⟨h, e⟩ := ifSome' e
  subst e
  simp only [Bool.and_eq_true, Bool.not_eq_true'] at h
  obtain ⟨⟨⟨h1, h2⟩, h3⟩, h4⟩ := h
  have sh := (pyOk_ok 40 d1 h1).2
  exact ⟨_, _, r1.dp h1, r2.dp h2, h3, py_none h1 h4, by omega, q _ H (Grow.refl H) (.bl _)⟩
end TL

namespace PySem.W
open PySem PySem.SeqAt PyProof.Rows
section
variable {prog : Program} {w : World} {A : Around} {E : Value → Shared → Prop} {s : Shared}
/-- min(a, b) of two alike data -/
theorem min_two_data {a b : Value} {da db : PyData} {as bs : List Addr} {Q : Value → Shared → Prop} (hh : A.handled = none) (ra : Reads s.heap a da as) (rb : Reads s.heap b db bs) (hal : AlikeAll [da, db]) (hu : A.units + 1 + PyData.depthAll [da, db] < cLine)
    (h : ∀ h' tk, (∀ c o, s.heap.get? c = some o → h'.get? c = some o) → Q (if dataLt db da then b else a) { s with heap := h', toks := tk }) : wpAny (model prog w) A (call (.builtin "min") [a, b]) Q E s := by
  have hname : (toString "min" ++ toString ".loop" : String) = "min.loop" := by decide
  refine call_function_tree F.kind_min F.plain_min F.entry_min (F.args_min2 _ _) ?_; show wpAny _ A.in1 (Builtin.Builtins.bindParams "min" ["key", "default"] 0 ⟨[], []⟩ >>= _) _ _ s
  refine wpAny_bind (wpAny_of_eq (show Builtin.Builtins.bindParams "min" ["key", "default"] 0 ⟨[], []⟩ = pure [none, none] from rfl) ?_); show wpAny _ A.in1 (newTuple [a, b] >>= _) _ _ s
  refine wpAny_bind (wpAny_newObj_type (wpAny_bind ?_))
  have g1 : ∀ c o, s.heap.get? c = some o → (s.heap.push { cls := .type "tuple", data := .seq #[a, b] }).get? c = some o := fun c o e => Heap.get?_push_of_some _ e
  have hT : (s.heap.push { cls := .type "tuple", data := .seq #[a, b] }).IsTuple s.heap.objs.size #[a, b] := ⟨_, Heap.get?_push_size _ rfl, rfl, 0, rfl⟩
  have hr : ReadsAll (s.heap.push { cls := .type "tuple", data := .seq #[a, b] }) [a, b] [da, db] (as ++ (bs ++ [])) := .cons (reads_keeps g1 ra) (.cons (reads_keeps g1 rb) .nil)
  refine iter_tupleW (s := { s with heap := s.heap.push { cls := .type "tuple", data := .seq #[a, b] } }) (A := A.in1) hh hT fun s₂ e W st hfp hw hk => wpAny_bind (wpAny_newObj_type ?_)
  have hSf : s₂.heap.objs.size ∉ _ := fun hm => Nat.lt_irrefl _ (hfp _ hm)
  rw [hname]
  refine wpAny_pure ⟨plainId_quiet F.plain_min_loop _, codeAny_min_loop_firstH W _ hw _ (cmpIn_lt (s := { s with heap := s.heap.push { cls := .type "tuple", data := .seq #[a, b] } }) (A := A.in1) (vs := #[a, b]) hr hal (by show A.units + 1 + _ < _; exact hu)) s₂.heap.objs.size hSf (fresh_in hk) _ (by simp) (fun b o e => Heap.get?_push_of_some _ (hk b o e)) (W.frame 0 s₂ _ s₂.toks st (Nat.le_refl _) fun b _ o e => Heap.get?_push_of_some _ e) (Heap.get?_push_size _ rfl) fun v s' hP hm => ?_⟩
  obtain ⟨h', tk, rfl, hk'⟩ := moved_old e rfl (Moved.drop_new (tk := s₂.toks) hm (Nat.le_refl _))
  have hv : v = if dataLt db da then b else a := by
    have hP' : (#[a, b] : Array Value)[argBest (fun i j => dataLt ([da, db].getD i .none) ([da, db].getD j .none)) 1]? = some v := hP
    cases hd : dataLt db da <;> simp [argBest, hd] at hP' <;> simp [hP']
  rw [hv]
  exact h h' tk fun c o e2 => hk' c o (g1 c o e2)
end
end PySem.W
namespace TL
open PySem PySem.Spec PyProof.Rows L2
def rMin2G (K : PySem.W.Frag) : List V → Hp → VK → Prop := fun xs H Q => ∃ x y d e, xs = [x, y] ∧ Dp K H x d ∧ Dp K H y e ∧ PySem.W.AlikeAll [d, e] ∧ d.depth ≤ 60 ∧ e.depth ≤ 60 ∧ Q (if PySem.W.dataLt e d then y else x) H
theorem call_min2G {X : Cx} (hc : X.calm = true) (hu : X.A.units + 64 < cLine) : CallR X (.builtin "min") (rMin2G X.K) := by
  intro pins s σ H xs us Q I r h
  obtain ⟨x, y, d, e, rfl, hd, he, hal, d1, d2, q⟩ := h
  obtain ⟨u, w', rfl, r1, r2⟩ := vals2 r
  obtain ⟨as, ra⟩ := Dp.reads I d x u hd r1
  obtain ⟨bs, rb⟩ := Dp.reads I e y w' he r2
  refine PySem.W.min_two_data (I.ok.hd hc) ra rb hal (by simp only [PyData.depthAll]; omega) fun h' tk k => ⟨_, H, I.kept k, ?_, q⟩
  cases PySem.W.dataLt e d
  · exact r1
  · exact r2
def loose : D → Bool
  | .lst _ => false
  | .dct _ => false
  | .dtt _ => false
  | _ => true
theorem Rv.rf_of {K : PySem.W.Frag} {mg : Str → Option Value} {S : List Addr} {H : Hp} {d : D} {v : V} (r : Rv K mg S H d v) (h : loose d = true) : Rf K mg (hide S H) d v := by
  cases r with
  | rf r => exact r
  | lst _ _ => cases h
  | dK _ _ _ => cases h
  | dT _ _ _ => cases h
def min2G (a b : D) : Option D := if (pyOk 40 a && pyOk 40 b && loose a && loose b && !isNonD a && !isNonD b) && (alikeD a a && alikeD a b && alikeD b a && alikeD b b) then some (if ltD b a then b else a) else none
theorem ca_min2G {X : Cx} : CaD X (rMin2G X.K) (f2 min2G) := ca2 fun S H d1 d2 d v1 v2 Q al r1 r2 e q => by
  obtain ⟨h, e⟩ := ifSome' e
  simp only [Bool.and_eq_true, Bool.not_eq_true'] at h
  obtain ⟨⟨⟨⟨⟨⟨h1, h2⟩, h3⟩, h4⟩, h5⟩, h6⟩, ⟨⟨h7, h8⟩, h9⟩, h10⟩ := h
  have s1 := (pyOk_ok 40 d1 h1).2
  have s2 := (pyOk_ok 40 d2 h2).2
  refine ⟨_, _, _, _, rfl, r1.dp h1, r2.dp h2, ⟨fun x hx y hy => ?_, fun x hx => ?_⟩, by omega, by omega, ?_⟩
  · simp only [List.mem_cons, List.not_mem_nil, or_false] at hx hy
    rcases hx with rfl | rfl <;> rcases hy with rfl | rfl <;> assumption
  · simp only [List.mem_cons, List.not_mem_nil, or_false] at hx
    rcases hx with rfl | rfl
    · exact py_none h1 h5
    · exact py_none h2 h6
  · show Q (if ltD d2 d1 then v2 else v1) H
    cases hl : ltD d2 d1
    · rw [hl] at e; subst e; exact q _ H (Grow.refl H) (r1.rf_of h3)
    · rw [hl] at e; subst e; exact q _ H (Grow.refl H) (r2.rf_of h4)
end TL

namespace L2
open PySem PySem.Spec PyProof.Rows
/-- t * 1 is t -/
theorem tuple_mul1 (l : Addr) (items : Array Value) (n : Nat) (dd : Option Addr) (sl : Array (Option Value)) (u : Tok) :
    Meets (Builtin.«tuple.__mul__» ⟨[.ref l, .int 1 u], []⟩) (fun _ R s => s.heap.get? l = some { cls := .type "tuple", dict := dd, data := .seq items n, slots := sl } ∧ R (.ok (.ret (Value.ref l))) s) :=
  .of_wp fun prog w A R s h => by
    obtain ⟨hp, g, d, tk, os⟩ := s; obtain ⟨hl, h⟩ := h
    have f1 := AutoSeq1.idx_int
    have c0 : (decide ((1 : Int) < -(2 ^ 63)) || decide ((1 : Int) ≥ 2 ^ 63)) = false := by decide
    have c1 : (items.isEmpty || (1 : Int) == 1) = true := by simp
    wp_walk using wpAny_loadPart' hl
    repeat (first | (refine wpAny_ite_false (decide_eq_false (by rw [c0]; exact Bool.false_ne_true)) ?_; wp_walk using wpAny_loadPart' hl) | (refine wpAny_ite_true (decide_eq_true c1) ?_; wp_walk using wpAny_loadPart' hl))
    all_goals first | exact ⟨_, rfl, h⟩ | skip
def rRepT1 (K : PySem.W.Frag) : R2 := fun x y H Q => ∃ l xs, x = .ref l ∧ y = .int 1 ∧ SqT K H l xs ∧ Q (.ref l) H
theorem op_repT1 {X : Cx} : OpR X (binaryOp .Mult) (rRepT1 X.K) := by
  intro pins s σ H x y v u Q I rx ry h
  obtain ⟨l, xs, rfl, rfl, hT, q⟩ := h
  cases rx; obtain ⟨t, rfl⟩ := ry
  obtain ⟨its, r, ⟨⟨cls, dd, data, sl⟩, ho, hc, n, hd⟩, hs⟩ := I.tuple hT
  simp only at hc hd; subst hc hd
  exact wpAny_binaryOp_repeat_ref (T := "tuple") (U := "int") (by decide) ⟨_, ho, rfl⟩ (fun s' => typeIs_int s' 1 t) noFill_tuple_mul F.fills_int_mul F.slot_int_rmul repeat_tuple F.slot_int_index.lookup (call_meets F.slot_int_rmul (typeIs_int s 1 t) F.entry_int_rmul (F.args_int_rmul_2 _ _) (int_rmul_tuple 1 t l its.toArray n dd sl) ⟨ho, rfl, ⟨_, ho, rfl⟩, call_meets F.slot_tuple_mul ⟨_, ho, rfl⟩ F.entry_tuple_mul (F.args_tuple_mul_2 _ _) (tuple_mul1 l its.toArray n dd sl t) ⟨ho, ⟨.ref l, H, I, rfl, q⟩⟩⟩)
end L2
namespace TL
open PySem PySem.Spec PyProof.Rows L2
def dMulT1 : D → D → Option D
  | .tup l, .int i => if i == 1 then some (.tup l) else none
  | _, _ => none
theorem od_mulT1 {X : Cx} : OpD X (rRepT1 X.K) dMulT1 := fun S H d1 d2 d v1 v2 Q al r1 r2 e q => by
  cases d1 <;> cases d2 <;> first | (cases e; done) | skip
  obtain ⟨h, e⟩ := ifSome' e
  subst e
  have hi := eq_of_beq h
  subst hi
  obtain ⟨a, vs, rfl, h1, h1', q1⟩ := r1.tup_inv
  exact ⟨a, vs, rfl, r2.int_inv, h1, q _ H (Grow.refl H) (r1.rf_of rfl)⟩
/-- * with a tuple once -/
def dMul' : D → D → Option D := orG dMul dMulT1
theorem op_mulD' {X : Cx} : OpR X (binaryOp .Mult) (fun x y H Q => rMulD X.K x y H Q ∨ rRepT1 X.K x y H Q) := OpR.or op_mulD op_repT1
theorem od_mul' {X : Cx} : OpD X (fun x y H Q => rMulD X.K x y H Q ∨ rRepT1 X.K x y H Q) dMul' := OpD.or od_mul od_mulT1
/-- < of ints or of data -/
def dLt' : D → D → Option D := orG dLt dLtG
end TL

namespace TL
open PySem PySem.Spec PyProof.Rows L2
/-! side conditions for simp (disch := omega) -/
theorem okLen_s {n : Nat} (h : n ≤ 16777216) : okLen n = true := okLen_of h
theorem s62_s {i : Int} (h : -1000000000000 ≤ i ∧ i ≤ 1000000000000) : small62 i = true := s62_of h.1 h.2
theorem sm_s {i : Int} (h : -1000000000000000000 ≤ i ∧ i ≤ 1000000000000000000) : sm i = true := sm_of h.1 h.2
theorem ix_s {α : Type} [Inhabited α] (f : α → D) (l : List α) (i : Int) (h : 0 ≤ i ∧ i < l.length) : atI (l.map f) i = some (f (l.getD i.toNat default)) := by
  rw [ix_get _ _ h.1 (by simpa using h.2), List.getElem?_map, List.getElem?_eq_getElem (by omega)]
  simp [List.getD_eq_getElem?_getD, List.getElem?_eq_getElem (show i.toNat < l.length by omega)]
theorem ix_last {α : Type} [Inhabited α] (f : α → D) (l : List α) (h : 0 < l.length) : atI (l.map f) (-1) = some (f (l.getD (l.length - 1) default)) := by
  unfold atI ixN
  rw [if_neg (by omega), if_pos (by simp; omega)]
  have e : ((-1 : Int) + ((l.map f).length : Int)).toNat = l.length - 1 := by simp; omega
  rw [e, Option.bind_some, List.getElem?_map, List.getElem?_eq_getElem (by omega)]
  simp [List.getD_eq_getElem?_getD, List.getElem?_eq_getElem (show l.length - 1 < l.length by omega)]
theorem ix_snoc (l : List D) (d : D) : atI (l ++ [d]) (-1) = some d := by
  unfold atI ixN
  rw [if_neg (by omega), if_pos (by simp; omega)]
  simp
  rw [show ((-1 : Int) + ((l.length : Int) + 1)).toNat = l.length by omega]
  simp
theorem setL_snoc (l : List D) (d e : D) : setL (l ++ [d]) (-1) e = some (l ++ [e]) := by
  unfold setL ixN
  rw [if_neg (by omega), if_pos (by simp; omega)]
  simp
  rw [show ((-1 : Int) + ((l.length : Int) + 1)).toNat = l.length by omega]
  simp
theorem setL_s {α : Type} (f : α → D) (l : List α) (i : Int) (a : α) (h : 0 ≤ i ∧ i < l.length) : setL (l.map f) i (f a) = some ((l.set i.toNat a).map f) := by
  unfold setL ixN
  rw [if_pos h.1]
  simp [List.map_set, h]
/-! slices -/
theorem cut_from (l : List D) (k : Int) (h : 0 ≤ k) : cutD l (some k) none = l.drop k.toNat := by
  obtain ⟨n, rfl⟩ : ∃ n : Nat, k = n := ⟨k.toNat, by omega⟩
  unfold cutD
  rw [HT.sIx_nat, HT.sIx_none, Int.toNat_natCast]
  rw [List.take_of_length_le (by simp)]
  by_cases hn : n ≤ l.length
  · rw [Nat.min_eq_left hn]
  · rw [Nat.min_eq_right (by omega), List.drop_eq_nil_of_le (Nat.le_refl _), List.drop_eq_nil_of_le (by omega)]
theorem cut_to (l : List D) (k : Int) (h : 0 ≤ k) : cutD l none (some k) = l.take k.toNat := by
  obtain ⟨n, rfl⟩ : ∃ n : Nat, k = n := ⟨k.toNat, by omega⟩
  unfold cutD
  rw [HT.sIx_nat, HT.sIx_none, Int.toNat_natCast]
  rw [List.drop_zero, Nat.sub_zero]
  by_cases hn : n ≤ l.length
  · rw [Nat.min_eq_left hn]
  · rw [Nat.min_eq_right (by omega), List.take_of_length_le (Nat.le_refl _), List.take_of_length_le (by omega)]
theorem cut_mid (l : List D) (k m : Int) (h : 0 ≤ k) (h' : 0 ≤ m) : cutD l (some k) (some m) = (l.take m.toNat).drop k.toNat := by
  obtain ⟨n, rfl⟩ : ∃ n : Nat, k = n := ⟨k.toNat, by omega⟩
  obtain ⟨j, rfl⟩ : ∃ n : Nat, m = n := ⟨m.toNat, by omega⟩
  unfold cutD
  rw [HT.sIx_nat, HT.sIx_nat, Int.toNat_natCast, Int.toNat_natCast]
  apply List.ext_getElem?
  intro i
  rw [List.getElem?_take, List.getElem?_drop, List.getElem?_drop, List.getElem?_take]
  by_cases h1 : n ≤ l.length
  · rw [Nat.min_eq_left h1]
    by_cases h2 : n + i < l.length
    · by_cases h3 : n + i < j
      · rw [if_pos (by omega), if_pos h3]
      · rw [if_neg (by omega), if_neg h3]
    · rw [List.getElem?_eq_none (by omega)]
      simp
  · have a1 : l[l.length + i]? = none := List.getElem?_eq_none (by omega)
    have a2 : l[n + i]? = none := List.getElem?_eq_none (by omega)
    rw [Nat.min_eq_right (show l.length ≤ n by omega), a1, a2]
    simp
/-! sums, all, any of embedded lists -/
theorem getInts_m {α : Type} (f : α → Int) (l : List α) : getInts (l.map fun a => D.int (f a)) = some (l.map f) := by
  have := getInts_of (l.map f)
  rwa [List.map_map] at this
theorem getBls_m {α : Type} (f : α → Bool) (l : List α) : getBls (l.map fun a => D.bl (f a)) = some (l.map f) := by
  have := getBls_of (l.map f)
  rwa [List.map_map] at this
theorem sum_m {α : Type} (f : α → Int) (l : List α) : sumD (.lst (l.map fun a => D.int (f a))) = some (.int (l.map f).sum) := by
  show (getInts _).map _ = _
  rw [getInts_m]; rfl
theorem all_m {α : Type} (f : α → Bool) (l : List α) : allD (.lst (l.map fun a => D.bl (f a))) = some (.bl (l.all f)) := by
  show (getBls _).map _ = _
  rw [getBls_m]; simp
theorem any_m {α : Type} (f : α → Bool) (l : List α) : anyD (.lst (l.map fun a => D.bl (f a))) = some (.bl (l.any f)) := by
  show (getBls _).map _ = _
  rw [getBls_m]; simp
/-! while -/
theorem loopW_succ (t : Tf) (b : Sf) (ks : List Nat) (n : Nat) (ρ : Rho) : loopW t b ks (n + 1) ρ = (t ρ).bind fun p => if p.1 then (b p.2).bind fun o => match o with
      | .nx ρ' => loopW t b ks n (kill ks ρ')
      | .ct ρ' => loopW t b ks n (kill ks ρ')
      | .bk ρ' => some (.nx (kill ks ρ'))
      | .rt d ρ' => some (.rt d ρ')
    else some (.nx p.2) := rfl
theorem loopW_go {t : Tf} {b : Sf} {ks : List Nat} {n : Nat} {ρ ρ1 ρ2 : Rho} (h : t ρ = some (true, ρ1)) (k : (b ρ1).bind (nxOf ks) = some ρ2) : loopW t b ks (n + 1) ρ = loopW t b ks n ρ2 := by
  rw [loopW_succ, h]
  simp only [Option.bind_some, if_true]
  cases e : b ρ1 with
  | none => rw [e] at k; cases k
  | some o =>
    rw [e] at k
    cases o with
    | nx r => cases k; rfl
    | ct r => cases k; rfl
    | bk r => cases k
    | rt d r => cases k
theorem loopW_end {t : Tf} {b : Sf} {ks : List Nat} {n : Nat} {ρ ρ1 : Rho} (h : t ρ = some (false, ρ1)) : loopW t b ks (n + 1) ρ = some (.nx ρ1) := by
  rw [loopW_succ, h]; rfl
theorem sWhile_eq (n : Nat) (ks : List Nat) (t : Tf) (b : Sf) (ρ : Rho) : sWhile n ks t b ρ = loopW t b ks n (kill ks ρ) := rfl
/-- a loop whose turns all go on: by the turn's function on states -/
theorem loop_all {α σ : Type} {b : D → Rho → Option Out} {ks : List Nat} (emb : α → D) (st : σ → Rho) (f : σ → α → σ) (I : List α → σ → Prop) : ∀ (l pre : List α) (s : σ), I pre s →
    (∀ pre' a post, pre ++ l = pre' ++ a :: post → ∀ s, I pre' s → (b (emb a) (st s)).bind (nxOf ks) = some (st (f s a)) ∧ I (pre' ++ [a]) (f s a)) → loopF b ks (l.map emb) (st s) = some (.nx (st (l.foldl f s))) ∧ I (pre ++ l) (l.foldl f s)
  | [], pre, s, hi, _ => ⟨rfl, by simpa using hi⟩
  | a :: l, pre, s, hi, h => by
    obtain ⟨e1, i1⟩ := h pre a l rfl s hi
    obtain ⟨e2, i2⟩ := loop_all emb st f I l (pre ++ [a]) _ i1 fun pre' a' post e => h pre' a' post (by simpa using e)
    exact ⟨by rw [List.map_cons, loop_go e1, e2]; rfl, by simpa using i2⟩
/-! zip -/
theorem zip_m {α β : Type} (f : α → D) (g : β → D) (l : List α) (m : List β) : zipD (l.map f) (m.map g) = (l.zip m).map fun p => D.tup [f p.1, g p.2] := by
  unfold zipD
  rw [List.zip_map, List.map_map]
  rfl
/-! the order of data is total -/
theorem ltD_irr (a : D) : ltD a a = false := PyProof.Rows.lex_irrefl _
theorem ltD_asym {a b : D} (h : ltD a b = true) : ltD b a = false := by
  cases e : ltD b a with
  | false => rfl
  | true =>
    have := PyProof.Rows.lex_trans _ _ _ h e
    rw [PyProof.Rows.lex_irrefl] at this
    cases this
theorem ltD_tri {a b : D} (h : ltD a b = false) (k : ltD b a = false) : PySem.W.keyToks (py a) = PySem.W.keyToks (py b) := PyProof.Rows.lex_total _ _ h k
theorem ltD_trans {a b c : D} (h : ltD a b = true) (k : ltD b c = true) : ltD a c = true := PyProof.Rows.lex_trans _ _ _ h k
theorem pys_map {α : Type} (f : α → D) : ∀ l : List α, pys (l.map f) = l.map fun a => py (f a)
  | [] => rfl
  | a :: l => by rw [List.map_cons, List.map_cons, pys, pys_map f l]
end TL

namespace TL
open PySem PySem.Spec PyProof.Rows L2
/-- a loop that may end with a result -/
theorem loop_ret {α : Type} {b : D → Rho → Option Out} {ks : List Nat} (emb : α → D) (ρ : Rho) (p : α → Bool) (d : D) : ∀ (l : List α),
    (∀ a ∈ l, (p a = true → ∃ r, b (emb a) ρ = some (.rt d r)) ∧ (p a = false → (b (emb a) ρ).bind (nxOf ks) = some ρ)) →
    (l.any p = true → ∃ r, loopF b ks (l.map emb) ρ = some (.rt d r)) ∧ (l.any p = false → loopF b ks (l.map emb) ρ = some (.nx ρ))
  | [], h => ⟨fun h => by simp at h, fun _ => rfl⟩
  | a :: l, h => by
    obtain ⟨h1, h2⟩ := h a (by simp)
    obtain ⟨h3, h4⟩ := loop_ret emb ρ p d l fun a ha => h a (by simp [ha])
    cases hp : p a with
    | true =>
      obtain ⟨r, e⟩ := h1 hp
      refine ⟨fun _ => ⟨r, ?_⟩, fun k => ?_⟩
      · rw [List.map_cons, loop_rt e]
      · simp [hp] at k
    | false =>
      rw [List.any_cons, hp, Bool.false_or, List.map_cons, loop_go (h2 hp)]
      exact ⟨h3, h4⟩
/-- a result, whatever becomes of the slots -/
theorem exo {α β : Type} {x : Option (α × β)} {v : α} (h : x.map (fun p => p.1) = some v) : ∃ l, x = some (v, l) := by
  cases x with
  | none => cases h
  | some p => obtain ⟨a, b⟩ := p; simp at h; subst h; exact ⟨b, rfl⟩
/-- ends with True -/
def Tru (b : Sf) (ρ : Rho) : Prop := ∃ r, b ρ = some (.rt (.bl true) r)
theorem Tru.seq {f g : Sf} {ρ ρ1 : Rho} (h : f ρ = some (.nx ρ1)) (k : Tru g ρ1) : Tru (sSeq f g) ρ := by
  obtain ⟨r, e⟩ := k
  exact ⟨r, by rw [v_sSeq, h]; exact e⟩
theorem Tru.law {b : Sf} {m : Nat} {ns : List Int} (h : Tru b ([D.scr ns] ++ List.replicate m .non)) : ∃ r, runF b 1 m [.scr ns] = some (.bl true, r) := by
  obtain ⟨r, e⟩ := h
  rw [v_run1, e]
  exact ⟨_, rfl⟩
theorem next_nat (ns : List Int) (s : Dr) (h : s.ok) (m : Int) (h0 : 0 < m) (hm : m ≤ 1000000000000000000) : ∃ (v : Nat) (s' : Dr), s'.ok ∧ (v : Int) < m ∧ runF b__law_next 2 2 [drD ns s, .int m] = some (.int (v : Int), [drD ns s', .int m]) := by
  obtain ⟨v, s', ok, v0, vm, e⟩ := next_ok ns s h m h0 hm
  refine ⟨v.toNat, s', ok, by omega, ?_⟩
  rw [show ((v.toNat : Nat) : Int) = v by omega]
  exact e
/-- prefix of a range -/
theorem range_pre {n : Nat} {pre post : List Nat} {a : Nat} (h : [] ++ List.range n = pre ++ a :: post) : a = pre.length ∧ pre.length < n := by
  have h1 : (List.range n)[pre.length]? = some a := by
    rw [List.nil_append] at h
    rw [h]; simp
  have h2 : pre.length < n := by
    have := (List.getElem?_eq_some_iff.mp h1).1
    simpa using this
  rw [List.getElem?_range h2] at h1
  exact ⟨(Option.some.inj h1).symm, h2⟩
end TL

set_option maxHeartbeats 2000000
/-! itertools.combinations, at the library's level -/
namespace CpComb
open PySem PySem.Spec
open Sem (wp)
theorem mro_cmb : mroOf (.type "itertools.combinations") = pure [.type "itertools.combinations", .type "object"] := by rw [mroOf_type]; kernel_rfl
theorem lookup_cmb_new : typeLookup (.type "itertools.combinations") "__new__" = pure (some (.builtin "itertools.combinations.__new__")) := by rw [typeLookup_type, builtinLookup_eq_fast]; kernel_rfl
theorem slot_cmb_init : Slot "itertools.combinations" "__init__" "object.__init__" :=
  .of (owner := "object") (n := "__init__") (by rw [typeLookup_type, builtinLookup_eq_fast]; kernel_rfl) (by decide +kernel) (by decide +kernel) (by decide +kernel)
    (by first | exact .inl (by decide +kernel) | exact .inr (by decide +kernel)) (by rw [isSubtype_type]; kernel_rfl)
theorem sub_cmb : isSubtype (.type "itertools.combinations") (.type "itertools.combinations") = pure true := by rw [isSubtype_type]; kernel_rfl
theorem called_cmb : TypeCalled "itertools.combinations" "itertools.combinations.__new__" "object.__init__" :=
  ⟨by decide +kernel, by decide +kernel, ⟨_, _, mro_cmb⟩, madeBy_type mro_cmb lookup_cmb_new (by decide +kernel), by decide +kernel, sub_cmb, slot_cmb_init⟩
theorem typeCall_cmb_2 (a b : Value) : checkTypeCall "itertools.combinations" ⟨[a, b], []⟩ = pure () := by kernel_rfl
theorem newCall_cmb_2 (a b : Value) : checkBuiltinCall "itertools.combinations.__new__" ⟨[.type "itertools.combinations", a, b], []⟩ = pure () := by kernel_rfl
theorem entry_cmb_new : entryFor table "itertools.combinations.__new__" = some Builtin.«itertools.combinations.__new__» := entryFor_of_tree (by kernel_rfl)
theorem plain_cmb_new : plainId "itertools.combinations.__new__" = true := by decide +kernel
theorem slot_cmb_iter : Slot "itertools.combinations" "__iter__" "itertools.combinations.__iter__" :=
  .of (owner := "itertools.combinations") (n := "__iter__") (by rw [typeLookup_type, builtinLookup_eq_fast]; kernel_rfl) (by decide +kernel) (by decide +kernel) (by decide +kernel)
    (by first | exact .inl (by decide +kernel) | exact .inr (by decide +kernel)) sub_cmb
theorem slot_cmb_next : Slot "itertools.combinations" "__next__" "itertools.combinations.__next__" :=
  .of (owner := "itertools.combinations") (n := "__next__") (by rw [typeLookup_type, builtinLookup_eq_fast]; kernel_rfl) (by decide +kernel) (by decide +kernel) (by decide +kernel)
    (by first | exact .inl (by decide +kernel) | exact .inr (by decide +kernel)) sub_cmb
theorem entry_cmb_iter : entryFor table "itertools.combinations.__iter__" = some Builtin.«dict_keyiterator.__iter__» :=
  entryFor_alias (id' := "dict_keyiterator.__iter__") (by kernel_rfl) (by first | rfl | decide +kernel | (unfold String.splitOn; simp +decide [String.splitOnAux])) (by decide +kernel) (by kernel_rfl)
theorem entry_cmb_next : entryFor table "itertools.combinations.__next__" = some Builtin.«itertools.combinations.__next__» := entryFor_of_tree (by kernel_rfl)
theorem owner_cmb : Manifest.owners.lookup (String.ofList ("itertools.combinations".toList.reverse).reverse) = some Manifest.sig_itertools_combinations := by kernel_rfl
theorem args_cmb_iter (a : Value) : argsOk "itertools.combinations.__iter__" ⟨[a], []⟩ := by
  unfold argsOk; rw [signature?_of (id := "itertools.combinations.__iter__") (n := "__iter__".toList.reverse) (o := "itertools.combinations".toList.reverse) (by kernel_rfl) owner_cmb]; kernel_rfl
theorem args_cmb_next (a : Value) : argsOk "itertools.combinations.__next__" ⟨[a], []⟩ := by
  unfold argsOk; rw [signature?_of (id := "itertools.combinations.__next__") (n := "__next__".toList.reverse) (o := "itertools.combinations".toList.reverse) (by kernel_rfl) owner_cmb]; kernel_rfl
theorem noDict_cmb : typeHasDict (.type "itertools.combinations") = false := by decide +kernel
/-- the next row of places -/
def nextC (n : Nat) (indices : List Nat) : Option (List Nat) :=
  let r := indices.length
  match (List.range r).reverse.find? fun i => indices.getD i 0 != i + n - r with
  | none => none
  | some i => some (indices.take i ++ (List.range (r - i)).map (indices.getD i 0 + 1 + ·))
end CpComb

set_option maxHeartbeats 2000000
namespace CpComb
open PySem PySem.Spec
open Sem (wp)
/-- a combinations object: its pool, 0 ahead of the first, 1 then, 2 at its end; what it gave; its places -/
abbrev IsCmb (h : Heap) (it : Addr) (pool : Addr) (st : Int) (cur : Value) (idx : List Nat) : Prop :=
  h.get? it = some { cls := .type "itertools.combinations", dict := none, data := .fields ([.ref pool, .int st 0, cur] ++ idx.map fun n : Nat => rawInt n).toArray, slots := #[] }
section
variable {prog : Program} {w : World} {A : Around} {E : Value → Shared → Prop} {s : Shared}
/-- collecting a thing gives some items -/
def Coll (prog : Program) (w : World) (E : Value → Shared → Prop) (v : Value) (P : Shared → List Value → Prop) (s : Shared) : Prop :=
  ∀ (A : Around) (Q : List Value → Shared → Prop), A.handled = none → (∀ (h' : Heap) (tk : Nat) (us : List Value), (∀ b o, s.heap.get? b = some o → h'.get? b = some o) → P { s with heap := h', toks := tk } us → Q us { s with heap := h', toks := tk }) →
    wpAny (model prog w) A (collect v) Q E s
theorem code_cmb_new {v : Value} {k : Nat} {t : Tok} {P : Shared → List Value → Prop} {Q₁ : Value → Shared → Prop} (hh : A.handled = none) (hk : k ≤ 1000) (hc : Coll prog w E v P s)
    (hlen : ∀ s' us, P s' us → us.length ≤ 100000)
    (h : ∀ (h' : Heap) (tk : Nat) (us : List Value), (∀ b o, s.heap.get? b = some o → h'.get? b = some o) → P { s with heap := h', toks := tk } us →
      Q₁ (.ref (h'.push { cls := .type "tuple", data := .seq us.toArray }).objs.size) { s with heap := (h'.push { cls := .type "tuple", data := .seq us.toArray }).push { cls := .type "itertools.combinations", data := .fields ([.ref h'.objs.size, rawInt (if k > us.length then 2 else 0), .none] ++ (List.range k).map fun (i : Nat) => rawInt i).toArray }, toks := tk }) :
    codeAny (model prog w) A (.call (.builtin "itertools.combinations.__new__") ⟨[.type "itertools.combinations", v, .int k t], []⟩) (wants Q₁ E) s := by
  refine codeAny_of_tree ?_
  show wpAny _ A.in1 (do checkBuiltinCall "itertools.combinations.__new__" ⟨[.type "itertools.combinations", v, .int k t], []⟩; again (.builtin "itertools.combinations.__new__" ⟨[.type "itertools.combinations", v, .int k t], []⟩)) _ _ s
  refine wpAny_bind (wpAny_of_eq (newCall_cmb_2 _ _) (wpAny_pure ⟨plainId_quiet plain_cmb_new _, codeAny_builtin entry_cmb_new ?_⟩))
  rw [Around.under_plainId plain_cmb_new _]
  have hh1 : A.in1.handled = none := hh
  have e1 : Builtin.Itertools.itClassAndRest "combinations" ⟨[.type "itertools.combinations", v, .int k t], []⟩ = pure (.type "itertools.combinations", [v, .int k t]) := by
    kernel_rfl
  have e2 : ∀ a b : Value, Builtin.Itertools.itBindNamed "combinations" ["iterable", "r"] 2 2 [a, b] [] = pure [some a, some b] := fun a b => by kernel_rfl
  have e4 : asIndex (.int k t) = pure (k : Int) := by kernel_rfl
  have k1 : (decide ((k : Int) < -(2 ^ 63 : Int)) || decide ((k : Int) ≥ 2 ^ 63)) = false := by
    rw [decide_eq_false (by omega), decide_eq_false (by omega)]; rfl
  have k2 : ¬ (k : Int) < 0 := by omega
  have k3 : Builtin.Itertools.itTooMany (k : Int) = false := decide_eq_false (by omega)
  refine wpAny_bind ?_
  show wpAny _ _ (Builtin.Itertools.itClassAndRest "combinations" _ >>= _) _ _ s
  refine wpAny_bind (wpAny_of_eq e1 ?_)
  show wpAny _ _ (Builtin.Itertools.itBindNamed "combinations" ["iterable", "r"] 2 2 [v, .int k t] [] >>= _) _ _ s
  refine wpAny_bind (wpAny_of_eq (e2 _ _) ?_)
  show wpAny _ _ (Builtin.Itertools.itSsizeArg (.int k t) >>= _) _ _ s
  refine wpAny_bind ?_
  show wpAny _ _ (asIndex (.int k t) >>= _) _ _ s
  refine wpAny_bind (wpAny_of_eq e4 ?_)
  show wpAny _ _ (if (decide ((k : Int) < -(2 ^ 63 : Int)) || decide ((k : Int) ≥ 2 ^ 63)) = true then _ else _) _ _ s
  rw [k1, if_neg Bool.false_ne_true]
  refine wpAny_pure ?_
  show wpAny _ _ (collect v >>= _) _ _ s
  refine wpAny_bind (hc _ _ hh1 fun h' tk us hk' hP => ?_)
  show wpAny _ _ (if (k : Int) < 0 then _ else _) _ _ _
  rw [if_neg k2]
  show wpAny _ _ (if Builtin.Itertools.itTooMany (k : Int) = true then _ else _) _ _ _
  rw [k3, if_neg Bool.false_ne_true]
  show wpAny _ _ (newTuple us >>= _) _ _ _
  refine wpAny_bind ?_
  simp only [newTuple]
  refine wpAny_newObj_type ?_ ?_
  · refine wpAny_pure ?_
    rw [Int.toNat_natCast]
    refine wpAny_bind ?_
    show wpAny _ _ (if (!typeHasDict (.type "itertools.combinations")) = true then _ else _) _ _ _
    rw [noDict_cmb, if_pos (by rfl)]
    refine wpAny_newObj_type ?_ ?_
    · refine wpAny_pure ?_
      exact h h' tk us hk' hP
    · show _ ≤ sizeLine + 2
      rw [sizeLine_eq]
      simp
      omega
  · show us.toArray.size ≤ sizeLine
    have := hlen _ us hP
    rw [sizeLine_eq]
    simp
    omega

theorem call_cmb {v : Value} {k : Nat} {t : Tok} {P : Shared → List Value → Prop} {Q : Value → Shared → Prop} (hh : A.handled = none) (hk : k ≤ 1000) (hc : Coll prog w E v P s) (hlen : ∀ s' us, P s' us → us.length ≤ 100000)
    (h : ∀ (h1 h' : Heap) (pool it : Addr) (tk : Nat) (us : List Value), (∀ b o, s.heap.get? b = some o → h1.get? b = some o) → P { s with heap := h1, toks := tk } us → (∀ b o, h1.get? b = some o → h'.get? b = some o) → h1.objs.size ≤ pool → h1.objs.size ≤ it → pool ≠ it →
      h'.get? pool = some { cls := .type "tuple", data := .seq us.toArray } → IsCmb h' it pool (if k > us.length then 2 else 0) .none (List.range k) → Q (.ref it) { s with heap := h', toks := tk }) :
    wpAny (model prog w) A (call (.type "itertools.combinations") [v, .int k t]) Q E s := by
  refine callType_codes (Q₁ := fun obj s₁ => s₁.TypeIs obj "itertools.combinations" ∧ Q obj s₁) called_cmb (typeCall_cmb_2 _ _) F.entry_object_init
    (code_cmb_new (A := A.in1) hh hk hc hlen fun h' tk us hk' hP => ⟨⟨_, Heap.get?_push_size _ rfl, rfl⟩, ?_⟩) fun obj s₁ h₁ => ?_
  · refine h h' _ h'.objs.size _ tk us hk' hP (fun b o e => Heap.get?_push_of_some _ (Heap.get?_push_of_some _ e)) (Nat.le_refl _) ?_ ?_ ?_ ?_
    · rw [Heap.size_push]; exact Nat.le_succ _
    · rw [Heap.size_push]; exact Nat.ne_of_lt (Nat.lt_succ_self _)
    · exact Heap.get?_push_of_some _ (Heap.get?_push_size _ rfl)
    · exact Heap.get?_push_size _ rfl
  · exact ⟨h₁.1, F.args_object_init_3 obj _ _, object_init_meets called_cmb.init.lookup called_cmb.made (by decide) prog w A.in1 _ s₁ ⟨h₁.1, rfl, h₁.2⟩⟩
theorem iter_cmb {it pool : Addr} {st : Int} {cur : Value} {idx : List Nat} {Q : Value → Shared → Prop} (hit : IsCmb s.heap it pool st cur idx) (h : Q (.ref it) s) : wpAny (model prog w) A (pyIter (.ref it)) Q E s := by
  have hT : s.TypeIs (.ref it) "itertools.combinations" := ⟨_, hit, rfl⟩
  refine wpAny_pyIter_slot hT slot_cmb_iter (wpAny_call_entry slot_cmb_iter hT entry_cmb_iter ?_ (args_cmb_iter _))
  show wpAny _ _ (ret (.ref it)) _ _ s
  exact wpAny_pure ⟨_, rfl, "itertools.combinations", _, hT, slot_cmb_next.lookup, h⟩
theorem nums_of (idx : List Nat) (a b c : Value) : (([a, b, c] ++ idx.map fun n : Nat => rawInt n).toArray.toList.drop 3).map (fun v => match v with | .int n _ => n.toNat | _ => 0) = idx := by
  show ((idx.map fun n : Nat => rawInt n)).map _ = idx
  rw [List.map_map]
  conv => rhs; rw [← List.map_id idx]
  rfl
theorem give {it pool : Addr} {cur : Value} {idx : List Nat} {us : List Value} {Q : Value → Shared → Prop} (hne : pool ≠ it) (hit : IsCmb s.heap it pool 1 cur idx) (hp : s.heap.get? pool = some { cls := .type "tuple", data := .seq us.toArray }) (hl : idx.length ≤ 1000)
    (hQ : ∀ h', IsCmb h' it pool 1 (.ref s.heap.objs.size) idx → h'.get? s.heap.objs.size = some { cls := .type "tuple", data := .seq (idx.map fun i => us.toArray.getD i .none).toArray } → (∀ b o, b ≠ it → s.heap.get? b = some o → h'.get? b = some o) → Q (.ref s.heap.objs.size) { s with heap := h' }) :
    wpAny (model prog w) A (do
      let out ← (do
        let xs ← Builtin.Itertools.itPoolItems (.ref pool)
        newTuple (idx.map fun i => xs.getD i .none))
      let was ← field (.ref it) 2
      setField (.ref it) 2 out
      letGo [was] [out]
      ret out : Sem PySem.Fin) (fun r s' => ∃ v, r = .done (.ret v) ∧ Q v s') E s := by
  have lit : it < s.heap.objs.size := Heap.lt_size hit
  refine wpAny_bind (wpAny_bind ?_)
  show wpAny _ _ (seqItems? (.ref pool) >>= _) _ _ s
  refine wpAny_bind (wpAny_seqItems hp rfl ?_)
  refine wpAny_pure ?_
  simp only [newTuple]
  refine wpAny_newObj_type ?_ ?_
  · have hit1 : IsCmb (s.heap.push { cls := .type "tuple", data := .seq (idx.map fun i => us.toArray.getD i .none).toArray }) it pool 1 cur idx := Heap.get?_push_of_some _ hit
    refine wpAny_bind (wpAny_field hit1 rfl (x := cur) (by rfl) ?_)
    refine wpAny_bind (wpAny_setField hit1 rfl (by simp) ?_)
    refine wpAny_bind (wpAny_letGo ?_)
    refine wpAny_pure ⟨_, rfl, hQ _ ?_ ?_ fun b o hb e => ?_⟩
    · exact Heap.get?_update_self _ hit1 rfl
    · exact (Heap.get?_update_other _ _ (Nat.ne_of_lt lit)).trans (Heap.get?_push_size _ rfl)
    · exact (Heap.get?_update_other _ _ (Ne.symm hb)).trans (Heap.get?_push_of_some _ e)
  · show (idx.map fun i => us.toArray.getD i .none).toArray.size ≤ sizeLine
    rw [sizeLine_eq]; simp; omega

theorem cmb_first {it pool : Addr} {cur : Value} {idx : List Nat} {us : List Value} {Q : Option Value → Shared → Prop} (hne : pool ≠ it) (hit : IsCmb s.heap it pool 0 cur idx) (hp : s.heap.get? pool = some { cls := .type "tuple", data := .seq us.toArray }) (hl : idx.length ≤ 1000)
    (hQ : ∀ h', IsCmb h' it pool 1 (.ref s.heap.objs.size) idx → h'.get? s.heap.objs.size = some { cls := .type "tuple", data := .seq (idx.map fun i => us.toArray.getD i .none).toArray } → (∀ b o, b ≠ it → s.heap.get? b = some o → h'.get? b = some o) → Q (some (.ref s.heap.objs.size)) { s with heap := h' }) :
    wpAny (model prog w) A (callSpecial? (.ref it) "__next__") Q E s := by
  have hT : s.TypeIs (.ref it) "itertools.combinations" := ⟨_, hit, rfl⟩
  refine wpAny_callSpecial?_slot (name := Str.ofString "__next__") hT slot_cmb_next (wpAny_call_entry slot_cmb_next hT entry_cmb_next ?_ (args_cmb_next _))
  show wpAny _ _ (field (.ref it) 0 >>= _) _ _ s
  refine wpAny_bind (wpAny_field hit rfl (x := .ref pool) (by rfl) ?_)
  show wpAny _ _ (Builtin.Itertools.itNumbersFrom (.ref it) 3 >>= _) _ _ s
  refine wpAny_bind ?_
  show wpAny _ _ (load it >>= _) _ _ s
  refine wpAny_bind (wpAny_load hit ?_)
  refine wpAny_pure ?_
  show wpAny _ _ (Builtin.Itertools.itIntField (.ref it) 1 >>= _) _ _ s
  refine wpAny_bind ?_
  show wpAny _ _ (field (.ref it) 1 >>= _) _ _ s
  refine wpAny_bind (wpAny_field hit rfl (x := .int 0 0) (by rfl) (wpAny_pure ?_))
  show wpAny _ _ (setField (.ref it) 1 (rawInt 1) >>= _) _ _ s
  refine wpAny_bind (wpAny_setField hit rfl (by simp) ?_)
  have hit1 : IsCmb (s.heap.update it (Obj.mapFields fun x => x.setIfInBounds 1 (rawInt 1))) it pool 1 cur idx := Heap.get?_update_self _ hit rfl
  have hp1 : (s.heap.update it (Obj.mapFields fun x => x.setIfInBounds 1 (rawInt 1))).get? pool = some { cls := .type "tuple", data := .seq us.toArray } := (Heap.get?_update_other _ _ (Ne.symm hne)).trans hp
  have sz : (s.heap.update it (Obj.mapFields fun x => x.setIfInBounds 1 (rawInt 1))).objs.size = s.heap.objs.size := (Heap.SameBut.update s.heap it _).1
  have key := give (prog := prog) (w := w) (A := A.in1) (E := E) (s := { s with heap := s.heap.update it (Obj.mapFields fun x => x.setIfInBounds 1 (rawInt 1)) }) (Q := fun v s' => Q (some v) s') hne hit1 hp1 hl fun h' a b c => by
    simp only [sz] at a b ⊢
    exact hQ h' a b fun x o hx e => c x o hx ((Heap.get?_update_other _ _ (Ne.symm hx)).trans e)
  have e := nums_of idx (.ref pool) (.int 0 0) cur
  erw [e]
  exact key
theorem cmb_next {it pool : Addr} {cur : Value} {idx idx' : List Nat} {us : List Value} {Q : Option Value → Shared → Prop} (hne : pool ≠ it) (hit : IsCmb s.heap it pool 1 cur idx) (hp : s.heap.get? pool = some { cls := .type "tuple", data := .seq us.toArray }) (hn : nextC us.length idx = some idx') (hl : idx'.length ≤ 1000)
    (hQ : ∀ h', IsCmb h' it pool 1 (.ref s.heap.objs.size) idx' → h'.get? s.heap.objs.size = some { cls := .type "tuple", data := .seq (idx'.map fun i => us.toArray.getD i .none).toArray } → (∀ b o, b ≠ it → s.heap.get? b = some o → h'.get? b = some o) → Q (some (.ref s.heap.objs.size)) { s with heap := h' }) :
    wpAny (model prog w) A (callSpecial? (.ref it) "__next__") Q E s := by
  have hT : s.TypeIs (.ref it) "itertools.combinations" := ⟨_, hit, rfl⟩
  refine wpAny_callSpecial?_slot (name := Str.ofString "__next__") hT slot_cmb_next (wpAny_call_entry slot_cmb_next hT entry_cmb_next ?_ (args_cmb_next _))
  show wpAny _ _ (field (.ref it) 0 >>= _) _ _ s
  refine wpAny_bind (wpAny_field hit rfl (x := .ref pool) (by rfl) ?_)
  show wpAny _ _ (Builtin.Itertools.itNumbersFrom (.ref it) 3 >>= _) _ _ s
  refine wpAny_bind ?_
  show wpAny _ _ (load it >>= _) _ _ s
  refine wpAny_bind (wpAny_load hit ?_)
  refine wpAny_pure ?_
  have e := nums_of idx (.ref pool) (.int 1 0) cur
  erw [e]
  show wpAny _ _ (Builtin.Itertools.itIntField (.ref it) 1 >>= _) _ _ s
  refine wpAny_bind ?_
  show wpAny _ _ (field (.ref it) 1 >>= _) _ _ s
  refine wpAny_bind (wpAny_field hit rfl (x := .int 1 0) (by rfl) (wpAny_pure ?_))
  show wpAny _ _ (Builtin.Itertools.itPoolItems (.ref pool) >>= _) _ _ s
  refine wpAny_bind ?_
  show wpAny _ _ (seqItems? (.ref pool) >>= _) _ _ s
  refine wpAny_bind (wpAny_seqItems hp rfl (wpAny_pure ?_))
  have hsz : us.toArray.size = us.length := by simp
  rw [← hsz] at hn
  show wpAny _ _ (match nextC us.toArray.size idx with | some next => _ | none => _) _ _ s
  rw [hn]
  show wpAny _ _ (Builtin.Itertools.itSetNumbersFrom (.ref it) 3 idx' >>= _) _ _ s
  refine wpAny_bind ?_
  show wpAny _ _ (updateFields it (fun fs => fs.extract 0 3 ++ (idx'.map fun (n : Nat) => rawInt n).toArray)) _ _ s
  refine wpAny_updateFields hit rfl ?_ ?_
  · have hit1 : IsCmb (s.heap.update it (Obj.mapFields fun fs => fs.extract 0 3 ++ (idx'.map fun (n : Nat) => rawInt n).toArray)) it pool 1 cur idx' := by
      refine (Heap.get?_update_self _ hit rfl).trans ?_
      simp [Obj.mapFields]
    have hp1 : (s.heap.update it (Obj.mapFields fun fs => fs.extract 0 3 ++ (idx'.map fun (n : Nat) => rawInt n).toArray)).get? pool = some { cls := .type "tuple", data := .seq us.toArray } := (Heap.get?_update_other _ _ (Ne.symm hne)).trans hp
    have sz : (s.heap.update it (Obj.mapFields fun fs => fs.extract 0 3 ++ (idx'.map fun (n : Nat) => rawInt n).toArray)).objs.size = s.heap.objs.size := (Heap.SameBut.update s.heap it _).1
    exact give (prog := prog) (w := w) (A := A.in1) (E := E) (s := { s with heap := s.heap.update it (Obj.mapFields fun fs => fs.extract 0 3 ++ (idx'.map fun (n : Nat) => rawInt n).toArray) }) (Q := fun v s' => Q (some v) s') hne hit1 hp1 hl fun h' a b c => by
      simp only [sz] at a b ⊢
      exact hQ h' a b fun x o hx e => c x o hx ((Heap.get?_update_other _ _ (Ne.symm hx)).trans e)
  · rw [sizeLine_eq]; simp; omega
theorem stop_cmb {Q : Option Value → Shared → Prop} {it : Addr} (hh : A.handled = none) (hQ : ∀ e h', CpRep.StopE e h' → Heap.ExtBut it s.heap h' → E e { s with heap := h' }) :
    wpAny (model prog w) A.in1 (Builtin.Itertools.itStop : Sem PySem.Fin) (fun r s' => ∃ v, r = .done (.ret v) ∧ Q (some v) s') E s := by
  refine wpAny_bind ?_
  simp only [newExc, newTuple]
  refine wpAny_bind (wpAny_newObj_type ?_ (by size_fits))
  refine wpAny_bind (m := firstArgMember _ _) (wpAny_of_eq (a := Value.none) (by first | rfl | (simp only [firstArgMember]; rfl)) ?_)
  refine wpAny_newObj_type ?_ (by size_fits)
  simp only [raiseNew]
  refine wpAny_bind (wpAny_handled ?_)
  first | rw [show A.in1.handled = none from hh] | rw [hh]
  refine wpAny_bind (wpAny_pure (wpAny_throw ?_))
  exact hQ _ _ ⟨_, _, _, rfl, Heap.get?_push_size _ rfl, rfl, rfl, rfl⟩ (((Heap.ExtBut.refl it s.heap).push _).push _)
theorem cmb_end {it pool : Addr} {cur : Value} {idx : List Nat} {us : List Value} {st : Int} {Q : Option Value → Shared → Prop} (hh : A.handled = none) (hne : pool ≠ it) (hit : IsCmb s.heap it pool st cur idx) (hp : s.heap.get? pool = some { cls := .type "tuple", data := .seq us.toArray }) (hst : st = 2 ∨ (st = 1 ∧ nextC us.length idx = none))
    (hQ : ∀ e h', CpRep.StopE e h' → (∀ b o, b ≠ it → s.heap.get? b = some o → h'.get? b = some o) → E e { s with heap := h' }) : wpAny (model prog w) A (callSpecial? (.ref it) "__next__") Q E s := by
  have hT : s.TypeIs (.ref it) "itertools.combinations" := ⟨_, hit, rfl⟩
  refine wpAny_callSpecial?_slot (name := Str.ofString "__next__") hT slot_cmb_next (wpAny_call_entry slot_cmb_next hT entry_cmb_next ?_ (args_cmb_next _))
  show wpAny _ _ (field (.ref it) 0 >>= _) _ _ s
  refine wpAny_bind (wpAny_field hit rfl (x := .ref pool) (by rfl) ?_)
  show wpAny _ _ (Builtin.Itertools.itNumbersFrom (.ref it) 3 >>= _) _ _ s
  refine wpAny_bind ?_
  show wpAny _ _ (load it >>= _) _ _ s
  refine wpAny_bind (wpAny_load hit ?_)
  refine wpAny_pure ?_
  have e := nums_of idx (.ref pool) (.int st 0) cur
  erw [e]
  show wpAny _ _ (Builtin.Itertools.itIntField (.ref it) 1 >>= _) _ _ s
  refine wpAny_bind ?_
  show wpAny _ _ (field (.ref it) 1 >>= _) _ _ s
  refine wpAny_bind (wpAny_field hit rfl (x := .int st 0) (by rfl) (wpAny_pure ?_))
  rcases hst with rfl | ⟨rfl, hn⟩
  · refine wpAny_bind (wpAny_rule ?_)
    exact stop_cmb hh fun e h' se k => hQ e h' se fun b o hb q => k b o hb q
  · show wpAny _ _ (Builtin.Itertools.itPoolItems (.ref pool) >>= _) _ _ s
    refine wpAny_bind ?_
    show wpAny _ _ (seqItems? (.ref pool) >>= _) _ _ s
    refine wpAny_bind (wpAny_seqItems hp rfl (wpAny_pure ?_))
    have hsz : us.toArray.size = us.length := by simp
    rw [← hsz] at hn
    show wpAny _ _ (match nextC us.toArray.size idx with | some next => _ | none => _) _ _ s
    rw [hn]
    show wpAny _ _ (setField (.ref it) 1 (rawInt 2) >>= _) _ _ s
    refine wpAny_bind (wpAny_setField hit rfl (by simp) ?_)
    exact stop_cmb hh fun e h' se k => hQ e h' se fun b o hb q => k b o hb ((Heap.get?_update_other _ _ (Ne.symm hb)).trans q)
end
end CpComb

set_option maxHeartbeats 2000000
/-! itertools.combinations, walked -/
namespace CpComb
open PySem PySem.Spec PyProof.Rows L2
def seqC (n k : Nat) : Nat → Option (List Nat)
  | 0 => if k ≤ n then some (List.range k) else none
  | i + 1 => (seqC n k i).bind (nextC n)
theorem nextC_len {n : Nat} {a b : List Nat} (h : nextC n a = some b) : b.length = a.length := by
  unfold nextC at h
  simp only at h
  split at h
  · cases h
  · rename_i i e
    cases h
    have hm := List.mem_of_find?_eq_some e
    have hi : i < a.length := by simpa using hm
    simp
    omega
theorem seqC_len {n k : Nat} : ∀ {i : Nat} {a : List Nat}, seqC n k i = some a → a.length = k
  | 0, a, h => by
    unfold seqC at h
    split at h
    · cases h; simp
    · cases h
  | i + 1, a, h => by
    unfold seqC at h
    cases e : seqC n k i with
    | none => rw [e] at h; cases h
    | some b => rw [e] at h; rw [nextC_len (show nextC n b = some a from h), seqC_len e]
theorem seqC_none {n k : Nat} {i : Nat} (h : seqC n k i = none) : ∀ j, i ≤ j → seqC n k j = none
  | 0, hj => by
    have : i = 0 := by omega
    rw [← this]; exact h
  | j + 1, hj => by
    by_cases e : i = j + 1
    · rw [← e]; exact h
    · unfold seqC; rw [seqC_none h j (by omega)]; rfl
def ItC (xs : List V) (k : Nat) : It :=
  ⟨fun i _ => (seqC xs.length k i).isSome = true, fun i H v H' => ∃ T idx, seqC xs.length k i = some idx ∧ v = .ref T ∧ H T = none ∧ H' = upd H T (.tup (idx.map fun j => xs.getD j .non)), fun i _ => seqC xs.length k i = none⟩
theorem vals_getD {xs : List V} {us : List Value} (r : Vals xs us) (j : Nat) : RelV (xs.getD j .non) (us.toArray.getD j .none) := by
  rw [List.getD_eq_getElem?_getD]
  cases e : xs[j]? with
  | none =>
    have e' := r.none_of e
    have : us.toArray.getD j .none = .none := by
      rw [Array.getD_eq_getD_getElem?]; simp [e']
    rw [this]; rfl
  | some x =>
    obtain ⟨u, e', ru⟩ := r.get e
    have : us.toArray.getD j .none = u := by
      rw [Array.getD_eq_getD_getElem?]; simp [e']
    rw [this]; exact ru
theorem vals_map {xs : List V} {us : List Value} (r : Vals xs us) : ∀ idx : List Nat, Vals (idx.map fun j => xs.getD j .non) (idx.map fun j => us.toArray.getD j .none)
  | [] => .nil
  | j :: idx => .cons (vals_getD r j) (vals_map r idx)
theorem turn_cmb {P : Program} {w : World} {K : PySem.W.Frag} {tg : Expr} {xs : List V} {us : List Value} {k : Nat} {pool it : Addr} (hne : pool ≠ it) (hk : k ≤ 1000) (rv : Vals xs us) :
    Turn P w K tg (ItC xs k) [it, pool] it (fun i h => h.get? pool = some { cls := .type "tuple", data := .seq us.toArray } ∧ (match i with
      | 0 => ∃ cur, IsCmb h it pool (if k > us.length then 2 else 0) cur (List.range k)
      | i + 1 => ∃ idx cur, seqC us.length k i = some idx ∧ IsCmb h it pool 1 cur idx)) where
  mem := by simp
  obj := fun i h st c hc => by
    obtain ⟨hp, hs⟩ := st
    have e' : c = it ∨ c = pool := by simpa using hc
    rcases e' with q | q
    · rw [q]
      cases i with
      | zero => obtain ⟨cur, e⟩ := hs; exact ⟨_, e, fun v q => nomatch q⟩
      | succ i => obtain ⟨idx, cur, _, e⟩ := hs; exact ⟨_, e, fun v q => nomatch q⟩
    · rw [q]; exact ⟨_, hp, fun v q => nomatch q⟩
  keep := fun i h h' st kk => by
    obtain ⟨hp, hs⟩ := st
    refine ⟨kk pool (by simp) _ hp, ?_⟩
    cases i with
    | zero => obtain ⟨cur, e⟩ := hs; exact ⟨cur, kk it (by simp) _ e⟩
    | succ i => obtain ⟨idx, cur, e0, e⟩ := hs; exact ⟨idx, cur, e0, kk it (by simp) _ e⟩
  item := by
    intro X hP hw hK hc i pins s σ H E I hf st hg
    subst hP hw hK
    obtain ⟨hp, hs⟩ := st
    have hl := rv.length
    have main : ∀ idx : List Nat, seqC us.length k i = some idx → ∀ (E : Value → Shared → Prop) (Q : Option Value → Shared → Prop),
        (∀ h', IsCmb h' it pool 1 (.ref s.heap.objs.size) idx → h'.get? s.heap.objs.size = some { cls := .type "tuple", data := .seq (idx.map fun i => us.toArray.getD i .none).toArray } → (∀ b o, b ≠ it → s.heap.get? b = some o → h'.get? b = some o) → Q (some (.ref s.heap.objs.size)) { s with heap := h' }) →
        wpAny (model X.prog X.w) X.A (callSpecial? (.ref it) "__next__") Q E s := by
      intro idx he E Q hQ
      have hil := seqC_len he
      cases i with
      | zero =>
        obtain ⟨cur, e⟩ := hs
        unfold seqC at he
        split at he
        · rename_i hkn
          cases he
          rw [if_neg (by omega)] at e
          exact cmb_first hne e hp (by omega) hQ
        · cases he
      | succ i =>
        obtain ⟨idx0, cur, e0, e⟩ := hs
        unfold seqC at he
        rw [e0] at he
        exact cmb_next hne e hp he (by omega) hQ
    have hg' : (seqC xs.length k i).isSome = true := hg
    cases he : seqC us.length k i with
    | none => rw [hl, he] at hg'; cases hg'
    | some idx =>
      unfold pyNext
      refine wpAny_bind (wpAny_attempt (main idx he _ _ fun h' hit hT hkp => ?_))
      have new : ObjOk X.prog X.w (upd H s.heap.objs.size (.tup (idx.map fun j => xs.getD j .non))) h' s.heap.objs.size (.tup (idx.map fun j => xs.getD j .non)) := by
        refine ⟨?_, _, vals_map rv idx, ⟨_, hT, rfl, _, rfl⟩⟩
        rw [List.length_map, seqC_len he, sizeLine_eq]; omega
      have I1 : Inv X pins σ (upd H s.heap.objs.size (.tup (idx.map fun j => xs.getD j .non))) { s with heap := h' } :=
        I.turnedNew (t' := s.toks) (ch := [it, pool]) (fun c o hb q => hkp c o (fun q' => hb (by simp [q'])) q) hf (Nat.le_refl _) new
      refine wpAny_pure ⟨_, rfl, ?_⟩
      have ho : h'.get? it = some _ := hit
      refine go_of (s := { s with heap := h' }) ho rfl rfl (by decide) ⟨.ref s.heap.objs.size, _, I1, rfl, ⟨_, idx, by rw [hl]; exact he, rfl, I.hok.fresh (Nat.le_refl _), rfl⟩, ⟨hkp _ _ hne hp, idx, _, he, hit⟩, fun c hcm => ?_⟩
      have hlt : c < s.heap.objs.size := by
        have e' : c = it ∨ c = pool := by simpa using hcm
        rcases e' with q | q
        · rw [q]
          cases i with
          | zero => obtain ⟨cur, e⟩ := hs; exact Heap.lt_size e
          | succ i => obtain ⟨idx, cur, _, e⟩ := hs; exact Heap.lt_size e
        · rw [q]; exact Heap.lt_size hp
      rw [upd_ne (Nat.ne_of_lt hlt)]
      exact (hf c hcm).1
  done := by
    intro X hP hw hK hc i pins s σ H E I hf st hg
    subst hP hw hK
    obtain ⟨hp, hs⟩ := st
    have hl := rv.length
    have hg' : seqC us.length k i = none := by rw [← hl]; exact hg
    unfold pyNext
    have fin : ∀ e h', CpRep.StopE e h' → (∀ b o, b ≠ it → s.heap.get? b = some o → h'.get? b = some o) →
        wpAny (model X.prog X.w) X.A (do if ← isInstance e (.type "StopIteration") then pure none else throw e : Sem (Option Value)) (fun r s1 => r = none ∧ Inv X pins σ H s1) E { s with heap := h' } := by
      intro e h' ⟨a, o, vs, he, ho, hcl, _, _⟩ hk'
      subst he
      refine wpAny_bind (wpAny_isInstance (T := "StopIteration") (b := true) ⟨o, ho, hcl⟩ isSubtype_stop ?_)
      refine wpAny_pure ⟨rfl, I.turnedL (t' := s.toks) (ch := [it, pool]) (fun c o hb q => hk' c o (fun q' => hb (by simp [q'])) q) hf⟩
    refine wpAny_bind (wpAny_attempt ?_)
    cases i with
    | zero =>
      obtain ⟨cur, e⟩ := hs
      have hkn : ¬ k ≤ us.length := by
        intro z
        unfold seqC at hg'
        rw [if_pos z] at hg'; cases hg'
      rw [if_pos (by omega)] at e
      exact cmb_end (I.ok.hd hc) hne e hp (.inl rfl) fin
    | succ i =>
      obtain ⟨idx, cur, e0, e⟩ := hs
      unfold seqC at hg'
      rw [e0] at hg'
      exact cmb_end (I.ok.hd hc) hne e hp (.inr ⟨rfl, hg'⟩) fin
  self := fun A i s Q E st h => by
    obtain ⟨hp, hs⟩ := st
    cases i with
    | zero => obtain ⟨cur, e⟩ := hs; exact iter_cmb e h
    | succ i => obtain ⟨idx, cur, _, e⟩ := hs; exact iter_cmb e h
end CpComb

set_option maxHeartbeats 2000000
namespace L2
open PySem PySem.Spec PyProof.Rows
theorem cr_range1 {X : Cx} : CallR X (.type "range") (fun vs H Q => ∃ i, vs = [V.int i] ∧ ∀ p, H p = none → Q (.ref p) (upd H p (.rng 0 i))) := by
  intro pins s σ H vs us Q I r h
  obtain ⟨i, rfl, q⟩ := h
  obtain ⟨u, rfl, ru⟩ := r.one
  obtain ⟨t, rfl⟩ := ru
  exact call_range_1 ⟨.ref s.heap.objs.size, upd H s.heap.objs.size (.rng 0 i), I.laid (t' := s.toks + 2) (fun b o e => Heap.get?_push_of_some _ e) (Nat.le_refl _) ⟨_, _, _, Heap.get?_push_size _ rfl⟩, rfl, q _ (I.hok.fresh (Nat.le_refl _))⟩
end L2
namespace CpComb
open PySem PySem.Spec PyProof.Rows L2
/-- where the items come from -/
def Src (K : PySem.W.Frag) (H : Hp) (v : V) (xs : List V) : Prop :=
  (∃ r lo hi, v = .ref r ∧ H r = some (.rng lo hi) ∧ RgOk lo hi ∧ xs = rgV lo hi) ∨ ∃ a, v = .ref a ∧ (SqL K H a xs ∨ SqT K H a xs)
theorem pi_cmb {X : Cx} {tg a b : Expr} {t : TA} {x : Str} {p pos : Pos} (hc : X.calm = true) (hg : Gl X x) (hm : X.mg x = some (.type "itertools.combinations")) (ha : PA X [a, b] t)
    (hdb : (x == ("__debug__" : Str)) = false := by decide) (hs : starEach [a, b] X.env = (false, eval a X.env) :: starEach [b] X.env := by rfl) (hpl : (backTo pos (starEach [b] X.env)).any (·.1) = false := by rfl) :
    PI X tg (.Call (.Name x p) [a, b] [] pos) (fun σ H R => t σ H fun vs H1 => ∃ pv xs k, vs = [pv, .int ((k : Nat) : Int)] ∧ k ≤ 1000 ∧ xs.length ≤ 100000 ∧ Src X.K H1 pv xs ∧ R (ItC xs k) H1) := by
  refine ⟨fun pins s σ H R I h => ?_⟩
  refine wpAny_Call_Name_kw (ld_glob I hg hm ?_ hdb)
  refine PyProof.Rows.callWith_type1 (thn (ha.run pos pins s σ H _ I h) fun us s1 ⟨vs, H1, I1, r1, q1⟩ => ?_) hs hpl
  obtain ⟨pv, xs, k, rfl, hk, hxl, src, q⟩ := q1
  cases r1 with
  | cons rp rr =>
    cases rr with
    | cons rk rr =>
      cases rr
      obtain ⟨tk, rfl⟩ := rk
      have fin : ∀ (v : Value), Coll X.prog X.w X.xe v (fun s' us => Vals xs us) s1 → wpAny (model X.prog X.w) X.A (call (.type "itertools.combinations") [v, .int (k : Int) tk]) (fun v s1 => wpAny (model X.prog X.w) X.A (pyIter v) (PIE X pins σ tg R) X.xe s1) X.xe s1 := by
        intro v hcol
        refine call_cmb (I1.ok.hd hc) hk hcol (fun s' us r => by rw [← r.length]; exact hxl) fun h1 h' pool it tk' us k1 rv k2 hp hi hne hpool hit => ?_
        refine iter_cmb hit ?_
        have I2 : Inv X pins σ H1 { s1 with heap := h1, toks := tk' } := I1.kept (t' := tk') k1
        have I3 : Inv X pins σ H1 { s1 with heap := h', toks := tk' } := I2.kept (t' := tk') k2
        refine ⟨it, [it, pool], _, ItC xs k, H1, rfl, I3, turn_cmb hne hk rv, ⟨hpool, _, hit⟩, fun c hc' => ?_, q⟩
        have e' : c = it ∨ c = pool := by simpa using hc'
        rcases e' with z | z
        · rw [z]; exact I2.fpOk hi (I2.hok.fresh hi)
        · rw [z]; exact I2.fpOk hp (I2.hok.fresh hp)
      rcases src with ⟨r, lo, hi, rfl, hr, ok, rfl⟩ | ⟨a, rfl, hq⟩
      · cases rp
        obtain ⟨t1, t2, t3, hr'⟩ := I1.hok _ _ hr
        obtain ⟨b1, b2, b3, b4, b5⟩ := ok
        refine fin _ fun A Q hh hQ => ?_
        exact collect_range hh hr' (small_one b1 b2 b3 b4) (rangeSize_nat lo hi) b5 fun h' tk acc hk' hi' => hQ h' tk acc.toList hk' (vals_rg hi')
      · cases rp
        rcases hq with hq | hq
        · obtain ⟨its, rv, pl, hz⟩ := I1.list hq
          obtain ⟨o, ho, hcl, n, hd⟩ := pl.isList
          refine fin _ fun A Q hh hQ => ?_
          refine wpAny_collect_seq a (.inl rfl) ho hcl hd (fun h' hk' => ?_) (by rw [List.size_toArray, ← rv.length]; exact hz)
          have := hQ h' s1.toks its hk' rv
          rw [List.toList_toArray]; exact this
        · obtain ⟨its, rv, pl, hz⟩ := I1.tuple hq
          obtain ⟨o, ho, hcl, n, hd⟩ := pl
          refine fin _ fun A Q hh hQ => ?_
          refine wpAny_collect_seq a (.inr rfl) ho hcl hd (fun h' hk' => ?_) (by rw [List.size_toArray, ← rv.length]; exact hz)
          have := hQ h' s1.toks its hk' rv
          rw [List.toList_toArray]; exact this
end CpComb

set_option maxHeartbeats 2000000
namespace EnumT
open PySem PySem.Spec PyProof.Rows L2
theorem meets_enum_T (l : Addr) (items : Array Value) :
    Meets (Builtin.«enumerate.__new__» ⟨[.type "enumerate", .ref l], []⟩) (fun _ R s => s.heap.IsTuple l items ∧
      R (.ok (.ret (.ref (s.heap.push { cls := .type "tuple_iterator", data := .fields #[.ref l, .int 0 0] }).objs.size)))
        { s with heap := (s.heap.push { cls := .type "tuple_iterator", data := .fields #[.ref l, .int 0 0] }).push { cls := .type "enumerate", data := .fields #[.none, .bool false, .ref s.heap.objs.size, rawInt 0, .none, .none] } }) :=
  .of_wp fun prog w A R s h => by
    obtain ⟨hp, g, d, tk, os⟩ := s; obtain ⟨hl, h⟩ := h
    have hsub := sub_enumerate
    have hL : Heap.IsTuple (Shared.heap ⟨hp, g, d, tk, os⟩) l items := hl
    wp_walk
    refine wpAny_stack_any fun st => wpAny_pure ?_
    split
    · rename_i c _ _ _ _ _
      cases (c == Value.type "enumerate")
      · wp_walk using wpAny_pyIter_tuple hL
        exact ⟨_, rfl, h⟩
      · wp_walk using wpAny_pyIter_tuple hL
        exact ⟨_, rfl, h⟩
    · wp_walk using wpAny_pyIter_tuple hL
      exact ⟨_, rfl, h⟩
section
variable {prog : Program} {w : World} {A : Around} {E : Value → Shared → Prop} {s : Shared}
theorem call_enumT {l : Addr} {items : Array Value} {Q : Value → Shared → Prop} (hL : s.heap.IsTuple l items)
    (h : ∀ h', IsEnum h' (s.heap.objs.size + 1) s.heap.objs.size 0 .none → h'.IsTupleIter s.heap.objs.size l 0 → h'.objs.size = s.heap.objs.size + 2 →
      (∀ b o, s.heap.get? b = some o → h'.get? b = some o) → Q (.ref (s.heap.objs.size + 1)) { s with heap := h' }) :
    wpAny (model prog w) A (call (.type "enumerate") [.ref l]) Q E s := by
  refine callType_new F.called_enumerate (by decide) (F.typeCall_enumerate_1 _) (F.newCall_enumerate_1 _) (fun obj => F.args_object_init_2 obj _) F.entry_enumerate_new
    (meets_enum_T l items) ⟨hL, ?_⟩
  have hz : (s.heap.push { cls := .type "tuple_iterator", data := .fields #[.ref l, .int 0 0] }).objs.size = s.heap.objs.size + 1 := Heap.size_push ..
  show _ ∧ _
  rw [hz]
  have he : IsEnum ((s.heap.push { cls := .type "tuple_iterator", data := .fields #[.ref l, .int 0 0] }).push
      { cls := .type "enumerate", data := .fields #[.none, .bool false, .ref s.heap.objs.size, rawInt 0, .none, .none] }) (s.heap.objs.size + 1) s.heap.objs.size 0 .none := by
    have := Heap.get?_push_size (s.heap.push { cls := .type "tuple_iterator", data := .fields #[.ref l, .int 0 0] })
      (o := { cls := .type "enumerate", data := .fields #[.none, .bool false, .ref s.heap.objs.size, rawInt 0, .none, .none] }) rfl
    rw [hz] at this; exact this
  refine ⟨⟨_, he, rfl⟩, h _ he ⟨_, Heap.get?_push_of_some _ (Heap.get?_push_size _ rfl), rfl, rfl⟩ (by rw [Heap.size_push, hz]) fun b o x => Heap.get?_push_of_some _ (Heap.get?_push_of_some _ x)⟩
end
def IteT (K : PySem.W.Frag) (a : Addr) : It :=
  ⟨fun i H => ∃ (xs : List V) (x : V), SqT K H a xs ∧ xs[i]? = some x, fun i H v H' => ∃ T x, v = .ref T ∧ H T = none ∧ H' = upd H T (.tup [.int (i : Nat), x]) ∧ ∀ xs, SqT K H a xs → xs[i]? = some x, fun i H => ∃ xs : List V, SqT K H a xs ∧ xs.length ≤ i⟩
theorem turn_enumT {P : Program} {w : World} {K : PySem.W.Frag} {elts : List Expr} {kk : Nat} {tpos : Pos} (a e it : Addr) (hea : a ≠ e) (hia : a ≠ it) :
    Turn P w K (.Tuple elts kk tpos) (IteT K a) [e, it] e (fun i h => (∃ old, IsEnum h e it ((i : Nat) : Int) old) ∧ h.IsTupleIter it a i ∧ e ≠ it) where
  mem := by simp
  obj := fun i h st b hb => by
    obtain ⟨⟨old, he⟩, ⟨o, ho, hc, hd⟩, _⟩ := st
    have e' : b = e ∨ b = it := by simpa using hb
    rcases e' with z | z
    · rw [z]; exact ⟨_, he, fun v q => nomatch q⟩
    · rw [z]; exact ⟨o, ho, fun v q => by rw [hd] at q; cases q⟩
  keep := fun i h h' st k => let ⟨⟨old, he⟩, hi, hne⟩ := st; ⟨⟨old, k e (by simp) _ he⟩, hi.at fun o q => k it (by simp) o q, hne⟩
  item := by
    intro X hP hw hK hc i pins s σ H E I hf st hg
    subst hP hw hK
    obtain ⟨⟨old, he⟩, hit, hne⟩ := st
    obtain ⟨xs, x, hq, hx⟩ := hg
    obtain ⟨its, rv, p, hz⟩ := I.tuple hq
    obtain ⟨u, hu, ru⟩ := rv.get hx
    have hel : e < s.heap.objs.size := Heap.lt_size he
    have hil : it < s.heap.objs.size := by obtain ⟨_, q, _⟩ := hit; exact Heap.lt_size q
    have hlt : i < its.toArray.size := by
      have := (List.getElem?_eq_some_iff.mp hu).1
      simpa using this
    refine wpAny_pyNext_enum_itemD (Draws.tuple (A := X.A.in1) (I.ok.hd hc) it a hia its.toArray) he ⟨hit, p⟩ hlt hne (by simp [hne, hea.symm]) fun y h' tk hy ho hst hT hsz hk => ?_
    have hy : u = y := by
      have : its.toArray[i]? = some u := by simpa using hu
      rw [this] at hy; exact Option.some.inj hy
    subst hy
    refine ⟨_, rfl, wpAny_letOwnedTupleGo_enum (s := { s with heap := h', toks := tk + 1 }) ho fun h'' he' sb => ?_⟩
    have hT2 : h''.get? s.heap.objs.size = some { cls := .type "tuple", data := .seq #[.int i tk, u] } := (sb.2 _ (Nat.ne_of_gt hel)).trans hT
    have new : ObjOk X.prog X.w (upd H s.heap.objs.size (.tup [.int (i : Nat), x])) h'' s.heap.objs.size (.tup [.int (i : Nat), x]) :=
      ⟨by show 2 ≤ sizeLine; decide, [.int i tk, u], .cons ⟨_, rfl⟩ (.cons ru .nil), ⟨_, hT2, rfl, _, rfl⟩⟩
    have I1 : Inv X pins σ (upd H s.heap.objs.size (.tup [.int (i : Nat), x])) { s with heap := h'', toks := tk + 1 } :=
      I.turnedNew (ch := [e, it]) (fun b ob hb q => (sb.2 b (fun z => hb (by simp [z]))).trans (hk b ob (fun z => hb (by simp [z])) (fun z => hb (by simp [z])) q)) hf (Nat.le_refl _) new
    refine ⟨.ref s.heap.objs.size, _, I1, rfl, ⟨_, x, rfl, I.hok.fresh (Nat.le_refl _), rfl, fun ys hy => by rw [I.tuple_inj hy hq]; exact hx⟩, ⟨⟨u, ?_⟩, hst.1.at fun o q => (sb.2 it (Ne.symm hne)).trans q, hne⟩, fun b hb => ?_⟩
    · have e1 : ((i + 1 : Nat) : Int) = (i : Int) + 1 := by omega
      rw [e1]; exact he'
    · have hb' : b < s.heap.objs.size := by
        have e' : b = e ∨ b = it := by simpa using hb
        rcases e' with z | z
        · rw [z]; exact hel
        · rw [z]; exact hil
      rw [upd_ne (Nat.ne_of_lt hb')]
      exact (hf b hb).1
  done := by
    intro X hP hw hK hc i pins s σ H E I hf st hg
    subst hP hw hK
    obtain ⟨⟨old, he⟩, hit, hne⟩ := st
    obtain ⟨xs, hq, hx⟩ := hg
    obtain ⟨its, rv, p, hz⟩ := I.tuple hq
    have hl := rv.length
    have hi : its.toArray[i]? = none := Array.getElem?_eq_none (by rw [List.size_toArray, ← hl]; exact hx)
    have hT : s.TypeIs (.ref e) "enumerate" := ⟨_, he, rfl⟩
    unfold pyNext
    refine wpAny_bind (wpAny_attempt (wpAny_callSpecial?_slot (name := Str.ofString "__next__") hT F.slot_enumerate_next
      (wpAny_call_entry F.slot_enumerate_next hT F.entry_enumerate_next ?_ (F.args_enumerate_next_1 _))))
    show wpAny _ _ (field (.ref e) 2 >>= _) _ _ _
    refine wpAny_bind (wpAny_field he rfl (x := .ref it) rfl ?_)
    refine wpAny_bind (wpAny_nextOf_tuple_end (A := X.A.in1) (I.ok.hd hc) hit (show s.heap.IsTuple a its.toArray from p) hi fun h' x eb hx' => ?_)
    obtain ⟨o, ho, hcl⟩ := hx'
    refine wpAny_bind (wpAny_isInstance (T := "StopIteration") (b := true) ⟨o, ho, hcl⟩ isSubtype_stop ?_)
    exact wpAny_pure ⟨rfl, I.turnedL (t' := s.toks) (ch := [e, it]) (fun b o hb q => eb b o (fun z => hb (by simp [z])) q) hf⟩
  self := fun A i s Q E st h => let ⟨⟨_, he⟩, _⟩ := st; wpAny_pyIter_enum he h
def iEnumA (K : PySem.W.Frag) (ta : TA) : TI := fun σ H R => ta σ H fun vs H1 => ∃ a xs, vs = [.ref a] ∧ ((SqL K H1 a xs ∧ R (Ite K a) H1) ∨ (SqT K H1 a xs ∧ R (IteT K a) H1))
theorem pi_enumA {X : Cx} {e : Expr} {ta : TA} {p pos tpos : Pos} {elts : List Expr} {kk : Nat} (hg : Gl X "enumerate") (hm : X.mg "enumerate" = none) (ha : PA X [e] ta) (hs : starEach [e] X.env = [(false, eval e X.env)] := by rfl) :
    PI X (.Tuple elts kk tpos) (.Call (.Name "enumerate" p) [e] [] pos) (iEnumA X.K ta) := by
  refine ⟨fun pins s σ H R I h => ?_⟩
  refine Call_ (ld_blt I hg hm boot_enumerate (PyProof.Rows.callWith_type1 (thn (ha.run pos pins s σ H _ I h) fun us s1 ⟨vs, H1, I1, r1, q1⟩ => ?_) hs rfl))
  obtain ⟨a, xs, ex, q⟩ := q1
  subst ex
  cases r1 with
  | cons r rr =>
    cases rr
    cases r
    have fresh : ∀ b ∈ [s1.heap.objs.size + 1, s1.heap.objs.size], FpOk X pins H1 b := fun b hb => by
      have e' : b = s1.heap.objs.size + 1 ∨ b = s1.heap.objs.size := by simpa using hb
      have hle : s1.heap.objs.size ≤ b := by
        rcases e' with z | z
        · rw [z]; exact Nat.le_add_right _ _
        · rw [z]; exact Nat.le_refl _
      exact I1.fpOk hle (I1.hok.fresh hle)
    rcases q with ⟨hq, q⟩ | ⟨hq, q⟩
    · obtain ⟨its, rv, p', hz⟩ := I1.list hq
      refine call_enumerate_list p'.isList fun h' he hit hsz hk => wpAny_pyIter_enum he ?_
      have I2 : Inv X pins σ H1 { s1 with heap := h' } := I1.kept (t' := s1.toks) hk
      exact ⟨s1.heap.objs.size + 1, [s1.heap.objs.size + 1, s1.heap.objs.size], _, _, H1, rfl, I2, turn_enum a (s1.heap.objs.size + 1) s1.heap.objs.size, ⟨⟨.none, he⟩, hit, Nat.succ_ne_self _⟩, fresh, q⟩
    · obtain ⟨its, rv, p', hz⟩ := I1.tuple hq
      obtain ⟨o, ho, _⟩ := id p'
      have hlt : a < s1.heap.objs.size := Heap.lt_size ho
      refine call_enumT (show s1.heap.IsTuple a its.toArray from p') fun h' he hit hsz hk => wpAny_pyIter_enum he ?_
      have I2 : Inv X pins σ H1 { s1 with heap := h' } := I1.kept (t' := s1.toks) hk
      exact ⟨s1.heap.objs.size + 1, [s1.heap.objs.size + 1, s1.heap.objs.size], _, _, H1, rfl, I2, turn_enumT a (s1.heap.objs.size + 1) s1.heap.objs.size (Nat.ne_of_lt (Nat.lt_succ_of_lt hlt)) (Nat.ne_of_lt hlt), ⟨⟨.none, he⟩, hit, Nat.succ_ne_self _⟩, fresh, q⟩
end EnumT

set_option maxHeartbeats 2000000
namespace PySem.W
open PySem PySem.SeqAt PyProof.Rows
section
variable {prog : Program} {w : World} {A : Around} {E : Value → Shared → Prop} {s : Shared}
/-- min of a list of alike data, with its place -/
theorem min_list_ix {l : Addr} {vs : Array Value} {x : PyData} {xs : List PyData} {as : List Addr} {Q : Value → Shared → Prop} (hh : A.handled = none) (hl : s.heap.IsList l vs) (hr : ReadsAll s.heap vs.toList (x :: xs) as) (ha : AlikeAll (x :: xs)) (hu : A.units + 1 + PyData.depthAll (x :: xs) < cLine)
    (h : ∀ v h' tk, vs[argBest (fun i j => dataLt ((x :: xs).getD i .none) ((x :: xs).getD j .none)) xs.length]? = some v → (∀ b o, s.heap.get? b = some o → h'.get? b = some o) → Q v { s with heap := h', toks := tk }) :
    wpAny (model prog w) A (call (.builtin "min") [.ref l]) Q E s := by
  have hn : vs.size = xs.length + 1 := readsAll_len hr
  refine call_min_walkH (iter_listW (A := A.in1) hh hl fun s₂ e W st hfp hw hk => ?_)
  refine ⟨_, _, _, _, _, _, _, s.heap, _, rfl, W, st, hfp, by omega, hw, hk, cmpIn_lt (A := A.in1) hr ha (by show A.units + 1 + _ < _; exact hu), fun v s' hP m => ?_⟩
  obtain ⟨h', tk, rfl, hk'⟩ := moved_old e rfl m
  have e1 : vs.size - 1 = xs.length := by omega
  rw [e1] at hP
  exact h v h' tk hP hk'
end
end PySem.W
namespace TL
open PySem PySem.Spec PyProof.Rows L2
/-! ### min of a list of data -/
def rMinLG (K : PySem.W.Frag) : List V → Hp → VK → Prop := fun xs H Q => ∃ a ys d ds, xs = [.ref a] ∧ SqL K H a ys ∧ DpAll K H ys (d :: ds) ∧ PySem.W.AlikeAll (d :: ds) ∧ PyData.depthAll (d :: ds) ≤ 60 ∧
  ∀ y, ys[PySem.argBest (fun i j => PySem.W.dataLt ((d :: ds).getD i .none) ((d :: ds).getD j .none)) ds.length]? = some y → Q y H
theorem DpAll.reads' {X : Cx} {pins : List (Addr × Obj)} {σ : L2.St} {H : Hp} {s : Shared} (I : Inv X pins σ H s) : ∀ {ds : List PyData} {vs : List V} {us : List Value}, DpAll X.K H vs ds → Vals vs us → ∃ as, ReadsAll s.heap us ds as
  | [], _, _, .nil, .nil => ⟨_, .nil⟩
  | _ :: _, _, _, .cons h hs, .cons r rs => by
    obtain ⟨as, ra⟩ := Dp.reads I _ _ _ h r
    obtain ⟨bs, rb⟩ := DpAll.reads' I hs rs
    exact ⟨_, .cons ra rb⟩
theorem call_minLG {X : Cx} (hc : X.calm = true) (hu : X.A.units + 64 < cLine) : CallR X (.builtin "min") (rMinLG X.K) := by
  intro pins s σ H xs us Q I r h
  obtain ⟨a, ys, d, ds, rfl, hq, hd, hal, hdep, q⟩ := h
  obtain ⟨u, rfl, ru⟩ := r.one
  cases ru
  obtain ⟨its, rv, p, hz⟩ := I.list hq
  obtain ⟨as, ra⟩ := DpAll.reads' I hd rv
  refine PySem.W.min_list_ix (I.ok.hd hc) p.isList (vs := its.toArray) (by simpa using ra) hal (by omega) fun v h' tk hv k => ?_
  have hv' : its[PySem.argBest (fun i j => PySem.W.dataLt ((d :: ds).getD i .none) ((d :: ds).getD j .none)) ds.length]? = some v := by simpa using hv
  have hl := rv.length
  have hi := (List.getElem?_eq_some_iff.mp hv').1
  have ey : ys[PySem.argBest (fun i j => PySem.W.dataLt ((d :: ds).getD i .none) ((d :: ds).getD j .none)) ds.length]? = some _ := List.getElem?_eq_getElem (by rw [hl]; exact hi)
  obtain ⟨v', ev', rv'⟩ := rv.get ey
  rw [hv'] at ev'; cases ev'
  exact ⟨_, H, I.kept k, rv', q _ ey⟩
/-- the first of the least -/
def minLG : D → Option D
  | .lst (d :: ds) => if (d :: ds).all (fun x => pyOk 40 x && loose x && !isNonD x) && (d :: ds).all (fun x => (d :: ds).all fun y => alikeD x y) then some (ds.foldl (fun a y => if ltD y a then y else a) d) else none
  | _ => none
theorem depthAll_le : ∀ (l : List D) (n : Nat), (∀ x ∈ l, (py x).depth ≤ n) → PyData.depthAll (l.map py) ≤ n
  | [], n, _ => by simp [PyData.depthAll]
  | x :: l, n, h => by
    have h1 := h x (by simp)
    have h2 := depthAll_le l n fun y hy => h y (by simp [hy])
    simp only [List.map_cons, PyData.depthAll]
    omega
theorem dpAll_of {K : PySem.W.Frag} {mg : Str → Option Value} {G H : Hp} (le : Le G H) : ∀ {ds : List D} {vs : List V}, (∀ x ∈ ds, pyOk 40 x = true) → Rfs K mg G ds vs → DpAll K H vs (ds.map py)
  | _, _, _, .nil => .nil
  | _, _, h, .cons r rs => .cons (dp_of le 40 (h _ (by simp)) r) (dpAll_of le (fun x hx => h x (by simp [hx])) rs)
theorem ca_minLG {X : Cx} : CaD X (rMinLG X.K) (f1 minLG) := ca1 fun S H d1 d v1 Q al r1 e q => by
  cases d1 with
  | lst l =>
    cases l with
    | nil => cases e
    | cons x xs =>
      obtain ⟨hc, e⟩ := ifSome' e
      rw [Bool.and_eq_true] at hc
      simp only [List.all_eq_true, Bool.and_eq_true, Bool.not_eq_true'] at hc
      obtain ⟨h1, h2⟩ := hc
      obtain ⟨a, vs, rfl, ha, rf⟩ := r1.lst_inv
      have dp := dpAll_of (K := X.K) (mg := X.mg) (hide_le S H) (fun y hy => (h1 y hy).1.1) rf
      rw [List.map_cons] at dp
      refine ⟨a, vs, py x, xs.map py, rfl, .of ha, dp, ⟨fun y hy z hz => ?_, fun y hy => ?_⟩, ?_, fun y hy => ?_⟩
      · rw [← List.map_cons] at hy hz
        obtain ⟨y', hy', rfl⟩ := List.mem_map.mp hy
        obtain ⟨z', hz', rfl⟩ := List.mem_map.mp hz
        exact h2 y' hy' z' hz'
      · rw [← List.map_cons] at hy
        obtain ⟨y', hy', rfl⟩ := List.mem_map.mp hy
        exact py_none (h1 y' hy').1.1 (h1 y' hy').2
      · rw [← List.map_cons]
        have := depthAll_le (x :: xs) 40 fun y hy => (pyOk_ok 40 y (h1 y hy).1.1).2
        omega
      · have eg : ∀ i, (py x :: xs.map py).getD i .none = py ((x :: xs).getD i .non) := fun i => by
          rw [← List.map_cons, List.getD_eq_getElem?_getD, List.getD_eq_getElem?_getD, List.getElem?_map]
          cases (x :: xs)[i]? <;> rfl
        have ef : (fun i j => PySem.W.dataLt ((py x :: xs.map py).getD i .none) ((py x :: xs.map py).getD j .none)) = fun i j => ltD ((x :: xs).getD i .non) ((x :: xs).getD j .non) := by
          funext i j
          rw [eg, eg]; rfl
        rw [ef, List.length_map] at hy
        obtain ⟨b1, b2⟩ := PySem.W.argBest_fold ltD D.non x xs xs.length (Nat.le_refl _)
        rw [List.take_length] at b2
        generalize PySem.argBest (fun i j => ltD ((x :: xs).getD i .non) ((x :: xs).getD j .non)) xs.length = n at *
        obtain ⟨dy, edy, rdy⟩ := rf.get' hy
        have e2 : (x :: xs).getD n .non = dy := by rw [List.getD_eq_getElem?_getD, edy]; rfl
        rw [e2] at b2
        rw [← e, ← b2]  at q
        exact q _ H (Grow.refl H) rdy
  | _ => cases e
/-! ### several names stored at once -/
def setAll : List Nat → List D → Rho → Rho
  | i :: is, d :: ds, ρ => setAll is ds (ρ.set i d)
  | _, _, ρ => ρ
def setAllT : List Nat → List Ty → List Ty → List Ty
  | i :: is, t :: ts, τ => setAllT is ts (τ.set i t)
  | _, _, τ => τ
def setAllS : List Nat → List V → L2.St → L2.St
  | i :: is, v :: vs, σ => setAllS is vs (σ.set i (some v))
  | _, _, σ => σ
theorem setAllT_len : ∀ (is : List Nat) (ts τ : List Ty), (setAllT is ts τ).length = τ.length
  | [], _, _ => by cases ‹List Ty› <;> rfl
  | i :: is, [], _ => rfl
  | i :: is, t :: ts, τ => by rw [setAllT, setAllT_len is]; simp
theorem SR.putAll {K : PySem.W.Frag} {mg : Str → Option Value} {R : List Addr} {H : Hp} : ∀ {is : List Nat} {ts τ : List Ty} {ds : List D} {vs : List V} {ρ : Rho} {σ : L2.St} {fs fv : List Addr}, SR K mg (fv ++ R) τ ρ σ H fs → Rps K mg H (hide (fv ++ R ++ fs) H) ts ds vs fv → (∀ i ∈ is, i < τ.length) → is.length = ds.length →
    ∃ fs', SR K mg R (setAllT is ts τ) (setAll is ds ρ) (setAllS is vs σ) H fs' ∧ ∀ a ∈ fs', a ∈ fv ++ fs
  | [], _, _, _, _, _, _, fs, _, s, .nil, _, _ => ⟨fs, s, fun a h => by simpa using h⟩
  | i :: is, _, _, _, _, _, _, _, _, s, .nil, _, hl => by simp at hl
  | [], _, _, _, _, _, _, _, _, s, .cons _ _, _, hl => by simp at hl
  | i :: is, _, τ, _, _, _, _, _, _, s, .cons (t := t) h r, hb, hl => by
    obtain ⟨fs1, fw, s1, r1, sub1⟩ := s.put2 (hb i (by simp)) (.cons h r)
    obtain ⟨fs2, s2, sub2⟩ := SR.putAll (is := is) s1 r1 (fun j hj => by rw [List.length_set]; exact hb j (by simp [hj])) (by simpa using hl)
    exact ⟨fs2, s2, fun a ha => sub1 a (sub2 a ha)⟩
theorem setAllS_ne {i : Nat} : ∀ {is : List Nat} {vs : List V} {σ : L2.St}, i ∉ is → (setAllS is vs σ)[i]? = σ[i]?
  | [], vs, σ, _ => by cases vs <;> rfl
  | j :: is, [], σ, _ => rfl
  | j :: is, v :: vs, σ, h => by
    rw [setAllS, setAllS_ne (fun z => h (by simp [z])), List.getElem?_set_ne (fun z => h (by simp [z]))]
def tNames (is : List Nat) : TGs := fun vs σ H Q => vs.length = is.length ∧ Q (setAllS is vs σ) H
section
variable {X : Cx} {γ : Gm} {τ : List Ty} {es : List Expr} {pos : Pos}
theorem pgn_nil : PGs X [] (tNames []) := ⟨fun pins s σ H vs us Q I r h => pgs_nil.run pins s σ H vs us Q I r (by
  obtain ⟨h1, h2⟩ := h
  cases vs with
  | nil => exact ⟨rfl, h2⟩
  | cons _ _ => simp at h1)⟩
theorem pgn_cons {x : Str} {px : Pos} {is : List Nat} (i : Nat) (hN : X.N.Nodup) (hi : X.N[i]? = some x) (hx : Loc X.env.scope x) (hr : PGs X es (tNames is)) (hf : X.fn x = true ∨ X.env.scope.names.lookup x = some .local := by first | exact .inl rfl | exact .inr rfl | assumption)
    (hs : (assignEach (.Name x px :: es) X.env).map (·.2) = assign (.Name x px) X.env :: (assignEach es X.env).map (·.2) := by rfl) : PGs X (.Name x px :: es) (tNames (i :: is)) :=
  ⟨fun pins s σ H vs us Q I r h => (pgs_cons (pg_name hN hi hx hf) hr hs).run pins s σ H vs us Q I r (by
    obtain ⟨h1, h2⟩ := h
    cases vs with
    | nil => simp at h1
    | cons v vs => exact ⟨v, vs, rfl, by simpa using h1, h2⟩)⟩
def sUnp (is : List Nat) (f : Lf) : Sf := fun ρ => (f ρ).bind fun p => if p.1.length == is.length && okLen p.1.length then some (.nx (setAll is p.1 p.2)) else none
theorem ds_unp {f : Lf} {ts : List Ty} {tgs : List Expr} {kt k2 : Nat} {pt p2 : Pos} (is : List Nat) (hc : X.calm = true) (ha : DL X es τ f ts) (hg : PGs X tgs (tNames is)) (hb : ∀ i ∈ is, i < τ.length := by decide) (hio : ∀ i ∈ is, i ∉ γ.io := by decide)
    (hn : (assignEach tgs X.env).length = is.length := by rfl) (hst : (assignEach tgs X.env).findIdx? (·.1) = none := by rfl)
    (hs : swapsWithSole [.Tuple tgs kt pt] (.Tuple es k2 p2) pos.line X.env = pure false := by rfl) (hw : swappedStores [.Tuple tgs kt pt] (.Tuple es k2 p2) X.env = pure none := by rfl)
    (h1 : (assignEach [.Tuple tgs kt pt] X.env).map (·.2) = [assign (.Tuple tgs kt pt) X.env] := by rfl) :
    DS X γ (.Assign [.Tuple tgs kt pt] (.Tuple es k2 p2) pos) τ (sUnp is f) (setAllT is ts τ) := ps_imp (ps_asg (pe_tup ha) (pg_tup hc hg hn hst) hs hw h1) fun D σ H ⟨R, ρ, fs, o, s, e, q⟩ => by
  obtain ⟨w, e1, e2⟩ := bindO e
  obtain ⟨e3, e4⟩ := ifSome' e2
  cases e4
  rw [Bool.and_eq_true] at e3
  have hl : w.1.length = is.length := eq_of_beq e3.1
  refine ⟨R, ρ, fs, w.1, w.2, s, e1, fun vs H1 fs1 fv t1 s1 r1 => ?_⟩
  have hvl := r1.len
  refine ⟨by rw [← hvl]; exact okLen_le e3.2, fun a ha => ?_⟩
  have g := Grow.upd (o := HO.tup vs) ha
  have s2 := s1.grow g
  have r2 : Rps X.K X.mg (upd H1 a (.tup vs)) (hide (fv ++ R ++ fs1) (upd H1 a (.tup vs))) ts w.1 vs fv := r1.mono (hide_grow _ g) fun b hb => by
    obtain ⟨o, eo, _⟩ := s1.own b (List.mem_append_left _ (List.mem_append_left _ hb))
    rw [eo]; exact g b o eo
  obtain ⟨fs3, s3, sub3⟩ := SR.putAll s2 r2 hb hl.symm
  refine ⟨a, vs, rfl, .of upd_same, by rw [← hvl, hl], by rw [← hvl, hl], ?_⟩
  refine q _ _ fs3 ((t1.trans (Step.grow g _)).less fun b hb => sub3 b hb) (fun j hj => setAllS_ne fun z => hio j z hj) s3
end
/-! ### list(range(..)) -/
section
variable {X : Cx} {τ : List Ty} {a b : Expr} {p pos p2 pos2 : Pos}
def oRg1 (f : Af) : Of := fun ρ => (f ρ).bind fun p => match p.1 with
  | [.v (.int j)] => if small62 j && okLen j.toNat then some (.lst (intsD 0 j.toNat), p.2) else none
  | _ => none
theorem rgV0 (j : Int) : rgV 0 j = (List.range j.toNat).map fun i => V.int (0 + (i : Nat)) := by
  unfold rgV
  rw [show j - 0 = j by omega]
theorem rfs_ints {K : PySem.W.Frag} {mg : Str → Option Value} {G : Hp} (lo : Int) (n : Nat) : Rfs K mg G (intsD lo n) ((List.range n).map fun i => V.int (lo + (i : Nat))) := by
  have h1 : intsD lo n = ((List.range n).map fun i : Nat => lo + (i : Int)).map D.int := by unfold intsD; rw [List.map_map]; rfl
  have h2 : ((List.range n).map fun i => V.int (lo + (i : Nat))) = ((List.range n).map fun i : Nat => lo + (i : Int)).map V.int := by rw [List.map_map]; rfl
  rw [h1, h2]
  exact Rfs.of_ints _
theorem prg_A {f : Af} (hg : Gl X "range") (hm : X.mg "range" = none) (ha : DA X [a] τ f) (na : starEach [a] X.env = (false, eval a X.env) :: starEach [] X.env := by rfl) :
    PRg X (.Call (.Name "range" p) [a] [] pos) (fun σ H Q => tA X τ f σ H fun vs H1 => ∃ n, vs = [.int n] ∧ Q 0 n H1) := by
  intro pins s σ H Q I h
  refine Call_ (ld_blt I hg hm boot_range (PyProof.Rows.callWith_type1 (thn (ha.run pos pins s σ H _ I h) fun us s2 ⟨vs, H2, I2, r, q⟩ => ?_) na rfl))
  obtain ⟨n, rfl, q⟩ := q
  obtain ⟨u, rfl, ru⟩ := r.one
  obtain ⟨t, rfl⟩ := ru
  exact call_range_1 ⟨_, 0, n, _, _, _, H2, rfl, IsRange.new _ _ _ _ _ _ _, I2.kept fun b u e => Heap.get?_push_of_some _ e, q⟩
theorem do_rg1 {f : Af} (hc : X.calm = true) (hgl : Gl X "list") (hml : X.mg "list" = none) (hg : Gl X "range") (hm : X.mg "range" = none) (ha : DA X [a] τ f) (na : starEach [a] X.env = (false, eval a X.env) :: starEach [] X.env := by rfl)
    (nb : starEach [.Call (.Name "range" p) [a] [] pos] X.env = (false, eval (.Call (.Name "range" p) [a] [] pos) X.env) :: starEach [] X.env := by rfl) :
    DO X (.Call (.Name "list" p2) [.Call (.Name "range" p) [a] [] pos] [] pos2) τ (oRg1 f) (.oL .sh) := pe_imp (pe_listRg hc hgl hml (prg_A hg hm ha na) nb) fun σ H Q ⟨R, ρ, fs, d, ρ', s, e, q⟩ => by
  obtain ⟨w, e1, e2⟩ := bindO e
  obtain ⟨w1, w2⟩ := w
  simp only at e2
  split at e2
  · rename_i j
    obtain ⟨e3, e4⟩ := ifSome' e2
    cases e4
    rw [Bool.and_eq_true] at e3
    refine ⟨R, ρ, fs, _, _, s, e1, fun vs H1 fs1 t1 s1 r1 => ?_⟩
    cases r1 with
    | cons r rs =>
      cases r
      cases rs
      have h62 := small62_of e3.1
      refine ⟨j, rfl, ⟨by omega, by omega, h62.1, h62.2, ?_⟩, fun a0 ha0 => ?_⟩
      · have := okLen_le e3.2
        rw [sizeLine_eq] at this
        rw [show j - 0 = j by omega]
        omega
      · rw [rgV0]
        obtain ⟨n1, n2, n3⟩ := s1.newL ha0 (rfs_ints (mg := X.mg) 0 j.toNat)
        exact q _ _ fs1 [a0] (t1.trans n3) n1 n2
  · cases e2
end
/-! ### enumerate -/
def enuD (l : List D) : List D := l.zipIdx.map fun p => .tup [.int (p.2 : Int), p.1]
def iEnu (f : Af) : Itf := fun ρ => (f ρ).bind fun p => match p.1 with
  | [.v (.lst l)] => some (enuD l, p.2)
  | [.v (.tup l)] => some (enuD l, p.2)
  | _ => none
theorem enu_get {l : List D} {i : Nat} {d : D} (e : (enuD l)[i]? = some d) : ∃ a, l[i]? = some a ∧ d = .tup [.int (i : Int), a] := by
  unfold enuD at e
  rw [List.getElem?_map, List.getElem?_zipIdx] at e
  cases h : l[i]? with
  | none => rw [h] at e; cases e
  | some a => rw [h] at e; simp at e; exact ⟨a, rfl, e.symm⟩
theorem walks_enuT {K : PySem.W.Frag} {mg : Str → Option Value} {G : Hp} {a : Addr} {vs : List V} {l : List D} (h : SqT K G a vs) (r : Rfs K mg G l vs) : Walks K mg (EnumT.IteT K a) (enuD l) G := by
  intro i S H al le
  have h1 : SqT K H a vs := (hide_le S H).seqT (le.seqT h)
  refine ⟨fun d e => ?_, fun e => ?_⟩
  · obtain ⟨x, e1, rfl⟩ := enu_get e
    obtain ⟨v, ev, rv⟩ := r.get e1
    refine ⟨⟨vs, v, h1, ev⟩, fun z H' ⟨T, v', ez, nT, eH, f1⟩ => ?_⟩
    subst ez; subst eH
    have a1 := f1 vs h1
    rw [ev] at a1; cases a1
    exact ⟨Grow.upd nT, new_tup al nT (.cons (.int _) (.one (rv.mono le)))⟩
  · refine ⟨vs, h1, ?_⟩
    have := r.length
    unfold enuD at e
    simp at e
    omega
theorem walks_enuL {K : PySem.W.Frag} {mg : Str → Option Value} {G : Hp} {a : Addr} {vs : List V} {l : List D} (h : G a = some (.lst vs)) (r : Rfs K mg G l vs) : Walks K mg (Ite K a) (enuD l) G := by
  intro i S H al le
  have h1 : SqL K H a vs := .of (hide_le _ _ _ _ (le _ _ h))
  refine ⟨fun d e => ?_, fun e => ?_⟩
  · obtain ⟨x, e1, rfl⟩ := enu_get e
    obtain ⟨v, ev, rv⟩ := r.get e1
    refine ⟨⟨vs, v, h1, ev⟩, fun z H' ⟨T, v', ez, nT, eH, f1⟩ => ?_⟩
    subst ez; subst eH
    have a1 := f1 vs h1
    rw [ev] at a1; cases a1
    exact ⟨Grow.upd nT, new_tup al nT (.cons (.int _) (.one (rv.mono le)))⟩
  · refine ⟨vs, h1, ?_⟩
    have := r.length
    unfold enuD at e
    simp at e
    omega
section
variable {X : Cx} {τ : List Ty} {e : Expr} {p pos tpos : Pos} {elts : List Expr} {kk : Nat}
theorem di_enum {f : Af} (hg : Gl X "enumerate") (hm : X.mg "enumerate" = none) (ha : DA X [e] τ f) (hs : starEach [e] X.env = [(false, eval e X.env)] := by rfl) :
    DI X (.Tuple elts kk tpos) (.Call (.Name "enumerate" p) [e] [] pos) τ (iEnu f) := pi_imp (EnumT.pi_enumA hg hm ha hs) fun σ H Q ⟨R, ρ, fs, ds, ρ', s, eq, q⟩ => by
  obtain ⟨w, e1, e2⟩ := bindO eq
  obtain ⟨w1, w2⟩ := w
  simp only at e2
  refine ⟨R, ρ, fs, _, _, s, e1, fun vs H' fs' t s' r => ?_⟩
  split at e2
  · cases e2
    cases r with
    | cons r1 rs =>
      cases rs
      cases r1 with
      | lst h1 q1 => exact ⟨_, _, rfl, .inl ⟨.of (hide_le _ _ _ _ h1), q _ H' fs' t s' (walks_enuL h1 q1)⟩⟩
  · cases e2
    cases r with
    | cons r1 rs =>
      cases rs
      cases r1 with
      | tup h1 q1 => exact ⟨_, _, rfl, .inr ⟨(hide_le _ _).seqT h1.t, q _ H' fs' t s' (walks_enuT h1.t q1)⟩⟩
  · cases e2
end
end TL

set_option maxHeartbeats 2000000
namespace TL
open PySem PySem.Spec PyProof.Rows L2 CpComb
/-! ### combinations -/
def rowsF (n : Nat) : Nat → List Nat → Option (List (List Nat))
  | 0, _ => none
  | f + 1, idx => match nextC n idx with
    | none => some [idx]
    | some idx' => (rowsF n f idx').map (idx :: ·)
def rowsC (n k : Nat) : Option (List (List Nat)) := if k ≤ n then rowsF n 5000 (List.range k) else some []
theorem rowsF_seq {n k : Nat} : ∀ {f i : Nat} {idx : List Nat} {rows : List (List Nat)}, rowsF n f idx = some rows → seqC n k i = some idx → (∀ j r, rows[j]? = some r → seqC n k (i + j) = some r) ∧ seqC n k (i + rows.length) = none
  | 0, _, _, _, h, _ => by cases h
  | f + 1, i, idx, rows, h, hs => by
    unfold rowsF at h
    have hn : seqC n k (i + 1) = nextC n idx := by unfold seqC; rw [hs]; rfl
    split at h
    · rename_i e
      cases h
      refine ⟨fun j r hr => ?_, by rw [List.length_singleton, hn, e]⟩
      cases j with
      | zero => simp at hr; subst hr; exact hs
      | succ j => simp at hr
    · rename_i idx' e
      obtain ⟨rs, h1, h2⟩ := mapO h
      subst h2
      rw [e] at hn
      obtain ⟨a, b⟩ := rowsF_seq h1 hn
      refine ⟨fun j r hr => ?_, ?_⟩
      · cases j with
        | zero => simp at hr; subst hr; exact hs
        | succ j =>
          have := a j r (by simpa using hr)
          rwa [show i + 1 + j = i + (j + 1) by omega] at this
      · rwa [show i + 1 + rs.length = i + (idx :: rs).length by simp; omega] at b
theorem rowsC_seq {n k : Nat} {rows : List (List Nat)} (h : rowsC n k = some rows) : (∀ j r, rows[j]? = some r → seqC n k j = some r) ∧ ∀ j, rows.length ≤ j → seqC n k j = none := by
  unfold rowsC at h
  split at h
  · rename_i hk
    have h0 : seqC n k 0 = some (List.range k) := by unfold seqC; rw [if_pos hk]
    obtain ⟨a, b⟩ := rowsF_seq h h0
    refine ⟨fun j r hr => by simpa using a j r hr, fun j hj => seqC_none (by simpa using b) j hj⟩
  · rename_i hk
    cases h
    have h0 : seqC n k 0 = none := by unfold seqC; rw [if_neg hk]
    exact ⟨fun j r hr => by simp at hr, fun j _ => seqC_none h0 j (by omega)⟩
def cmbRow (ds : List D) (idx : List Nat) : D := .tup (idx.map fun j => ds.getD j .non)
def cmbD (ds : List D) (k : Int) : Option (List D) := if 0 ≤ k ∧ k ≤ 1000 ∧ okS ds.length = true then (rowsC ds.length k.toNat).map fun rows => rows.map (cmbRow ds) else none
theorem rf_getD {K : PySem.W.Frag} {mg : Str → Option Value} {G : Hp} {ds : List D} {xs : List V} (r : Rfs K mg G ds xs) (j : Nat) : Rf K mg G (ds.getD j .non) (xs.getD j .non) := by
  have hl := r.length
  rw [List.getD_eq_getElem?_getD, List.getD_eq_getElem?_getD]
  cases e : ds[j]? with
  | none =>
    have : xs[j]? = none := List.getElem?_eq_none (by have := List.getElem?_eq_none_iff.mp e; omega)
    rw [this]; exact .non
  | some d =>
    obtain ⟨v, ev, rv⟩ := r.get e
    rw [ev]; exact rv
theorem rfs_row {K : PySem.W.Frag} {mg : Str → Option Value} {G : Hp} {ds : List D} {xs : List V} (r : Rfs K mg G ds xs) : ∀ idx : List Nat, Rfs K mg G (idx.map fun j => ds.getD j .non) (idx.map fun j => xs.getD j .non)
  | [] => .nil
  | j :: idx => .cons (rf_getD r j) (rfs_row r idx)
theorem walks_cmb {K : PySem.W.Frag} {mg : Str → Option Value} {G : Hp} {ds out : List D} {xs : List V} {k : Int} (r : Rfs K mg G ds xs) (e : cmbD ds k = some out) : Walks K mg (ItC xs k.toNat) out G := by
  intro i S H al le
  unfold cmbD at e
  split at e
  · obtain ⟨rows, e1, e2⟩ := mapO e
    subst e2
    rw [r.length] at e1
    obtain ⟨a, b⟩ := rowsC_seq e1
    refine ⟨fun d ed => ?_, fun ed => b i (by simpa using ed)⟩
    rw [List.getElem?_map] at ed
    cases er : rows[i]? with
    | none => rw [er] at ed; cases ed
    | some row =>
      rw [er] at ed
      cases ed
      have hs := a i row er
      refine ⟨by show (seqC xs.length k.toNat i).isSome = true; rw [hs]; rfl, fun x H' ⟨T, idx, ei, ex, nT, eH⟩ => ?_⟩
      rw [hs] at ei
      cases ei
      subst ex
      subst eH
      exact ⟨Grow.upd nT, new_tup al nT ((rfs_row r row).mono le)⟩
  · cases e
section
variable {X : Cx} {τ : List Ty} {tg a b : Expr} {x : Str} {p pos p2 pos2 : Pos}
def iCmbR (f g : Ef) : Itf := fun ρ => (f ρ).bind fun p => (g p.2).bind fun q => match p.1, q.1 with
  | .v (.int n), .v (.int k) => if small62 n && okLen n.toNat then (cmbD (intsD 0 n.toNat) k).map fun out => (out, q.2) else none
  | _, _ => none
theorem di_cmbR {f g : Ef} (hc : X.calm = true) (hg : Gl X x) (hm : X.mg x = some (.type "itertools.combinations")) (hgr : Gl X "range") (hmr : X.mg "range" = none) (ha : DE X a τ f) (hb : DE X b τ g) (hdb : (x == ("__debug__" : Str)) = false := by decide)
    (na : starEach [a] X.env = (false, eval a X.env) :: starEach [] X.env := by rfl) (nb : starEach [b] X.env = (false, eval b X.env) :: starEach [] X.env := by rfl)
    (nr : starEach [.Call (.Name "range" p2) [a] [] pos2, b] X.env = (false, eval (.Call (.Name "range" p2) [a] [] pos2) X.env) :: starEach [b] X.env := by rfl)
    (hpl : (backTo pos (starEach [b] X.env)).any (·.1) = false := by rfl) :
    DI X tg (.Call (.Name x p) [.Call (.Name "range" p2) [a] [] pos2, b] [] pos) τ (iCmbR f g) :=
  pi_imp (pi_cmb hc hg hm (pa_cons (pe_callTy cr_range1 hgr hmr (by decide +kernel) (pa_cons ha pa_nil na) (by decide) (by decide) na) (pa_cons hb pa_nil nb) nr) hdb nr hpl) fun σ H Q ⟨R, ρ, fs, ds, ρ', s, eq, q⟩ => by
    obtain ⟨w, e1, e2⟩ := bindO eq
    obtain ⟨z, e3, e4⟩ := bindO e2
    obtain ⟨w1, w2⟩ := w
    obtain ⟨z1, z2⟩ := z
    simp only at e4 e3
    split at e4
    · rename_i n k
      by_cases hc1 : (small62 n && okLen n.toNat) = true
      · rw [if_pos hc1] at e4
        rw [Bool.and_eq_true] at hc1
        obtain ⟨out, e5, e6⟩ := mapO e4
        cases e6
        refine ⟨R, ρ, fs, _, _, s, e1, fun v1 H1 fs1 t1 s1 r1 => ?_⟩
        cases r1
        refine ⟨n, rfl, fun rp hrp => ?_⟩
        have g := Grow.upd (o := HO.rng 0 n) hrp
        have s2 := s1.grow g
        refine ⟨R, w2, fs1, _, _, s2, e3, fun v2 H2 fs2 t2 s3 r2 => ?_⟩
        cases r2
        have hr2 : H2 rp = some (.rng 0 n) := t2.ext rp _ (fun z => s1.fresh hrp (List.mem_append_right _ z)) upd_same
        have h62 := small62_of hc1.1
        have hk : 0 ≤ k ∧ k ≤ 1000 := by
          unfold cmbD at e5
          split at e5
          · rename_i hh; exact ⟨hh.1, hh.2.1⟩
          · cases e5
        have hz : okS (intsD 0 n.toNat).length = true := by
          unfold cmbD at e5
          split at e5
          · rename_i hh; exact hh.2.2
          · cases e5
        have hz' := okS_le hz
        rw [intsD_len] at hz'
        refine ⟨.ref rp, rgV 0 n, k.toNat, ?_, by omega, by rw [rgV_length]; omega, .inl ⟨rp, 0, n, rfl, hr2, ⟨by omega, by omega, h62.1, h62.2, by omega⟩, rfl⟩, ?_⟩
        · rw [show ((k.toNat : Nat) : Int) = k by omega]
        · refine q _ H2 fs2 (t1.trans ((Step.grow g _).trans t2)) s3 (walks_cmb ?_ e5)
          rw [rgV0]
          exact rfs_ints 0 n.toNat
      · rw [if_neg hc1] at e4; cases e4
    · cases e4
def iCmb (f : Af) : Itf := fun ρ => (f ρ).bind fun p => match p.1 with
  | [.v (.lst l), .v (.int k)] => (cmbD l k).map fun out => (out, p.2)
  | [.v (.tup l), .v (.int k)] => (cmbD l k).map fun out => (out, p.2)
  | _ => none
theorem di_cmb {f : Af} (hc : X.calm = true) (hg : Gl X x) (hm : X.mg x = some (.type "itertools.combinations")) (ha : DA X [a, b] τ f) (hdb : (x == ("__debug__" : Str)) = false := by decide)
    (nr : starEach [a, b] X.env = (false, eval a X.env) :: starEach [b] X.env := by rfl) (hpl : (backTo pos (starEach [b] X.env)).any (·.1) = false := by rfl) :
    DI X tg (.Call (.Name x p) [a, b] [] pos) τ (iCmb f) := pi_imp (pi_cmb hc hg hm ha hdb nr hpl) fun σ H Q ⟨R, ρ, fs, ds, ρ', s, eq, q⟩ => by
  obtain ⟨w, e1, e2⟩ := bindO eq
  obtain ⟨w1, w2⟩ := w
  simp only at e2
  have fin : ∀ {l out : List D} {k : Int}, cmbD l k = some out → 0 ≤ k ∧ k ≤ 1000 ∧ l.length ≤ 10000 := fun {l out k} e => by
    unfold cmbD at e
    split at e
    · rename_i hh; exact ⟨hh.1, hh.2.1, okS_le hh.2.2⟩
    · cases e
  refine ⟨R, ρ, fs, _, _, s, e1, fun vs H' fs' t s' r => ?_⟩
  split at e2
  · obtain ⟨out, e5, e6⟩ := mapO e2
    cases e6
    obtain ⟨k0, k1, k2⟩ := fin e5
    cases r with
    | cons r1 rs =>
      cases rs with
      | cons r2 rs =>
        cases rs
        cases r2
        cases r1 with
        | lst h1 q1 => exact ⟨_, _, Int.toNat _, by rw [show ((Int.toNat _ : Nat) : Int) = _ from Int.toNat_of_nonneg k0], by omega, by rw [← q1.length]; omega, .inr ⟨_, rfl, .inl (.of (hide_le _ _ _ _ h1))⟩, q _ H' fs' t s' (walks_cmb q1 e5)⟩
  · obtain ⟨out, e5, e6⟩ := mapO e2
    cases e6
    obtain ⟨k0, k1, k2⟩ := fin e5
    cases r with
    | cons r1 rs =>
      cases rs with
      | cons r2 rs =>
        cases rs
        cases r2
        cases r1 with
        | tup h1 q1 => exact ⟨_, _, Int.toNat _, by rw [show ((Int.toNat _ : Nat) : Int) = _ from Int.toNat_of_nonneg k0], by omega, by rw [← q1.length]; omega, .inr ⟨_, rfl, .inr ((hide_le _ _).seqT h1.t)⟩, q _ H' fs' t s' (walks_cmb q1 e5)⟩
  · cases e2
end
/-! ### tuple(range(..)) -/
section
variable {X : Cx} {τ : List Ty} {a b : Expr} {p pos p2 pos2 : Pos}
def eRgT (f : Af) : Ef := fun ρ => (f ρ).bind fun p => match p.1 with
  | [.v (.int j)] => if small62 j && okLen j.toNat then some (.v (.tup (intsD 0 j.toNat)), p.2) else none
  | _ => none
theorem de_rgT {f : Af} (hc : X.calm = true) (hgl : Gl X "tuple") (hml : X.mg "tuple" = none) (hg : Gl X "range") (hm : X.mg "range" = none) (ha : DA X [a] τ f) (na : starEach [a] X.env = (false, eval a X.env) :: starEach [] X.env := by rfl)
    (nb : starEach [.Call (.Name "range" p) [a] [] pos] X.env = (false, eval (.Call (.Name "range" p) [a] [] pos) X.env) :: starEach [] X.env := by rfl) :
    DE X (.Call (.Name "tuple" p2) [.Call (.Name "range" p) [a] [] pos] [] pos2) τ (eRgT f) := pe_imp (pe_tupRg hc hgl hml (prg_A hg hm ha na) nb) fun σ H Q ⟨R, ρ, fs, d, ρ', s, e, q⟩ => by
  obtain ⟨w, e1, e2⟩ := bindO e
  obtain ⟨w1, w2⟩ := w
  simp only at e2
  split at e2
  · rename_i j
    obtain ⟨e3, e4⟩ := ifSome' e2
    cases e4
    rw [Bool.and_eq_true] at e3
    refine ⟨R, ρ, fs, _, _, s, e1, fun vs H1 fs1 t1 s1 r1 => ?_⟩
    cases r1 with
    | cons r rs =>
      cases r
      cases rs
      have h62 := small62_of e3.1
      refine ⟨j, rfl, ⟨by omega, by omega, h62.1, h62.2, ?_⟩, fun a0 ha0 => ?_⟩
      · have := okLen_le e3.2
        rw [sizeLine_eq] at this
        rw [show j - 0 = j by omega]
        omega
      · rw [rgV0]
        have g := Grow.upd (o := HO.tup ((List.range j.toNat).map fun i => V.int (0 + (i : Nat)))) ha0
        exact q _ _ fs1 (t1.trans (Step.grow g _)) (s1.grow g) (s1.newT ha0 (rfs_ints 0 j.toNat))
  · cases e2
end
theorem bt_range : bootBuiltins "range" = some (.type "range") := by decide +kernel
theorem bt_enumerate : bootBuiltins "enumerate" = some (.type "enumerate") := by decide +kernel
end TL

set_option maxHeartbeats 2000000
namespace L2
open PySem PySem.Spec PyProof.Rows
section
variable {X : Cx} {a b c d : Expr} {ta tb tc td : TE} {pos : Pos}
def tChain3 (r r' r'' : R2) (ta tb tc td : TE) : TE := fun σ H Q => ta σ H fun x H1 => tb σ H1 fun y H2 => r x y H2 fun z H3 => ∃ k, z = .bl k ∧
  (if k = true then tc σ H3 fun w H4 => r' y w H4 fun z' H5 => ∃ k', z' = .bl k' ∧ (if k' = true then td σ H5 fun u H6 => r'' w u H6 Q else Q (.bl false) H5) else Q (.bl false) H3)
theorem pe_chain3 {op op' op'' : CmpOp} {r r' r'' : R2} (ho : OpR X (compareOp op) r) (ho' : OpR X (compareOp op') r') (ho'' : OpR X (compareOp op'') r'') (ha : PE X a ta) (hb : PE X b tb) (hc : PE X c tc) (hd : PE X d td)
    (hm : lastMarks [op, op', op''] [b, c, d] = false := by with_unfolding_all rfl) : PE X (.Compare a [op, op', op''] [b, c, d] pos) (tChain3 r r' r'' ta tb tc td) := by
  refine ⟨fun pins s σ H Q I h => ?_⟩
  refine Compare_chain (thn (ha.run pins s σ H _ I h) fun v s1 ⟨x, H1, I1, r1, q1⟩ => chain_link (thn (hb.run pins s1 σ H1 _ I1 q1) fun u s2 ⟨y, H2, I2, r2, q2⟩ =>
    thn (ho pins s2 σ H2 x y v u _ I2 r1 r2 q2) fun d s3 ⟨z, H3, I3, r3, k, e, q3⟩ => ?_)) hm
  subst e
  cases r3
  refine wpAny_truthy_bool ?_
  cases k with
  | false => exact ite_ff ⟨.bl false, H3, I3, rfl, q3⟩
  | true =>
    refine ite_tt (chain_link (thn (hc.run pins s3 σ H3 _ I3 q3) fun w' s4 ⟨z', H4, I4, r4, q4⟩ => thn (ho' pins s4 σ H4 y z' u w' _ I4 r2 r4 q4) fun d' s5 ⟨z2, H5, I5, r5, k2, e2, q5⟩ => ?_))
    subst e2
    cases r5
    refine wpAny_truthy_bool ?_
    cases k2 with
    | false => exact ite_ff ⟨.bl false, H5, I5, rfl, q5⟩
    | true => exact ite_tt (chain_last (thn (hd.run pins s5 σ H5 _ I5 q5) fun w2 s6 ⟨z3, H6, I6, r6, q6⟩ => ho'' pins s6 σ H6 z' z3 w' w2 Q I6 r4 r6 q6))
theorem pt_chain3 {op op' op'' : CmpOp} {r r' r'' : R2} (ho : OpR X (compareOp op) r) (ho' : OpR X (compareOp op') r') (ho'' : OpR X (compareOp op'') r'') (ha : PE X a ta) (hb : PE X b tb) (hc : PE X c tc) (hd : PE X d td)
    (hm : lastMarks [op, op', op''] [b, c, d] = false := by with_unfolding_all rfl) : PT X (.Compare a [op, op', op''] [b, c, d] pos) (tTest (tChain3 r r' r'' ta tb tc td)) := by
  refine ⟨fun pins s σ H Q I h => ?_⟩
  refine isTrue_chain (thn (ha.run pins s σ H _ I h) fun v s1 ⟨x, H1, I1, r1, q1⟩ => test_link (thn (hb.run pins s1 σ H1 _ I1 q1) fun u s2 ⟨y, H2, I2, r2, q2⟩ =>
    thn (ho pins s2 σ H2 x y v u _ I2 r1 r2 q2) fun d s3 ⟨z, H3, I3, r3, k, e, q3⟩ => ?_)) hm
  subst e
  cases r3
  refine wpAny_truthy_bool ?_
  cases k with
  | false =>
    obtain ⟨k', e', q'⟩ := q3
    cases e'
    exact ite_ff ⟨H3, I3, q'⟩
  | true =>
    refine ite_tt (test_link (thn (hc.run pins s3 σ H3 _ I3 q3) fun w' s4 ⟨z', H4, I4, r4, q4⟩ => thn (ho' pins s4 σ H4 y z' u w' _ I4 r2 r4 q4) fun d' s5 ⟨z2, H5, I5, r5, k2, e2, q5⟩ => ?_))
    subst e2
    cases r5
    refine wpAny_truthy_bool ?_
    cases k2 with
    | false =>
      obtain ⟨k', e', q'⟩ := q5
      cases e'
      exact ite_ff ⟨H5, I5, q'⟩
    | true =>
      refine ite_tt (test_last (thn (hd.run pins s5 σ H5 _ I5 q5) fun w2 s6 ⟨z3, H6, I6, r6, q6⟩ => thn (ho'' pins s6 σ H6 z' z3 w' w2 _ I6 r4 r6 q6) fun d2 s7 ⟨z4, H7, I7, r7, k3, e3, q7⟩ => ?_))
      subst e3
      cases r7
      exact wpAny_truthy_bool ⟨H7, I7, q7⟩
end
/-! lcm of three -/
open PySem.Calls PySem.W in
theorem mg_run_lcm3 (a : Int) (t : Tok) (b : Int) (u : Tok) (c : Int) (v : Tok) (hc0 : ¬(max 1 a.natAbs).log2 / 30 + 1 > 450) (hc1 : ¬(max a.natAbs b.natAbs).log2 / 30 + 1 > 450) (hc2 : ¬(max (a.natAbs.lcm b.natAbs) c.natAbs).log2 / 30 + 1 > 450)
    (hsz : (((((Nat.lcm 1 a.natAbs).lcm b.natAbs).lcm c.natAbs : Nat) : Int)).natAbs.log2 < bitsLine := by size_fits) :
    Gives (Builtin.«math.lcm» ⟨[.int a t, .int b u, .int c v], []⟩) (.int (((((Nat.lcm 1 a.natAbs).lcm b.natAbs).lcm c.natAbs : Nat) : Int))) :=
  .of_wp fun M A E s Q h => by obtain ⟨hp, g, d, tk, os⟩ := s; wp_walk; (try (refine wpAny_ite_false (decide_eq_false (Nat.not_le.mpr hsz)) ?_; wp_walk)); exact ⟨_, rfl, h⟩
theorem args_lcm3 (a b c : Value) : argsOk "math.lcm" ⟨[a, b, c], []⟩ := by unfold argsOk; kernel_rfl
def rLcm3 : List V → Hp → VK → Prop := fun vs H Q => ∃ a b c : Int, vs = [.int a, .int b, .int c] ∧ a.natAbs < 1000000 ∧ b.natAbs < 1000000 ∧ c.natAbs < 1000000 ∧ Q (.int (((a.natAbs.lcm b.natAbs).lcm c.natAbs : Nat) : Int)) H
theorem lcm3_le (a b c : Nat) (ha : a < 1000000) (hb : b < 1000000) (hc : c < 1000000) : a.lcm b < 2 ^ 40 ∧ (a.lcm b).lcm c < 2 ^ 60 := by
  have h1 : a.lcm b ≤ a * b := by unfold Nat.lcm; exact Nat.div_le_self _ _
  have h2 : (a.lcm b).lcm c ≤ a.lcm b * c := by unfold Nat.lcm; exact Nat.div_le_self _ _
  have h3 : a * b ≤ 1000000 * 1000000 := Nat.mul_le_mul (by omega) (by omega)
  have h4 : a.lcm b * c ≤ (1000000 * 1000000) * 1000000 := Nat.mul_le_mul (by omega) (by omega)
  omega
open PySem.Calls PySem.W in
theorem cr_lcm3 {X : Cx} : CallR X (.builtin "math.lcm") rLcm3 := by
  intro pins s σ H vs us Q I r h
  obtain ⟨a, b, c, rfl, ha, hb, hc, q⟩ := h
  cases r with
  | cons r1 r =>
    obtain ⟨t, u, rfl⟩ := Vals.int2 r
    obtain ⟨t1, rfl⟩ := r1
    obtain ⟨k1, k2⟩ := lcm3_le a.natAbs b.natAbs c.natAbs ha hb hc
    have e : ∀ n : Nat, Nat.lcm 1 n = n := fun n => by simp [Nat.lcm]
    have g := mg_run_lcm3 a t1 b t c u (by have := mg_log (n := max 1 a.natAbs) (k := 63) (by omega); omega) (by have := mg_log (n := max a.natAbs b.natAbs) (k := 63) (by omega); omega) (by have := mg_log (n := max (a.natAbs.lcm b.natAbs) c.natAbs) (k := 63) (by omega); omega)
      (by rw [e]; refine Nat.lt_of_le_of_lt (mg_log (k := 63) ?_) (by decide); rw [Int.natAbs_natCast]; omega)
    rw [e] at g
    exact call_function_meets MGF.kind_lcm MGF.plain_lcm MGF.entry_lcm (args_lcm3 _ _ _) g.meets ⟨.int _, H, I.tok _, ⟨_, rfl⟩, q⟩
end L2
namespace TL
open PySem PySem.Spec PyProof.Rows L2
section
variable {X : Cx} {τ : List Ty} {a b c d e : Expr} {es : List Expr} {p pos p2 pos2 : Pos} {x : Str} {id : String}
/-! ### a op b op c op d -/
def eChain3 (g g' g'' : D → D → Option D) (f1 f2 f3 f4 : Ef) : Ef := fun ρ => (f1 ρ).bind fun p => (f2 p.2).bind fun q => (g (p.1.res q.2) (q.1.res q.2)).bind fun d => match d with
  | .bl true => (f3 q.2).bind fun r => (g' (q.1.res r.2) (r.1.res r.2)).bind fun d' => match d' with
    | .bl true => (f4 r.2).bind fun w => (g'' (r.1.res w.2) (w.1.res w.2)).bind fun d'' => some (.v d'', w.2)
    | .bl false => some (.v (.bl false), r.2)
    | _ => none
  | .bl false => some (.v (.bl false), q.2)
  | _ => none
theorem tChain3_of {r r' r'' : R2} {g g' g'' : D → D → Option D} {f1 f2 f3 f4 : Ef} (o : OpD X r g) (o' : OpD X r' g') (o'' : OpD X r'' g'') : ∀ σ H Q, tD X τ (eChain3 g g' g'' f1 f2 f3 f4) σ H Q → tChain3 r r' r'' (tD X τ f1) (tD X τ f2) (tD X τ f3) (tD X τ f4) σ H Q := fun σ H Q ⟨R, ρ, fs, h, ρ', s, e, k⟩ => by
  unfold eChain3 at e
  obtain ⟨p, h1, e⟩ := bindO e
  obtain ⟨q, h2, e⟩ := bindO e
  obtain ⟨d, h3, e⟩ := bindO e
  refine two s h1 h2 fun v1 v2 H' fs' t s' r1 r2 => ?_
  refine o (R ++ fs') H' _ _ _ v1 v2 _ s'.own (s'.res r1) (s'.res r2) h3 fun v H2 g2 rf => ?_
  cases d with
  | bl kk =>
    cases rf
    cases kk with
    | false =>
      cases e
      exact ⟨false, rfl, iteF (k _ H2 fs' (t.trans (Step.grow g2 _)) (s'.grow g2) (.bl _))⟩
    | true =>
      obtain ⟨w, h4, e⟩ := bindO e
      obtain ⟨d', h5, e⟩ := bindO e
      refine ⟨true, rfl, iteT ⟨R, q.2, fs', w.1, w.2, s'.grow g2, h4, fun v3 H3 fs3 t3 s3 r3 => ?_⟩⟩
      have r2' := s3.res ((s'.grow g2).holdH t3 (s'.holdH (Step.grow g2 fs') r2))
      refine o' (R ++ fs3) H3 _ _ _ v2 v3 _ s3.own r2' (s3.res r3) h5 fun v4 H4 g4 rf4 => ?_
      cases d' with
      | bl k2 =>
        cases rf4
        cases k2 with
        | false =>
          cases e
          exact ⟨false, rfl, iteF (k _ H4 fs3 ((t.trans (Step.grow g2 _)).trans (t3.trans (Step.grow g4 _))) (s3.grow g4) (.bl _))⟩
        | true =>
          obtain ⟨y, h6, e⟩ := bindO e
          obtain ⟨d2, h7, e⟩ := bindO e
          cases e
          refine ⟨true, rfl, iteT ⟨R, w.2, fs3, y.1, y.2, s3.grow g4, h6, fun v5 H5 fs5 t5 s5 r5 => ?_⟩⟩
          have r3' := s5.res ((s3.grow g4).holdH t5 (s3.holdH (Step.grow g4 fs3) r3))
          refine o'' (R ++ fs5) H5 _ _ _ v3 v5 Q s5.own r3' (s5.res r5) h7 fun v6 H6 g6 rf6 => ?_
          exact k v6 H6 fs5 ((t.trans (Step.grow g2 _)).trans ((t3.trans (Step.grow g4 _)).trans (t5.trans (Step.grow g6 _)))) (s5.grow g6) rf6
      | _ => cases e
  | _ => cases e
theorem de_chain3 {op op' op'' : CmpOp} {r r' r'' : R2} {g g' g'' : D → D → Option D} {f1 f2 f3 f4 : Ef} (ho : OpR X (compareOp op) r) (o : OpD X r g) (ho' : OpR X (compareOp op') r') (o' : OpD X r' g') (ho'' : OpR X (compareOp op'') r'') (o'' : OpD X r'' g'') (ha : DE X a τ f1) (hb : DE X b τ f2) (hc : DE X c τ f3) (hd : DE X d τ f4)
    (hm : lastMarks [op, op', op''] [b, c, d] = false := by with_unfolding_all rfl) : DE X (.Compare a [op, op', op''] [b, c, d] pos) τ (eChain3 g g' g'' f1 f2 f3 f4) := pe_imp (pe_chain3 ho ho' ho'' ha hb hc hd hm) (tChain3_of o o' o'')
theorem dt_chain3 {op op' op'' : CmpOp} {r r' r'' : R2} {g g' g'' : D → D → Option D} {f1 f2 f3 f4 : Ef} (ho : OpR X (compareOp op) r) (o : OpD X r g) (ho' : OpR X (compareOp op') r') (o' : OpD X r' g') (ho'' : OpR X (compareOp op'') r'') (o'' : OpD X r'' g'') (ha : DE X a τ f1) (hb : DE X b τ f2) (hc : DE X c τ f3) (hd : DE X d τ f4)
    (hm : lastMarks [op, op', op''] [b, c, d] = false := by with_unfolding_all rfl) : DT X (.Compare a [op, op', op''] [b, c, d] pos) τ (tBl (eChain3 g g' g'' f1 f2 f3 f4)) := pt_imp (pt_chain3 ho ho' ho'' ha hb hc hd hm) (tTest_of (tChain3_of o o' o''))
/-! ### functions of a module -/
theorem de_callF {r : List V → Hp → VK → Prop} {g : List D → Option D} {f : Af} (hc : CallR X (.builtin id) r) (o : CaD X r g) (hg : Gl X x) (hm : X.mg x = some (.builtin id)) (ha : DA X (e :: es) τ f) (hdb : (x == ("__debug__" : Str)) = false := by decide)
    (he : starEach (e :: es) X.env = (false, eval e X.env) :: starEach es X.env := by rfl) (hpl : (backTo pos (starEach es X.env)).any (·.1) = false := by rfl) : DE X (.Call (.Name x p) (e :: es) [] pos) τ (eCa g f) := pe_imp (pe_callBfun hc hg hm ha hdb he hpl) (tCB_of o)
def gcdD : D → D → Option D
  | .int i, .int j => some (.int ((Nat.gcd i.natAbs j.natAbs : Nat) : Int))
  | _, _ => none
theorem ca_gcd : CaD X rGcd (f2 gcdD) := ca2 fun S H d1 d2 d v1 v2 Q al r1 r2 e q => by
  cases d1 <;> cases d2 <;> first | (cases e; done) | skip
  cases e
  rw [r1.int_inv, r2.int_inv]
  exact ⟨_, _, rfl, q _ H (Grow.refl H) (.int _)⟩
def lcm3D : List D → Option D
  | [.int i, .int j, .int k] => if decide (i.natAbs < 1000000) && decide (j.natAbs < 1000000) && decide (k.natAbs < 1000000) then some (.int (((i.natAbs.lcm j.natAbs).lcm k.natAbs : Nat) : Int)) else none
  | _ => none
theorem ca_lcm3 : CaD X rLcm3 lcm3D := fun S H ds d vs Q al r1 e q => by
  unfold lcm3D at e
  split at e
  · obtain ⟨h, e⟩ := ifSome' e
    cases e
    simp only [Bool.and_eq_true, decide_eq_true_eq] at h
    obtain ⟨⟨h1, h2⟩, h3⟩ := h
    cases r1 with
    | cons r1 r =>
      obtain ⟨v, w, rfl, r2, r3⟩ := r.two
      rw [r1.int_inv, r2.int_inv, r3.int_inv]
      exact ⟨_, _, _, rfl, h1, h2, h3, q _ H (Grow.refl H) (.int _)⟩
  · cases e
end
end TL

set_option maxHeartbeats 2000000
namespace L2
open PySem PySem.Spec PyProof.Rows
section
variable {X : Cx} {a b c e : Expr} {p pos p2 pos2 : Pos}
/-- the ints a, a - 1, .. , b + 1 -/
def rgDn (a b : Int) : List V := (List.range (a - b).toNat).map fun i => V.int (a - (i : Nat))
def DnOk (a b : Int) : Prop := -(2 ^ 62) ≤ a ∧ a < 2 ^ 62 ∧ -(2 ^ 62) ≤ b ∧ b < 2 ^ 62 ∧ (a - b).toNat ≤ 2 ^ 24
def tLstDn (ta : TA) : TE := fun σ H Q => ta σ H fun vs H1 => ∃ i j, vs = [.int i, .int j, .int (-1)] ∧ DnOk i j ∧ ∀ q, H1 q = none → Q (.ref q) (upd H1 q (.lst (rgDn i j)))
theorem vals_dn {a b : Int} {acc : Array Value} (h : ItemsOf (fun i v => ∃ t, v = .int (a + i * (-1)) t) acc (a - b).toNat) : Vals (rgDn a b) acc.toList := by
  have e : acc.toList.length = (a - b).toNat := by rw [Array.length_toList]; exact h.1
  unfold rgDn
  rw [← e]
  refine vals_of_get acc.toList _ fun j u hj => ?_
  obtain ⟨t, rfl⟩ := h.2 j u (by rw [← hj, Array.getElem?_toList])
  exact ⟨t, by congr 1; omega⟩
theorem pe_listDn {ta : TA} (hc : X.calm = true) (hgl : Gl X "list") (hml : X.mg "list" = none) (hg : Gl X "range") (hm : X.mg "range" = none) (ha : PA X [a, b, c] ta)
    (na : starEach [.Call (.Name "range" p) [a, b, c] [] pos] X.env = (false, eval (.Call (.Name "range" p) [a, b, c] [] pos) X.env) :: starEach [] X.env := by rfl)
    (hs : starEach [a, b, c] X.env = (false, eval a X.env) :: starEach [b, c] X.env := by rfl) (hpl : (backTo pos (starEach [b, c] X.env)).any (·.1) = false := by rfl) :
    PE X (.Call (.Name "list" p2) [.Call (.Name "range" p) [a, b, c] [] pos] [] pos2) (tLstDn ta) := by
  refine ⟨fun pins s σ H Q I h => ?_⟩
  have key : wpAny (model X.prog X.w) X.A (eval (.Call (.Name "range" p) [a, b, c] [] pos) X.env) (fun x s1 => ∃ r i j t u v H1, x = .ref r ∧ IsRange s1.heap r i j (-1) t u v ∧ Inv X pins σ H1 s1 ∧ DnOk i j ∧ ∀ q, H1 q = none → Q (.ref q) (upd H1 q (.lst (rgDn i j)))) X.xe s := by
    refine Call_ (ld_blt I hg hm boot_range (PyProof.Rows.callWith_type1 (thn (ha.run pos pins s σ H _ I h) fun us s1 ⟨vs, H1, I1, r1, q1⟩ => ?_) hs hpl))
    obtain ⟨i, j, rfl, ok, q⟩ := q1
    cases r1 with
    | cons r rr =>
      cases rr with
      | cons r' rr =>
        cases rr with
        | cons r'' rr =>
        cases rr
        obtain ⟨t1, rfl⟩ := r
        obtain ⟨t2, rfl⟩ := r'
        obtain ⟨t3, rfl⟩ := r''
        refine call_range_3 (by decide) ?_ (.inl (PyProof.noPylong_small (by decide)))
        exact ⟨_, i, j, _, _, _, H1, rfl, IsRange.new _ _ _ _ _ _ _, I1.kept fun b u e => Heap.get?_push_of_some _ e, ok, q⟩
  refine Call_ (ld_blt I hgl hml boot_list (PyProof.Rows.callWith_type1 (args_cons (thn key fun x s1 ⟨r, i, j, t, u, v, H1, ex, hr, I1, ok, q⟩ => args_nil ?_) na) na))
  subst ex
  obtain ⟨b1, b2, b3, b4, b5⟩ := ok
  refine call_list_range (n := (i - j).toNat) (I1.ok.hd hc) hr (PySem.W.small_down b1 b2 b3 b4) (PySem.W.rangeSize_downNat i j) b5 fun h' tk acc c' hk e' hi => ?_
  refine ⟨.ref s1.heap.objs.size, upd H1 s1.heap.objs.size (.lst (rgDn i j)), I1.laid hk (Nat.le_refl _) (show ObjOk X.prog X.w _ _ _ (.lst (rgDn i j)) from ⟨?_, acc.toList, c', vals_dn hi, ?_⟩), rfl, q _ (I1.hok.fresh (Nat.le_refl _))⟩
  · unfold rgDn; rw [List.length_map, List.length_range, sizeLine_eq]; omega
  · rw [Array.toArray_toList]; exact e'
end
end L2
namespace TL
open PySem PySem.Spec PyProof.Rows L2
section
variable {X : Cx} {τ : List Ty} {a b c d e : Expr} {es : List Expr} {p pos p2 pos2 : Pos}
def dnsD (a : Int) (n : Nat) : List D := (List.range n).map fun i : Nat => D.int (a - (i : Int))
def oRgDn (f : Af) : Of := fun ρ => (f ρ).bind fun p => match p.1 with
  | [.v (.int i), .v (.int j), .v (.int (-1))] => if small62 i && small62 j && okLen (i - j).toNat then some (.lst (dnsD i (i - j).toNat), p.2) else none
  | _ => none
theorem rfs_dns {K : PySem.W.Frag} {mg : Str → Option Value} {G : Hp} (lo : Int) (n : Nat) : Rfs K mg G (dnsD lo n) ((List.range n).map fun i => V.int (lo - (i : Nat))) := by
  have h1 : dnsD lo n = ((List.range n).map fun i : Nat => lo - (i : Int)).map D.int := by unfold dnsD; rw [List.map_map]; rfl
  have h2 : ((List.range n).map fun i => V.int (lo - (i : Nat))) = ((List.range n).map fun i : Nat => lo - (i : Int)).map V.int := by rw [List.map_map]; rfl
  rw [h1, h2]
  exact Rfs.of_ints _
theorem do_rgDn {f : Af} (hc : X.calm = true) (hgl : Gl X "list") (hml : X.mg "list" = none) (hg : Gl X "range") (hm : X.mg "range" = none) (ha : DA X [a, b, c] τ f)
    (na : starEach [.Call (.Name "range" p) [a, b, c] [] pos] X.env = (false, eval (.Call (.Name "range" p) [a, b, c] [] pos) X.env) :: starEach [] X.env := by rfl)
    (hs : starEach [a, b, c] X.env = (false, eval a X.env) :: starEach [b, c] X.env := by rfl) (hpl : (backTo pos (starEach [b, c] X.env)).any (·.1) = false := by rfl) :
    DO X (.Call (.Name "list" p2) [.Call (.Name "range" p) [a, b, c] [] pos] [] pos2) τ (oRgDn f) (.oL .sh) := pe_imp (pe_listDn hc hgl hml hg hm ha na hs hpl) fun σ H Q ⟨R, ρ, fs, d, ρ', s, e, q⟩ => by
  obtain ⟨w, e1, e2⟩ := bindO e
  obtain ⟨w1, w2⟩ := w
  simp only at e2
  split at e2
  · rename_i i j
    obtain ⟨e3, e4⟩ := ifSome' e2
    cases e4
    rw [Bool.and_eq_true, Bool.and_eq_true] at e3
    refine ⟨R, ρ, fs, _, _, s, e1, fun vs H1 fs1 t1 s1 r1 => ?_⟩
    cases r1 with
    | cons r rs =>
      cases rs with
      | cons r' rs =>
        cases rs with
        | cons r2 rs =>
          cases r; cases r'; cases r2
          cases rs
          have h1 := small62_of e3.1.1
          have h2 := small62_of e3.1.2
          refine ⟨i, j, rfl, ⟨h1.1, h1.2, h2.1, h2.2, ?_⟩, fun a0 ha0 => ?_⟩
          · have := okLen_le e3.2
            rw [sizeLine_eq] at this
            omega
          · obtain ⟨n1, n2, n3⟩ := s1.newL ha0 (rfs_dns (mg := X.mg) i (i - j).toNat)
            exact q _ _ fs1 [a0] (t1.trans n3) n1 n2
  · cases e2
end
end TL

set_option maxHeartbeats 2000000
/-! sorted(xs): xs a list of data that are alike -/
namespace L2
open PySem PySem.Spec PyProof.Rows
open PySem.W (AllAlike Sortable dataLe)
def rSortG (K : PySem.W.Frag) : List V → Hp → VK → Prop := fun xs H Q => ∃ (a : Addr) (bs : List (V × PyData)), xs = [V.ref a] ∧ SqL K H a (bs.map (·.1)) ∧ (∀ b ∈ bs, Dp K H b.1 b.2) ∧ AllAlike (bs.map (·.2)) ∧ Sortable (bs.map (·.2)) ∧ (∀ b ∈ bs, b.2.depth ≤ 50) ∧
  ∀ p, H p = none → Q (.ref p) (upd H p (.lst ((bs.mergeSort (dataLe false (·.2))).map (·.1))))
theorem each_of {bs : List (V × PyData)} : ∀ {us : List Value}, Vals (bs.map (·.1)) us → PySem.W.EachIs (fun (v : Value) (b : V × PyData) => RelV b.1 v) us bs := by
  induction bs with
  | nil => intro us r; cases r; exact .nil
  | cons b bs ih =>
    intro us r
    rw [List.map_cons] at r
    cases r with
    | cons h t => exact .cons h (ih t)
theorem vals_each {bs : List (V × PyData)} : ∀ {us : List Value}, PySem.W.EachIs (fun (v : Value) (b : V × PyData) => RelV b.1 v) us bs → Vals (bs.map (·.1)) us := by
  induction bs with
  | nil => intro us r; cases r; exact .nil
  | cons b bs ih =>
    intro us r
    cases r with
    | cons h t => exact .cons h (ih t)
theorem cr_sortedG {X : Cx} (hu : X.A.units + 64 < cLine) : CallR X (.builtin "sorted") (rSortG X.K) := by
  intro pins s σ H vs us Q I r h
  obtain ⟨a, bs, rfl, hs, hd, hal, hso, hdp, q⟩ := h
  obtain ⟨its, rv, hl, hz⟩ := I.list hs
  rw [Vals.ref1 r]
  have e := each_of rv
  have er : PySem.W.EachIs (fun (v : Value) (b : V × PyData) => ∃ as, Reads s.heap v b.2 as) its bs := by
    have : ∀ {us : List Value} {cs : List (V × PyData)}, PySem.W.EachIs (fun (v : Value) (b : V × PyData) => RelV b.1 v) us cs → (∀ b ∈ cs, Dp X.K H b.1 b.2) → PySem.W.EachIs (fun (v : Value) (b : V × PyData) => ∃ as, Reads s.heap v b.2 as) us cs := by
      intro us cs r
      induction r with
      | nil => intro _; exact .nil
      | cons h t ih => intro k; exact .cons (Dp.reads I _ _ _ (k _ (by simp)) h) (ih fun b hb => k b (by simp [hb]))
    exact this e hd
  refine PySem.W.sorted_data (R := fun (v : Value) (b : V × PyData) => RelV b.1 v) (enc := (·.2)) hl.isList e er hal hso (by have := rv.length; rw [List.length_map] at this hz; exact hz) (fun b hb => by have := hdp b hb; omega) fun out ho eo => ?_
  obtain ⟨ep, he'⟩ := PyProof.Rows.sortedAll_at s.heap its out.toArray
  have hlen : ((bs.mergeSort (dataLe false (·.2))).map (·.1)).length ≤ sizeLine := by
    rw [List.length_map, List.length_mergeSort]
    rw [List.length_map] at hz
    exact hz
  exact ⟨.ref _, upd H (s.heap.objs.size + 1) (.lst ((bs.mergeSort (dataLe false (·.2))).map (·.1))), I.laid (t' := s.toks) (fun _ _ => PyProof.Rows.sortedAll_old) (Nat.le_succ _) ⟨hlen, out, ep, vals_each eo, he'⟩, rfl, q _ (I.hok.fresh (Nat.le_succ _))⟩
end L2
namespace TL
open PySem PySem.Spec PyProof.Rows L2
open PySem.W (AllAlike Sortable dataLe)
def tupNe : D → Bool
  | .tup (_ :: _) => true
  | _ => false
def notTN : D → Bool
  | .tup _ => false
  | .non => false
  | _ => true
def srtOk (l : List D) : Bool := l.all (pyOk 40) && (l.all fun a => l.all fun b => alikeD a b) && (l.all tupNe || l.all notTN)
def sortG : D → Option (List D)
  | .lst l => if srtOk l then some (l.mergeSort fun a b => !ltD b a) else none
  | _ => none
theorem py_tupNe {d : D} (h : tupNe d = true) : ∃ x r, py d = .tuple (x :: r) := by
  cases d with
  | tup l => cases l with
    | nil => cases h
    | cons a l => exact ⟨py a, pys l, by simp [py, pys]⟩
  | _ => cases h
theorem py_notTN {d : D} (k : pyOk 40 d = true) (h : notTN d = true) : py d ≠ .none ∧ ∀ xs, py d ≠ .tuple xs := by
  cases d <;> first | (cases h; done) | (simp [pyOk] at k; done) | (simp [py]; done)
theorem rfs_zip {K : PySem.W.Frag} {mg : Str → Option Value} {G : Hp} : ∀ {ds : List D} {vs : List V}, Rfs K mg G ds vs → ∃ zs : List (D × V), zs.map (·.1) = ds ∧ zs.map (·.2) = vs ∧ ∀ z ∈ zs, Rf K mg G z.1 z.2
  | _, _, .nil => ⟨[], rfl, rfl, by simp⟩
  | _, _, .cons (d := d) (v := v) h r => by
    obtain ⟨zs, e1, e2, k⟩ := rfs_zip r
    exact ⟨(d, v) :: zs, by simp [e1], by simp [e2], fun z hz => by
      rcases List.mem_cons.mp hz with rfl | hz
      · exact h
      · exact k z hz⟩
theorem zip_rfs {K : PySem.W.Frag} {mg : Str → Option Value} {G : Hp} : ∀ (zs : List (D × V)), (∀ z ∈ zs, Rf K mg G z.1 z.2) → Rfs K mg G (zs.map (·.1)) (zs.map (·.2))
  | [], _ => .nil
  | z :: zs, h => .cons (h z (by simp)) (zip_rfs zs fun y hy => h y (by simp [hy]))
theorem co_sortG {X : Cx} : CaO X (rSortG X.K) (f1L sortG) := co1 fun S H d1 d v1 Q al r1 e q => by
  cases d1 <;> first | (cases e; done) | skip
  rename_i l
  obtain ⟨h, e⟩ := ifSome' e
  subst e
  obtain ⟨a, vs, rfl, h1, q1⟩ := r1.lst_inv
  obtain ⟨zs, e1, e2, k⟩ := rfs_zip q1
  subst e1; subst e2
  simp only [srtOk, Bool.and_eq_true, Bool.or_eq_true] at h
  obtain ⟨⟨h2, h3⟩, h4⟩ := h
  have ok : ∀ z ∈ zs, pyOk 40 z.1 = true := fun z hz => List.all_eq_true.mp h2 _ (List.mem_map.mpr ⟨z, hz, rfl⟩)
  have m1 : (zs.map fun z => (z.2, py z.1)).map (·.1) = zs.map (·.2) := by rw [List.map_map]; rfl
  have m2 : (zs.map fun z => (z.2, py z.1)).map (·.2) = zs.map fun z => py z.1 := by rw [List.map_map]; rfl
  have c1 : ((zs.map fun z => (z.2, py z.1)).mergeSort (dataLe false (·.2))) = (zs.mergeSort fun x y => !ltD y.1 x.1).map fun z => (z.2, py z.1) :=
    (List.map_mergeSort (r := fun x y : D × V => !ltD y.1 x.1) (s := dataLe false (fun b : V × PyData => b.2)) (f := fun z : D × V => (z.2, py z.1)) (l := zs) (fun x _ y _ => rfl)).symm
  have c2 : (zs.map (·.1)).mergeSort (fun a b => !ltD b a) = (zs.mergeSort fun x y => !ltD y.1 x.1).map (·.1) :=
    (List.map_mergeSort (r := fun x y : D × V => !ltD y.1 x.1) (s := fun a b => !ltD b a) (f := fun z : D × V => z.1) (l := zs) (fun x _ y _ => rfl)).symm
  refine ⟨a, zs.map fun z => (z.2, py z.1), rfl, by rw [m1]; exact .of h1, fun b hb => ?_, ?_, ?_, fun b hb => ?_, fun p hp => ?_⟩
  · obtain ⟨z, hz, rfl⟩ := List.mem_map.mp hb
    exact (Rv.rf (k z hz)).dp (ok z hz)
  · rw [m2]
    intro x hx y hy
    obtain ⟨z, hz, rfl⟩ := List.mem_map.mp hx
    obtain ⟨w, hw, rfl⟩ := List.mem_map.mp hy
    have := List.all_eq_true.mp (List.all_eq_true.mp h3 _ (List.mem_map.mpr ⟨z, hz, rfl⟩)) _ (List.mem_map.mpr ⟨w, hw, rfl⟩)
    exact this
  · rw [m2]
    rcases h4 with h4 | h4
    · refine .inl fun x hx => ?_
      obtain ⟨z, hz, rfl⟩ := List.mem_map.mp hx
      exact py_tupNe (List.all_eq_true.mp h4 _ (List.mem_map.mpr ⟨z, hz, rfl⟩))
    · refine .inr fun x hx => ?_
      obtain ⟨z, hz, rfl⟩ := List.mem_map.mp hx
      exact py_notTN (ok z hz) (List.all_eq_true.mp h4 _ (List.mem_map.mpr ⟨z, hz, rfl⟩))
  · obtain ⟨z, hz, rfl⟩ := List.mem_map.mp hb
    have := (pyOk_ok 40 z.1 (ok z hz)).2
    simp only
    omega
  · rw [c1, List.map_map]
    refine q p H _ (Grow.refl H) hp ?_
    rw [c2]
    exact zip_rfs _ fun z hz => k z (List.mem_mergeSort.mp hz)
end TL

set_option maxHeartbeats 2000000
/-! dicts: reading -/
namespace L2
open PySem PySem.Spec PyProof.Rows
def rDIn : R2 := fun x y H Q => ∃ a o, y = .ref a ∧ DGet H a x o ∧ Q (.bl o.isSome) H
def rDNotIn : R2 := fun x y H Q => ∃ a o, y = .ref a ∧ DGet H a x o ∧ Q (.bl (!o.isSome)) H
def rDIx : R2 := fun x y H Q => ∃ a v, x = .ref a ∧ DGet H a y (some v) ∧ Q v H
section
variable {X : Cx}
theorem op_inDct (hu : X.A.units + 1 < cLine) : OpR X (compareOp .In) rDIn := by
  intro pins s σ H x y v u Q I rx ry h
  obtain ⟨a, o, rfl, g, q⟩ := h
  cases ry
  exact d_in hu I g rx fun s' I' => ⟨.bl o.isSome, H, I', rfl, q⟩
theorem op_notInDct (hu : X.A.units + 1 < cLine) : OpR X (compareOp .NotIn) rDNotIn := by
  intro pins s σ H x y v u Q I rx ry h
  obtain ⟨a, o, rfl, g, q⟩ := h
  cases ry
  exact d_notIn hu I g rx fun s' I' => ⟨.bl (!o.isSome), H, I', rfl, q⟩
end
end L2
namespace TL
open PySem PySem.Spec PyProof.Rows L2
def kq1 : D → D → Bool
  | .int i, .int j => decide (i = j)
  | .str s, .str t => decide (s = t)
  | _, _ => false
def kqs : List D → List D → Bool
  | [], [] => true
  | a :: l, b :: m => kq1 a b && kqs l m
  | _, _ => false
def kq : D → D → Bool
  | .tup l, .tup m => kqs l m
  | a, b => kq1 a b
def keyN : D → Option Key
  | .int i => some (.inl i)
  | .str s => some (.inr s)
  | _ => none
def keysN : List D → Option (List Key)
  | [] => some []
  | d :: l => (keyN d).bind fun k => (keysN l).bind fun ks => some (k :: ks)
theorem keyN_D {d : D} {k : Key} (h : keyN d = some k) : d = keyD k := by
  cases d <;> simp [keyN] at h <;> subst h <;> rfl
theorem keysN_D : ∀ {l : List D} {ks : List Key}, keysN l = some ks → l = ks.map keyD
  | [], ks, h => by cases h; rfl
  | d :: l, ks, h => by
    obtain ⟨k, e1, h⟩ := bindO h
    obtain ⟨r, e2, h⟩ := bindO h
    cases h
    rw [List.map_cons, ← keyN_D e1, ← keysN_D e2]
theorem kq1_key (a b : Key) : kq1 (keyD a) (keyD b) = decide (a = b) := by
  cases a <;> cases b <;> simp [keyD, kq1]
theorem kqs_keys : ∀ a b : List Key, kqs (a.map keyD) (b.map keyD) = decide (a = b)
  | [], [] => rfl
  | [], _ :: _ => rfl
  | _ :: _, [] => rfl
  | x :: a, y :: b => by
    rw [List.map_cons, List.map_cons]
    show (kq1 _ _ && kqs _ _) = _
    rw [kq1_key, kqs_keys a b]
    simp [Bool.decide_and]
theorem kq_key (a b : Key) : kq (keyD a) (keyD b) = decide (a = b) := by
  cases a <;> cases b <;> simp [keyD, kq, kq1]
theorem kq_keys (a b : List Key) : kq (keysD a) (keysD b) = decide (a = b) := kqs_keys a b
def dLook (kds : List (D × D)) (k : D) : Option D := (kds.find? fun p => kq p.1 k).map (·.2)
def HoldsO (K : PySem.W.Frag) (mg : Str → Option Value) (G : Hp) : Option D → Option V → Prop
  | none, none => True
  | some d, some v => Rf K mg G d v
  | _, _ => False
theorem HoldsO.isSome {K : PySem.W.Frag} {mg : Str → Option Value} {G : Hp} {o : Option D} {ov : Option V} (h : HoldsO K mg G o ov) : ov.isSome = o.isSome := by
  cases o <;> cases ov <;> first | rfl | cases h
theorem HoldsO.some {K : PySem.W.Frag} {mg : Str → Option Value} {G : Hp} {d : D} {ov : Option V} (h : HoldsO K mg G (some d) ov) : ∃ v, ov = some v ∧ Rf K mg G d v := by
  cases ov with
  | none => cases h
  | some v => exact ⟨v, rfl, h⟩
/-- the value at a key -/
theorem look_ok {K : PySem.W.Frag} {mg : Str → Option Value} {G : Hp} {κ : Type} [DecidableEq κ] (em : κ → D) (hq : ∀ a b, kq (em a) (em b) = decide (a = b)) (k : κ) : ∀ {kds : List (D × D)} {kvs : List (κ × V)}, kds.map (·.1) = kvs.map (fun p => em p.1) → Rfs K mg G (kds.map (·.2)) (kvs.map (·.2)) →
    HoldsO K mg G (dLook kds (em k)) (valV kvs k)
  | [], [], _, _ => trivial
  | [], _ :: _, e, _ => by simp at e
  | _ :: _, [], e, _ => by simp at e
  | p :: kds, q :: kvs, e, r => by
    simp only [List.map_cons, List.cons.injEq] at e
    obtain ⟨e1, e2⟩ := e
    rw [List.map_cons, List.map_cons] at r
    cases r with
    | cons h r =>
      have ih := look_ok em hq k e2 r
      unfold dLook
      rw [List.find?_cons, e1, hq]
      by_cases hk : q.1 = k
      · rw [decide_eq_true hk, valV_pos hk]
        exact h
      · rw [decide_eq_false hk, valV_neg hk]
        exact ih
def dGetO : D → D → Option (Option D)
  | .dct kds, k => (keyN k).bind fun _ => some (dLook kds k)
  | .dtt kds, .tup l => if l.isEmpty then none else (keysN l).bind fun _ => some (dLook kds (.tup l))
  | _, _ => none
theorem keyish_of : ∀ {ks : List Key}, ks ≠ [] → keyish (ks.map kV) = true
  | [], h => absurd rfl h
  | k :: ks, _ => by
    unfold keyish
    rw [List.all_map]
    simp only [List.map_cons, List.isEmpty_cons, Bool.not_false, Bool.true_and, List.all_eq_true]
    intro x _
    cases x <;> rfl
theorem rf_keys {K : PySem.W.Frag} {mg : Str → Option Value} {G : Hp} : ∀ {ks : List Key} {vs : List V}, Rfs K mg G (ks.map keyD) vs → vs = ks.map kV
  | [], _, .nil => rfl
  | .inl i :: ks, _, .cons (.int _) r => by rw [rf_keys r]; rfl
  | .inr s :: ks, _, .cons (.str _) r => by rw [rf_keys r]; rfl
theorem rv_key {K : PySem.W.Frag} {mg : Str → Option Value} {S : List Addr} {H : Hp} {k : Key} {v : V} (r : Rv K mg S H (keyD k) v) : v = kV k := by
  cases k with
  | inl i => exact r.int_inv
  | inr s => exact r.str_inv
/-- what a dict holds at a key -/
theorem dget_ok {K : PySem.W.Frag} {mg : Str → Option Value} {S : List Addr} {H : Hp} {d k : D} {o : Option D} {vd vk : V} (rd : Rv K mg S H d vd) (rk : Rv K mg S H k vk) (e : dGetO d k = some o) :
    ∃ a ov, vd = .ref a ∧ DGet H a vk ov ∧ HoldsO K mg (hide S H) o ov := by
  cases d with
  | dct kds =>
    obtain ⟨key, e1, e2⟩ := bindO (show (keyN k).bind (fun _ => some (dLook kds k)) = some o by cases k <;> exact e)
    cases e2
    have ek := keyN_D e1
    subst ek
    have := rv_key rk
    subst this
    have fin : ∀ {a : Addr} {kvs : List (Key × V)}, H a = some (.dK kvs) → kds.map (·.1) = kvs.map (fun p => keyD p.1) → Rfs K mg (hide S H) (kds.map (·.2)) (kvs.map (·.2)) → ∃ a' ov, V.ref a = .ref a' ∧ DGet H a' (kV key) ov ∧ HoldsO K mg (hide S H) (dLook kds (keyD key)) ov := fun {a kvs} ha h1 h2 => ⟨a, valV kvs key, rfl, DGet.k ha, look_ok keyD kq_key key h1 h2⟩
    cases rd with
    | rf r => cases r with
      | dK ha h1 h2 => exact fin (hide_le _ _ _ _ ha) h1 h2
    | dK ha h1 h2 => exact fin ha h1 h2
  | dtt kds =>
    cases k with
    | tup l =>
      cases l with
      | nil => simp [dGetO] at e
      | cons x l =>
        obtain ⟨ks, e1, e2⟩ := bindO (show (keysN (x :: l)).bind (fun _ => some (dLook kds (.tup (x :: l)))) = some o from e)
        cases e2
        have ek := keysN_D e1
        clear e e1
        rw [ek] at rk ⊢
        obtain ⟨b, vs, rfl, _, hu, hr⟩ := rk.tup_inv
        have := rf_keys hr
        subst this
        have hne : ks ≠ [] := fun z => by rw [z] at ek; simp at ek
        have hb : H b = some (.tup (ks.map kV)) := by
          rcases hu with hu | ⟨hu, _⟩
          · exact hide_le _ _ _ _ hu
          · rw [keyish_of hne] at hu; cases hu
        have fin : ∀ {a : Addr} {kvs : List (List Key × V)}, H a = some (.dT kvs) → kds.map (·.1) = kvs.map (fun p => keysD p.1) → Rfs K mg (hide S H) (kds.map (·.2)) (kvs.map (·.2)) → ∃ a' ov, V.ref a = .ref a' ∧ DGet H a' (.ref b) ov ∧ HoldsO K mg (hide S H) (dLook kds (.tup (ks.map keyD))) ov := fun {a kvs} ha h1 h2 => ⟨a, valV kvs ks, rfl, DGet.t ha hb, look_ok keysD kq_keys ks h1 h2⟩
        cases rd with
        | rf r => cases r with
          | dT ha h1 h2 => exact fin (hide_le _ _ _ _ ha) h1 h2
        | dT ha h1 h2 => exact fin ha h1 h2
    | _ => cases e
  | _ => cases k <;> cases e
section
variable {X : Cx}
def dInD : D → D → Option D := fun k d => (dGetO d k).map fun o => .bl o.isSome
def dNotInD : D → D → Option D := fun k d => (dGetO d k).map fun o => .bl (!o.isSome)
theorem od_inDct : OpD X rDIn dInD := fun S H d1 d2 d v1 v2 Q al r1 r2 e q => by
  obtain ⟨o, e1, rfl⟩ := mapO (show (dGetO d2 d1).map _ = some d from e)
  obtain ⟨a, ov, rfl, g, m⟩ := dget_ok r2 r1 e1
  refine ⟨a, ov, rfl, g, ?_⟩
  rw [m.isSome]
  exact q _ H (Grow.refl H) (.bl _)
theorem od_notInDct : OpD X rDNotIn dNotInD := fun S H d1 d2 d v1 v2 Q al r1 r2 e q => by
  obtain ⟨o, e1, rfl⟩ := mapO (show (dGetO d2 d1).map _ = some d from e)
  obtain ⟨a, ov, rfl, g, m⟩ := dget_ok r2 r1 e1
  refine ⟨a, ov, rfl, g, ?_⟩
  rw [m.isSome]
  exact q _ H (Grow.refl H) (.bl _)
/-- d[k], there -/
def dGet : D → D → Option D := fun d k => (dGetO d k).bind id
/-- d.get(k), d.get(k, x) -/
def dGet1 : D → D → Option D := fun d k => (dGetO d k).map fun o => o.getD .non
def dGet2 : D → D → D → Option D := fun d k x => (dGetO d k).map fun o => o.getD x
end
end TL

set_option maxHeartbeats 2000000
/-! dicts: d[k], new ones, d[k] = v -/
namespace L2
open PySem PySem.Spec PyProof.Rows
theorem ix_dct {X : Cx} (hu : X.A.units + 1 < cLine) : IxR X rDIx := by
  intro value slice pins s σ H x y v u Q I rx ry h hs
  obtain ⟨a, w, rfl, g, q⟩ := h
  cases rx
  have hT := dict_typeIs I g
  unfold subscriptTail
  refine wpAny_bind ?_
  rw [getitemInPython_of_ne hT.not_modules]
  refine wpAny_bind (wpAny_specialOf hT PySem.F.slot_dict_getitem.lookup ?_)
  have fin : wpAny (model X.prog X.w) X.A (subscripted slice false (.ref a) u) (fun r s₃ => wpAny (model X.prog X.w) X.A (letTemporaryGo value (.ref a) r >>= fun _ => pure r) (EP X pins σ Q) X.xe s₃) X.xe s := by
    rw [hs]
    exact wpAny_operating (d_getItem hu I g ry fun w' s3 I3 rw' => wpAny_bind (wpAny_letTemporaryGo (wpAny_pure ⟨w, H, I3, rw', q⟩)))
  first
    | exact wpAny_pure (wpAny_bind fin)
    | exact wpAny_bind (wpAny_pure (wpAny_bind fin))
    | exact wpAny_bind fin
end L2
namespace TL
open PySem PySem.Spec PyProof.Rows L2
section
variable {X : Cx} {τ : List Ty} {e : Expr} {pos p : Pos}
theorem od_getDct : OpD X rDIx dGet := fun S H d1 d2 d v1 v2 Q al r1 r2 e q => by
  obtain ⟨o, e1, e2⟩ := bindO (show (dGetO d1 d2).bind id = some d from e)
  cases e2
  obtain ⟨a, ov, rfl, g, m⟩ := dget_ok r1 r2 e1
  obtain ⟨v, e, rf⟩ := m.some
  subst e
  exact ⟨a, v, rfl, g, q _ H (Grow.refl H) rf⟩
/-! new dicts -/
/-- a new object at p: owned by the value -/
theorem SR.newO {R : List Addr} {ρ : Rho} {σ : L2.St} {H : Hp} {fs : List Addr} {p : Addr} {o : HO} {t : Ty} {d : D} (s : SR X.K X.mg R τ ρ σ H fs) (hp : H p = none) (ow : Own o) (r : ∀ G, Rp X.K X.mg (upd H p o) G t d (.ref p) [p]) :
    SR X.K X.mg ([p] ++ R) τ ρ σ (upd H p o) fs ∧ Rp X.K X.mg (upd H p o) (hide ([p] ++ R ++ fs) (upd H p o)) t d (.ref p) [p] ∧ Step H (upd H p o) fs ([p] ++ fs) := by
  have hf := s.fresh hp
  have le : Le (hide (R ++ fs) H) (hide ([p] ++ R ++ fs) (upd H p o)) := hide_upd' hp fun a z => by simpa using z
  have np : ∀ a ∈ R ++ fs, a ≠ p := fun a ha e => hf (e ▸ ha)
  refine ⟨⟨s.sl.mono le fun a ha => upd_ne (np a (List.mem_append_right _ ha)), ?_, fun a ha => ?_⟩, r _, ⟨fun a o _ e => ?_, fun a ha => ?_, fun a o e => ?_⟩⟩
  · have := s.nd
    simpa [hf] using this
  · rcases List.mem_append.mp ha with ha | ha
    · have e : a = p := by simpa using ha
      exact ⟨o, by rw [e, upd_same], ow⟩
    · obtain ⟨o', e, w⟩ := s.al a ha
      exact ⟨o', by rw [upd_ne (np a (List.mem_append_left _ ha))]; exact e, w⟩
  · rw [upd_ne (ne_of_none e hp)]; exact e
  · rcases List.mem_append.mp ha with ha | ha
    · have e : a = p := by simpa using ha
      exact .inr (e ▸ hp)
    · exact .inl ha
  · exact ⟨o, by rw [upd_ne (ne_of_none e hp)]; exact e⟩
def oDctK : Of := fun ρ => some (.dct [], ρ)
def oDctT : Of := fun ρ => some (.dtt [], ρ)
theorem do_dctK : DO X (.Dict [] [] pos) τ oDctK (.oK .sh) := pe_imp pe_dnewK fun σ H Q ⟨R, ρ, fs, d, ρ', s, e, q⟩ => by
  cases e
  intro a ha
  obtain ⟨n1, n2, n3⟩ := SR.newO (t := .oK .sh) (d := .dct []) s ha (o := .dK []) trivial fun G => .oK upd_same rfl .nil
  exact q _ _ fs [a] n3 n1 n2
theorem do_dctT : DO X (.Dict [] [] pos) τ oDctT (.oT .sh) := pe_imp pe_dnewT fun σ H Q ⟨R, ρ, fs, d, ρ', s, e, q⟩ => by
  cases e
  intro a ha
  obtain ⟨n1, n2, n3⟩ := SR.newO (t := .oT .sh) (d := .dtt []) s ha (o := .dT []) trivial fun G => .oT upd_same rfl .nil
  exact q _ _ fs [a] n3 n1 n2
/-! d[k] = v -/
def dPutL (kds : List (D × D)) (k d : D) : List (D × D) := if (kds.any fun p => kq p.1 k) = true then kds.map (fun p => if kq p.1 k then (p.1, d) else p) else kds ++ [(k, d)]
theorem put_ok {K : PySem.W.Frag} {mg : Str → Option Value} {G : Hp} {κ : Type} [DecidableEq κ] (em : κ → D) (hq : ∀ a b, kq (em a) (em b) = decide (a = b)) (k : κ) {d : D} {v : V} (h : Rf K mg G d v) {kds : List (D × D)} {kvs : List (κ × V)} (e : kds.map (·.1) = kvs.map (fun p => em p.1)) (r : Rfs K mg G (kds.map (·.2)) (kvs.map (·.2))) :
    (dPutL kds (em k) d).map (·.1) = (putK kvs k v).map (fun p => em p.1) ∧ Rfs K mg G ((dPutL kds (em k) d).map (·.2)) ((putK kvs k v).map (·.2)) := by
  have ha : ∀ {kds : List (D × D)} {kvs : List (κ × V)}, kds.map (·.1) = kvs.map (fun p => em p.1) → (kds.any fun p => kq p.1 (em k)) = kvs.any fun p => decide (p.1 = k) := by
    intro kds
    induction kds with
    | nil => intro kvs e; cases kvs with
      | nil => rfl
      | cons => simp at e
    | cons p kds ih => intro kvs e; cases kvs with
      | nil => simp at e
      | cons q kvs =>
        simp only [List.map_cons, List.cons.injEq] at e
        rw [List.any_cons, List.any_cons, e.1, hq, ih e.2]
  have hm : ∀ {kds : List (D × D)} {kvs : List (κ × V)}, kds.map (·.1) = kvs.map (fun p => em p.1) → Rfs K mg G (kds.map (·.2)) (kvs.map (·.2)) →
      (kds.map fun p => if kq p.1 (em k) then (p.1, d) else p).map (·.1) = (kvs.map fun p => if p.1 = k then (p.1, v) else p).map (fun p => em p.1) ∧ Rfs K mg G ((kds.map fun p => if kq p.1 (em k) then (p.1, d) else p).map (·.2)) ((kvs.map fun p => if p.1 = k then (p.1, v) else p).map (·.2)) := by
    intro kds
    induction kds with
    | nil => intro kvs e r; cases kvs with
      | nil => exact ⟨rfl, .nil⟩
      | cons => simp at e
    | cons p kds ih => intro kvs e r; cases kvs with
      | nil => simp at e
      | cons q kvs =>
        simp only [List.map_cons, List.cons.injEq] at e
        rw [List.map_cons, List.map_cons] at r
        cases r with
        | cons h1 r1 =>
          obtain ⟨i1, i2⟩ := ih e.2 r1
          by_cases hk : q.1 = k
          · have hk' : kq p.1 (em k) = true := by rw [e.1, hq, decide_eq_true hk]
            simp only [List.map_cons, hk', hk, if_true]
            refine ⟨?_, .cons h i2⟩
            rw [i1]; simp [e.1, hk]
          · have hk' : kq p.1 (em k) = false := by rw [e.1, hq, decide_eq_false hk]
            simp only [List.map_cons, hk', hk, if_false, Bool.false_eq_true]
            refine ⟨?_, .cons h1 i2⟩
            rw [i1, e.1]
  unfold dPutL putK
  rw [ha e]
  by_cases hany : (kvs.any fun kv => decide (kv.1 = k)) = true
  · rw [if_pos hany, if_pos hany]
    exact hm e r
  · rw [if_neg hany, if_neg hany]
    refine ⟨by simp [e], ?_⟩
    rw [List.map_append, List.map_append]
    exact r.append (.one h)
theorem SR.gK_aux {K : PySem.W.Frag} {mg : Str → Option Value} {R : List Addr} {ρ : Rho} {σ : L2.St} {H : Hp} {fs : List Addr} {i : Nat} {v0 : V} (s : SR K mg R τ ρ σ H fs) (ht : τ[i]? = some (.oK .sh)) (ev : σ[i]? = some (some v0)) {kds : List (D × D)} (el : ρ.getD i .non = .dct kds) :
    ∃ a kvs, v0 = .ref a ∧ H a = some (.dK kvs) ∧ kds.map (·.1) = kvs.map (fun p => keyD p.1) ∧ Rfs K mg (hide (R ++ fs) H) (kds.map (·.2)) (kvs.map (·.2)) ∧ ∀ (kvs' : List (Key × V)) (kds' : List (D × D)), kds'.map (·.1) = kvs'.map (fun p => keyD p.1) → Rfs K mg (hide (R ++ fs) H) (kds'.map (·.2)) (kvs'.map (·.2)) →
      SR K mg R τ (ρ.set i (.dct kds')) σ (upd H a (.dK kvs')) fs ∧ Step H (upd H a (.dK kvs')) fs fs := by
  obtain ⟨f1, fo, f2, ef, hos, hl, _, h2, _⟩ := s.sl.split ht
  rcases hos with ⟨z, _⟩ | ⟨v1, ev1, r1⟩
  · cases z
  rw [ev] at ev1; cases ev1
  rw [el] at r1
  cases r1 with
  | @oK t a kvs kds g h n rs =>
    obtain ⟨rf, eg⟩ := rs.to_sh
    subst eg
    refine ⟨a, kvs, rfl, h, n, rf, fun kvs' kds' n' rf' => ?_⟩
    have le : Le (hide (R ++ fs) H) (hide (R ++ fs) (upd H a (.dK kvs'))) := hide_mono fun b u n e => ⟨n, by
      rw [upd_ne fun z => n (by rw [z, ef]; simp)]; exact e⟩
    have q := Rps.of_sh (H := upd H a (.dK kvs')) (rf'.mono le)
    have hlen : (kds'.map (·.2)).length = kds'.length := by simp
    rw [hlen] at q
    exact s.write ht (f := []) ev (d := .dct kds) ef (o := .dK kvs') (d' := .dct kds') trivial h2 (.oK upd_same n' q)
theorem SR.gT_aux {K : PySem.W.Frag} {mg : Str → Option Value} {R : List Addr} {ρ : Rho} {σ : L2.St} {H : Hp} {fs : List Addr} {i : Nat} {v0 : V} (s : SR K mg R τ ρ σ H fs) (ht : τ[i]? = some (.oT .sh)) (ev : σ[i]? = some (some v0)) {kds : List (D × D)} (el : ρ.getD i .non = .dtt kds) :
    ∃ a kvs, v0 = .ref a ∧ H a = some (.dT kvs) ∧ kds.map (·.1) = kvs.map (fun p => keysD p.1) ∧ Rfs K mg (hide (R ++ fs) H) (kds.map (·.2)) (kvs.map (·.2)) ∧ ∀ (kvs' : List (List Key × V)) (kds' : List (D × D)), kds'.map (·.1) = kvs'.map (fun p => keysD p.1) → Rfs K mg (hide (R ++ fs) H) (kds'.map (·.2)) (kvs'.map (·.2)) →
      SR K mg R τ (ρ.set i (.dtt kds')) σ (upd H a (.dT kvs')) fs ∧ Step H (upd H a (.dT kvs')) fs fs := by
  obtain ⟨f1, fo, f2, ef, hos, hl, _, h2, _⟩ := s.sl.split ht
  rcases hos with ⟨z, _⟩ | ⟨v1, ev1, r1⟩
  · cases z
  rw [ev] at ev1; cases ev1
  rw [el] at r1
  cases r1 with
  | @oT t a kvs kds g h n rs =>
    obtain ⟨rf, eg⟩ := rs.to_sh
    subst eg
    refine ⟨a, kvs, rfl, h, n, rf, fun kvs' kds' n' rf' => ?_⟩
    have le : Le (hide (R ++ fs) H) (hide (R ++ fs) (upd H a (.dT kvs'))) := hide_mono fun b u n e => ⟨n, by
      rw [upd_ne fun z => n (by rw [z, ef]; simp)]; exact e⟩
    have q := Rps.of_sh (H := upd H a (.dT kvs')) (rf'.mono le)
    have hlen : (kds'.map (·.2)).length = kds'.length := by simp
    rw [hlen] at q
    exact s.write ht (f := []) ev (d := .dtt kds) ef (o := .dT kvs') (d' := .dtt kds') trivial h2 (.oT upd_same n' q)
def putD (k d : D) : D → Option D
  | .dct kds => (keyN k).bind fun _ => if okLen (kds.length + 1) then some (.dct (dPutL kds k d)) else none
  | .dtt kds => match k with
    | .tup l => if l.isEmpty then none else (keysN l).bind fun _ => if okLen (kds.length + 1) then some (.dtt (dPutL kds (.tup l) d)) else none
    | _ => none
  | _ => none
def sPut (i : Nat) (f fk : Ef) : Sf := fun ρ => (f ρ).bind fun p => (fk p.2).bind fun q => match p.1, q.1 with
  | .v d, .v k => (putD k d (q.2.getD i .non)).bind fun x => some (.nx (q.2.set i x))
  | _, _ => none
theorem ds_putK {γ : Gm} {f fk : Ef} {ok ek : Expr} (i : Nat) (hu : X.A.units + 1 < cLine) (he : DE X e τ f) (ho : PE X ok (tVar i)) (hk : DE X ek τ fk) (ht : τ[i]? = some (.oK .sh) := by rfl)
    (ha : ∀ v, assign (.Subscript ok ek p) X.env v = (do
      let ov ← holding [v] (eval ok X.env)
      let iv ← holding [v, ov] (eval ek X.env)
      standAt p
      holding [v, ov, iv] (setItem ov iv v)
      release [v, ov, iv] []) := by intro _; rfl)
    (hs : swapsWithSole [.Subscript ok ek p] e pos.line X.env = pure false := by rfl) (hw : swappedStores [.Subscript ok ek p] e X.env = pure none := by rfl)
    (h1 : (assignEach [.Subscript ok ek p] X.env).map (·.2) = [assign (.Subscript ok ek p) X.env] := by rfl) :
    DS X γ (.Assign [.Subscript ok ek p] e pos) τ (sPut i f fk) τ := ps_imp (ps_asg he (pg_sub ho hk (set_dict hu) ha) hs hw h1) fun D σ H ⟨R, ρ, fs, out, s, e, q⟩ => by
  obtain ⟨w, e1, e2⟩ := bindO e
  obtain ⟨z, e3, e4⟩ := bindO e2
  obtain ⟨w1, w2⟩ := w
  obtain ⟨z1, z2⟩ := z
  cases w1 with
  | x i => cases e4
  | v d =>
    cases z1 with
    | x i => cases e4
    | v dk =>
      obtain ⟨x, e5, e6⟩ := bindO (show (putD dk d (z2.getD i .non)).bind (fun x => some (Out.nx (z2.set i x))) = some out from e4)
      cases e6
      obtain ⟨v0, f0, ev0, r0, _⟩ := s.get ht (by intro z; cases z)
      refine ⟨R, ρ, fs, _, _, s, e1, fun v H1 fs1 t1 s1 r => ⟨v0, ev0, R, w2, fs1, _, _, s1, e3, fun vk H2 fs2 t2 s2 rk => ?_⟩⟩
      obtain ⟨v0', f0', ev0', r0', _⟩ := s2.get ht (by intro z; cases z)
      obtain ⟨kds, el⟩ : ∃ kds, z2.getD i .non = .dct kds := by
        revert r0'
        cases z2.getD i .non <;> intro r0' <;> first | exact ⟨_, rfl⟩ | cases r0'
      have rv : Rf X.K X.mg (hide (R ++ fs2) H2) d v := Rf.mono (s1.le t2) r
      rw [el] at e5
      obtain ⟨key, e7, e8⟩ := bindO (show (keyN dk).bind (fun _ => if okLen (kds.length + 1) then some (TL.D.dct (dPutL kds dk d)) else none) = some x from e5)
      obtain ⟨e9, e10⟩ := ifSome' e8
      subst e10
      have ek := keyN_D e7
      subst ek
      obtain ⟨a, kvs, rfl, hH, hn, rf, mk⟩ := s2.gK_aux ht ev0 el
      have := rv_key (Rv.rf rk)
      subst this
      obtain ⟨p1, p2⟩ := put_ok keyD kq_key key rv hn rf
      obtain ⟨sn, tn⟩ := mk _ _ p1 p2
      have hlen : kvs.length = kds.length := by have := congrArg List.length hn; simpa using this.symm
      have := okLen_le e9
      exact ⟨a, _, rfl, DPut.k hH (by rw [hlen]; omega), q σ _ fs2 ((t1.trans t2).trans tn) (Kp.refl _ _) sn⟩
theorem ds_putT {γ : Gm} {f fk : Ef} {ok ek : Expr} (i : Nat) (hu : X.A.units + 1 < cLine) (he : DE X e τ f) (ho : PE X ok (tVar i)) (hk : DE X ek τ fk) (ht : τ[i]? = some (.oT .sh) := by rfl)
    (ha : ∀ v, assign (.Subscript ok ek p) X.env v = (do
      let ov ← holding [v] (eval ok X.env)
      let iv ← holding [v, ov] (eval ek X.env)
      standAt p
      holding [v, ov, iv] (setItem ov iv v)
      release [v, ov, iv] []) := by intro _; rfl)
    (hs : swapsWithSole [.Subscript ok ek p] e pos.line X.env = pure false := by rfl) (hw : swappedStores [.Subscript ok ek p] e X.env = pure none := by rfl)
    (h1 : (assignEach [.Subscript ok ek p] X.env).map (·.2) = [assign (.Subscript ok ek p) X.env] := by rfl) :
    DS X γ (.Assign [.Subscript ok ek p] e pos) τ (sPut i f fk) τ := ps_imp (ps_asg he (pg_sub ho hk (set_dict hu) ha) hs hw h1) fun D σ H ⟨R, ρ, fs, out, s, e, q⟩ => by
  obtain ⟨w, e1, e2⟩ := bindO e
  obtain ⟨z, e3, e4⟩ := bindO e2
  obtain ⟨w1, w2⟩ := w
  obtain ⟨z1, z2⟩ := z
  cases w1 with
  | x i => cases e4
  | v d =>
    cases z1 with
    | x i => cases e4
    | v dk =>
      obtain ⟨x, e5, e6⟩ := bindO (show (putD dk d (z2.getD i .non)).bind (fun x => some (Out.nx (z2.set i x))) = some out from e4)
      cases e6
      obtain ⟨v0, f0, ev0, r0, _⟩ := s.get ht (by intro z; cases z)
      refine ⟨R, ρ, fs, _, _, s, e1, fun v H1 fs1 t1 s1 r => ⟨v0, ev0, R, w2, fs1, _, _, s1, e3, fun vk H2 fs2 t2 s2 rk => ?_⟩⟩
      obtain ⟨v0', f0', ev0', r0', _⟩ := s2.get ht (by intro z; cases z)
      obtain ⟨kds, el⟩ : ∃ kds, z2.getD i .non = .dtt kds := by
        revert r0' e5
        cases z2.getD i .non <;> intro r0' e5 <;> first | exact ⟨_, rfl⟩ | (cases e5; done) | cases r0'
      have rv : Rf X.K X.mg (hide (R ++ fs2) H2) d v := Rf.mono (s1.le t2) r
      rw [el] at e5
      cases dk with
      | tup l =>
        cases l with
        | nil => cases e5
        | cons x0 l =>
          obtain ⟨ks, e7, e8⟩ := bindO (show (keysN (x0 :: l)).bind (fun _ => if okLen (kds.length + 1) then some (TL.D.dtt (dPutL kds (.tup (x0 :: l)) d)) else none) = some x from e5)
          obtain ⟨e9, e10⟩ := ifSome' e8
          subst e10
          have ek := keysN_D e7
          rw [ek] at rk
          obtain ⟨b, vs, rfl, _, hu', hr⟩ := (Rv.rf rk).tup_inv
          have := rf_keys hr
          subst this
          have hne : ks ≠ [] := fun z => by rw [z] at ek; simp at ek
          have hb : H2 b = some (.tup (ks.map kV)) := by
            rcases hu' with hu' | ⟨hu', _⟩
            · exact hide_le _ _ _ _ hu'
            · rw [keyish_of hne] at hu'; cases hu'
          obtain ⟨a, kvs, rfl, hH, hn, rf, mk⟩ := s2.gT_aux ht ev0 el
          obtain ⟨p1, p2⟩ := put_ok keysD kq_keys ks rv hn rf
          obtain ⟨sn, tn⟩ := mk _ _ p1 p2
          have hlen : kvs.length = kds.length := by have := congrArg List.length hn; simpa using this.symm
          have := okLen_le e9
          have ekk : keysD ks = .tup (x0 :: l) := by unfold keysD; rw [← ek]
          rw [ekk] at sn
          exact ⟨a, _, rfl, DPut.t hH hb (by rw [hlen]; omega), q σ _ fs2 ((t1.trans t2).trans tn) (Kp.refl _ _) sn⟩
      | _ => cases e5
end
end TL

set_option maxHeartbeats 2000000
/-! dicts: get -/
namespace TL
open PySem PySem.Spec PyProof.Rows L2
section
variable {X : Cx} {τ : List Ty} {o e f : Expr} {pos p apos cpos : Pos}
def isDctD : D → Bool
  | .dct _ => true
  | .dtt _ => true
  | _ => false
theorem Rv.isD {K : PySem.W.Frag} {mg : Str → Option Value} {S : List Addr} {H : Hp} {d : D} {v : V} (r : Rv K mg S H d v) (h : isDctD d = true) : ∃ a, v = .ref a ∧ IsD H a := by
  cases d with
  | dct kds => cases r with
    | rf r => cases r with
      | dK ha _ _ => exact ⟨_, rfl, .inl ⟨_, .inl (hide_le _ _ _ _ ha)⟩⟩
    | dK ha _ _ => exact ⟨_, rfl, .inl ⟨_, .inl ha⟩⟩
  | dtt kds => cases r with
    | rf r => cases r with
      | dT ha _ _ => exact ⟨_, rfl, .inr ⟨_, .inl (hide_le _ _ _ _ ha)⟩⟩
    | dT ha _ _ => exact ⟨_, rfl, .inr ⟨_, .inl ha⟩⟩
  | _ => cases h
theorem ifO {α : Type} {c : Bool} {x : Option α} {r : α} (e : (if c then x else none) = some r) : c = true ∧ x = some r := by
  cases c with
  | true => exact ⟨rfl, by simpa using e⟩
  | false => cases e
def eDGet1 (f1 f2 : Ef) : Ef := fun ρ => (f1 ρ).bind fun p => if isDctD (p.1.res p.2) then (f2 p.2).bind fun q => (dGet1 (p.1.res q.2) (q.1.res q.2)).bind fun d => some (.v d, q.2) else none
def eDGet2 (f1 f2 f3 : Ef) : Ef := fun ρ => (f1 ρ).bind fun p => if isDctD (p.1.res p.2) then (f2 p.2).bind fun q => (f3 q.2).bind fun r => match r.1 with
  | .v x => (dGet2 (p.1.res r.2) (q.1.res r.2) x).bind fun d => some (.v d, r.2)
  | _ => none
  else none
theorem de_dget1 {f1 f2 : Ef} (hu : X.A.units + 1 < cLine) (ho : DE X o τ f1) (he : DE X e τ f2) (m : M1 X o "get" apos e cpos) : DE X (.Call (.Attribute o "get" apos) [e] [] cpos) τ (eDGet1 f1 f2) := pe_imp (pe_dget1 hu ho he m) fun σ H Q ⟨R, ρ, fs, h, ρ', s, e, k⟩ => by
  obtain ⟨p, e1, e⟩ := bindO e
  obtain ⟨hd, e⟩ := ifO e
  obtain ⟨q, e2, e⟩ := bindO e
  obtain ⟨d, e3, e⟩ := bindO e
  cases e
  refine ⟨R, ρ, fs, p.1, p.2, s, e1, fun v1 H1 fs1 t1 s1 r1 => ?_⟩
  obtain ⟨a, rfl, hD⟩ := (s1.res r1).isD hd
  refine ⟨a, rfl, hD, R, p.2, fs1, q.1, q.2, s1, e2, fun v2 H2 fs2 t2 s2 r2 => ?_⟩
  have r1' := s2.res (s1.holdH t2 r1)
  obtain ⟨ov, e4, e5⟩ := mapO (show (dGetO (p.1.res q.2) (q.1.res q.2)).map (fun o => o.getD .non) = some d from e3)
  obtain ⟨a', ox, ea, g, m⟩ := dget_ok r1' (s2.res r2) e4
  cases ea
  refine ⟨ox, g, ?_⟩
  subst e5
  cases ov with
  | none =>
    cases ox with
    | none => exact k _ H2 fs2 (t1.trans t2) s2 .non
    | some v => cases m
  | some x =>
    obtain ⟨v, rfl, rf⟩ := m.some
    exact k _ H2 fs2 (t1.trans t2) s2 rf
theorem de_dget2 {f1 f2 f3 : Ef} (hu : X.A.units + 1 < cLine) (ho : DE X o τ f1) (he : DE X e τ f2) (hf : DE X f τ f3) (m : M2 X o "get" apos e f cpos) : DE X (.Call (.Attribute o "get" apos) [e, f] [] cpos) τ (eDGet2 f1 f2 f3) := pe_imp (pe_dget2 hu ho he hf m) fun σ H Q ⟨R, ρ, fs, h, ρ', s, e, k⟩ => by
  obtain ⟨p, e1, e⟩ := bindO e
  obtain ⟨hd, e⟩ := ifO e
  obtain ⟨q, e2, e⟩ := bindO e
  obtain ⟨r, e3, e⟩ := bindO e
  obtain ⟨rh, rr⟩ := r
  cases rh with
  | x i => cases e
  | v x =>
    obtain ⟨d, e4, e⟩ := bindO (show (dGet2 (p.1.res rr) (q.1.res rr) x).bind (fun d => some (Hd.v d, rr)) = some (h, ρ') from e)
    cases e
    refine ⟨R, ρ, fs, p.1, p.2, s, e1, fun v1 H1 fs1 t1 s1 r1 => ?_⟩
    obtain ⟨a, rfl, hD⟩ := (s1.res r1).isD hd
    refine ⟨a, rfl, hD, R, p.2, fs1, q.1, q.2, s1, e2, fun v2 H2 fs2 t2 s2 r2 => ⟨R, q.2, fs2, .v x, _, s2, e3, fun v3 H3 fs3 t3 s3 r3 => ?_⟩⟩
    have r1' := s3.res (s2.holdH t3 (s1.holdH t2 r1))
    have r2' := s3.res (s2.holdH t3 r2)
    obtain ⟨ov, e5, e6⟩ := mapO (show (dGetO (p.1.res ρ') (q.1.res ρ')).map (fun o => o.getD x) = some d from e4)
    obtain ⟨a', ox, ea, g, m⟩ := dget_ok r1' r2' e5
    cases ea
    refine ⟨ox, g, ?_⟩
    subst e6
    cases ov with
    | none =>
      cases ox with
      | none => exact k _ H3 fs3 ((t1.trans t2).trans t3) s3 r3
      | some v => cases m
    | some y =>
      obtain ⟨v, rfl, rf⟩ := m.some
      exact k _ H3 fs3 ((t1.trans t2).trans t3) s3 rf
end
end TL
namespace TL
open PySem PySem.Spec PyProof.Rows L2
theorem hu1 {k : Nat} {A : Around} (r : Room k A) : A.units + 1 < cLine := by have := hu64 r; omega
end TL

set_option maxHeartbeats 2000000
/-! shifts, and the last bit -/
namespace TL
open PySem PySem.Spec PyProof.Rows L2
section
variable {X : Cx}
def dShl := ii (fun i j => sm i && decide (0 ≤ j) && decide (j ≤ 1000) && decide (i.natAbs < 18446744073709551616)) fun i j => .int (i * 2 ^ j.toNat)
def dShr := ii (fun _ j => decide (0 ≤ j)) fun i j => .int (i / 2 ^ j.toNat)
theorem od_shl : OpD X (rI CPow fun i j => .int (i * 2 ^ j.toNat)) dShl := od_ii (fun i j h => by
  simp only [Bool.and_eq_true, decide_eq_true_eq] at h
  exact ⟨h.1.1.2, by omega, h.2⟩) fun i j _ _ _ => .int _
theorem od_shr : OpD X (rI (fun _ j => 0 ≤ j) fun i j => .int (i / 2 ^ j.toNat)) dShr := od_ii (fun i j h => of_decide_eq_true h) fun i j _ _ _ => .int _
def dBand : D → D → Option D
  | .int i, .int 1 => if decide (0 ≤ i) then some (.int (i % 2)) else none
  | _, _ => none
theorem od_band : OpD X (fun x y H Q => ∃ n : Nat, x = .int (n : Int) ∧ y = .int 1 ∧ Q (.int ((n % 2 : Nat) : Int)) H) dBand := fun S H d1 d2 d v1 v2 Q al r1 r2 e q => by
  unfold dBand at e
  split at e
  · rename_i i
    obtain ⟨h, e⟩ := ifSome' e
    subst e
    have h0 := of_decide_eq_true h
    obtain ⟨n, rfl⟩ : ∃ n : Nat, i = (n : Int) := ⟨i.toNat, by omega⟩
    refine ⟨n, r1.int_inv, r2.int_inv, ?_⟩
    have := q (.int ((n : Int) % 2)) H (Grow.refl H) (.int _)
    rw [Int.natCast_emod]
    exact this
  · cases e
end
end TL

set_option maxHeartbeats 2000000
/-! sorted(d.items()) -/
namespace LiI
open PySem PySem.Spec PyProof.Rows L2
section
variable {X : Cx} {e : Expr} {te : TE} {p apos cpos pos : Pos}
theorem tups_laid {pins : List (Addr × Obj)} {σ : L2.St} {H : Hp} {s : Shared} {h' : Heap} {tk : Nat} {kvs : List (Key × V)} {vs : List (Key × Value)} {as : List Addr} (I : Inv X pins σ H s) (kv : KV kvs vs)
    (hk : ∀ b o, s.heap.get? b = some o → h'.get? b = some o) (hl : as.length = vs.length) (hG : PySem.W.KdxG (mixKind X.prog X.w) vs s.heap.objs.size h' as) :
    ∃ H' : Hp, (∀ b o, H b = some o → H' b = some o) ∧ (∀ t ∈ as, H t = none) ∧ as.Nodup ∧ Paired (fun (t : Addr) (q : Key × V) => H' t = some (.tup [kV q.1, q.2])) as kvs ∧ Inv X pins σ H' { s with heap := h', toks := tk } := by
  have lk : kvs.length = vs.length := Paired.length kv
  have nd : as.Nodup := List.Pairwise.imp (fun {a b} (h : a < b) => Nat.ne_of_lt h) hG.rise
  have new : ∀ t ∈ as, H t = none := fun t ht => I.hok.fresh (Nat.le_of_lt (hG.above t ht))
  have atP := putT_at as kvs H (by omega) nd
  have off : ∀ b, b ∉ as → putT H as kvs b = H b := fun b h1 => putT_off as kvs _ h1
  have low : ∀ b o, s.heap.get? b = some o → b ∉ as := fun b o e z => absurd (Heap.lt_size e) (Nat.not_lt.mpr (Nat.le_of_lt (hG.above b z)))
  have kp : ∀ b u, H b = some u → (putT H as kvs) b = some u := fun b u e => by
    rw [off b (fun z => by rw [new b z] at e; cases e)]
    exact e
  refine ⟨putT H as kvs, kp, new, nd, atP, ?_⟩
  refine I.call' (ch := []) rfl ⟨fun b o q _ _ _ => hk b o q, fun b o q _ _ _ => ⟨o.slots, hk b o q⟩, fun b o q n _ => ?_, fun b o q _ => ⟨o, hk b o q⟩, fun b xs q => kp b _ q, fun b o u q => kp b _ q, fun b ps q => ⟨#[], by rw [kp b _ q]; simp⟩⟩ (fun b u q => ?_) I.bare fun b z => by simp at z
  · rw [off b (low b o q)]
    exact n
  · by_cases hb : b ∈ as
    · obtain ⟨j, pk, e1, e2, e3⟩ := paired_ix atP hb
      rw [e3] at q
      cases q
      obtain ⟨key, k, x, f1, f2, f3⟩ := hG.pairs j b e1
      obtain ⟨qv, g1, g2, g3⟩ := paired_get kv e2
      rw [f1] at g1
      cases g1
      have rk : RelV (kV pk.1) key := by
        rw [g2]
        exact relV_key (show keyIs k key = true from f2)
      exact ⟨by show 2 ≤ sizeLine; decide, [key, x], .cons rk (.cons g3 .nil), ⟨_, f3, rfl, _, rfl⟩⟩
    · rw [off b hb] at q
      exact (I.hok b u q).stay (fun d v _ y => hk d v y) (fun d y => kp d _ y) fun d xs y => kp d _ y
end
end LiI

set_option maxHeartbeats 2000000
/-! objects: a slot taken out, fields -/
namespace TL
open PySem PySem.Spec PyProof.Rows L2
section
variable {K : PySem.W.Frag} {mg : Str → Option Value} {R fo f1 f2 f3 fs : List Addr} {τ : List Ty} {ρ ρ' : Rho} {σ : L2.St} {H H1 : Hp} {i k : Nat} {t : Ty} {d : D} {v : V}
theorem SR.take (s : SR K mg R τ ρ σ H fs) (ht : τ[i]? = some t) (hn : t ≠ .no) :
    ∃ v fo f', σ[i]? = some (some v) ∧ Rp K mg H (hide (fo ++ R ++ f') H) t (ρ.getD i .non) v fo ∧ SR K mg (fo ++ R) (τ.set i .no) ρ σ H f' ∧ ∀ a, a ∈ fs ↔ a ∈ fo ∨ a ∈ f' := by
  obtain ⟨f1, fo, f2, ef, ho, hl2, h1, h2, h3⟩ := s.sl.split ht
  rcases ho with ⟨z, _⟩ | ⟨v, ev, r⟩
  · exact absurd z hn
  subst ef
  have nd := s.nd
  have mem : ∀ a, a ∈ fo ++ R ++ (f1 ++ f2) → a ∈ R ++ (f1 ++ fo ++ f2) := fun a ha => by
    simp only [List.mem_append] at ha ⊢
    rcases ha with (h | h) | h | h <;> simp [h]
  have sK := h3 (H' := H) (G' := hide (fo ++ R ++ (f1 ++ f2)) H) (d' := ρ.getD i .non) (fun _ _ => rfl) (hide_sub mem)
  rw [set_getD] at sK
  have pm : (fo ++ R ++ (f1 ++ f2)).Perm (R ++ (f1 ++ fo ++ f2)) := by
    rw [List.append_assoc, List.append_assoc, ← List.append_assoc R f1, ← List.append_assoc R f1, ← List.append_assoc (R ++ f1) fo f2]
    refine (List.perm_append_comm (l₁ := fo) (l₂ := R ++ f1 ++ f2)).trans ?_
    rw [List.append_assoc (R ++ f1) f2 fo, List.append_assoc (R ++ f1) fo f2]
    exact List.Perm.append_left _ List.perm_append_comm
  refine ⟨v, fo, f1 ++ f2, ev, r.mono (hide_sub mem) fun _ _ => rfl, ⟨sK, pm.nodup_iff.mpr nd, fun a ha => s.own a (mem a (List.mem_append_left _ ha))⟩, fun a => ?_⟩
  simp only [List.mem_append]
  constructor
  · rintro ((h | h) | h) <;> simp [h]
  · rintro (h | h | h) <;> simp [h]
theorem SR.back (s : SR K mg (fo ++ R) τ ρ σ H fs) (hi : i < τ.length) (ev : σ[i]? = some (some v)) (r : Rp K mg H (hide (fo ++ R ++ fs) H) t d v fo) :
    ∃ fs', SR K mg R (τ.set i t) (ρ.set i d) σ H fs' ∧ ∀ a ∈ fs', a ∈ fo ∨ a ∈ fs := by
  obtain ⟨fs', s', sub⟩ := s.put hi r
  rw [set_at ev] at s'
  exact ⟨fs', s', fun a ha => by simpa using sub a ha⟩
theorem SR.heldRp {ty : Ty} (s : SR K mg (fo ++ R) τ ρ σ H f1) (t : Step H H1 f1 f2) (r : Rp K mg H (hide (fo ++ R ++ f1) H) ty d v fo) : Rp K mg H1 (hide (fo ++ R ++ f2) H1) ty d v fo :=
  r.mono (s.le t) fun a ha => by
    obtain ⟨o, e, _⟩ := s.al a (List.mem_append_left _ ha)
    rw [e]
    exact t.ext a o (fun z => (List.nodup_append.mp s.nd).2.2 a (List.mem_append_left _ ha) a z rfl) e
theorem Step.whole (h : ∀ a, a ∈ fs ↔ a ∈ fo ∨ a ∈ f1) (t : Step H H1 f1 f2) (k : ∀ a ∈ f3, a ∈ fo ∨ a ∈ f2) : Step H H1 fs f3 :=
  ⟨fun a o n e => t.ext a o (fun z => n ((h a).mpr (.inr z))) e, fun a ha => (k a ha).elim (fun z => .inl ((h a).mpr (.inl z))) (fun z => (t.sub a z).elim (fun q => .inl ((h a).mpr (.inr q))) .inr), t.ne⟩
/-- something else put at an address held apart -/
theorem SR.updA {a : Addr} {o : HO} (s : SR K mg R τ ρ σ H fs) (ha : a ∈ R) (ow : Own o) : SR K mg R τ ρ σ (upd H a o) fs := by
  have nd := s.nd
  refine ⟨s.sl.mono (hide_mono fun b u n e => ⟨n, ?_⟩) fun b hb => ?_, s.nd, fun b hb => ?_⟩
  · rw [upd_ne fun z => n (by rw [z]; exact List.mem_append_left _ ha)]; exact e
  · exact upd_ne fun z => (List.nodup_append.mp nd).2.2 a ha b hb z.symm
  · by_cases z : b = a
    · exact ⟨o, by rw [z, upd_same], ow⟩
    · obtain ⟨u, e, w⟩ := s.al b hb
      exact ⟨u, by rw [upd_ne z]; exact e, w⟩
theorem Rps.cut : ∀ {ts : List Ty} {ds : List D} {vs : List V} {f : List Addr} {k : Nat} {t : Ty} {G : Hp}, Rps K mg H G ts ds vs f → ts[k]? = some t →
    ∃ f1 fo f2 d v, f = f1 ++ fo ++ f2 ∧ ds[k]? = some d ∧ vs[k]? = some v ∧ Rp K mg H G t d v fo ∧
      ∀ {H' G' : Hp} {t' : Ty} {d' : D} {v' : V} {f' : List Addr}, (∀ a ∈ f1 ++ f2, H' a = H a) → Le G G' → Rp K mg H' G' t' d' v' f' → Rps K mg H' G' (ts.set k t') (ds.set k d') (vs.set k v') (f1 ++ f' ++ f2)
  | _, _, _, _, _, _, _, .nil, e => by simp at e
  | _, _, _, _, 0, t, _, .cons (t := t0) (d := d) (v := v) (f := f0) (g := g) h r, e => by
    have e' : t0 = t := by simpa using e
    subst e'
    refine ⟨[], f0, g, d, v, by simp, rfl, rfl, h, fun {H' G' t' d' v' f'} k le q => ?_⟩
    exact .cons q (r.mono le fun a ha => k a (by simpa using ha))
  | _, _, _, _, k + 1, t, _, .cons (t := t0) (d := d) (v := v) (f := f0) (g := g) h r, e => by
    obtain ⟨f1, fo, f2, d1, v1, ef, e1, e2, q, z⟩ := Rps.cut (k := k) r (by simpa using e)
    refine ⟨f0 ++ f1, fo, f2, d1, v1, by rw [ef]; simp, by simpa using e1, by simpa using e2, q, fun {H' G' t' d' v' f'} k le q => ?_⟩
    have := Rps.cons (h.mono le fun a ha => k a (by simp [ha])) (z (fun a ha => k a (by simp at ha ⊢; rcases ha with h | h <;> simp [h])) le q)
    simpa using this
theorem Rps.snocT : ∀ {ts : List Ty} {ds : List D} {vs : List V} {f fo : List Addr} {t : Ty} {d : D} {v : V} {G : Hp}, Rps K mg H G ts ds vs f → Rp K mg H G t d v fo → Rps K mg H G (ts ++ [t]) (ds ++ [d]) (vs ++ [v]) (f ++ fo)
  | _, _, _, _, _, _, _, _, _, .nil, q => by
    have := Rps.cons q (.nil (K := K) (mg := mg) (H := H))
    simpa using this
  | _, _, _, _, _, _, _, _, _, .cons h r, q => by
    have := Rps.cons h (Rps.snocT r q)
    simpa using this
/-! fields by their places -/
def fIx : List Str → Str → Option Nat
  | [], _ => none
  | g :: r, f => if g = f then some 0 else (fIx r f).map (· + 1)
theorem fIx_at : ∀ {ns : List Str} {f : Str} {k : Nat}, fIx ns f = some k → ns[k]? = some f
  | [], _, _, e => by cases e
  | g :: r, f, k, e => by
    unfold fIx at e
    by_cases h : g = f
    · rw [if_pos h] at e; cases e; simp [h]
    · rw [if_neg h] at e
      cases e1 : fIx r f with
      | none => rw [e1] at e; cases e
      | some j => rw [e1] at e; cases e; simpa using fIx_at e1
theorem fIx_look : ∀ {fvs : List (Str × V)} {f : Str} {k : Nat} {v : V}, fIx (fvs.map (·.1)) f = some k → (fvs.map (·.2))[k]? = some v → fvs.lookup f = some v
  | [], _, _, _, e, _ => by cases e
  | (g, x) :: r, f, k, v, e, e2 => by
    unfold fIx at e
    rw [List.map_cons] at e
    simp only at e
    by_cases h : g = f
    · rw [if_pos h] at e; cases e
      have : x = v := by simpa using e2
      subst this
      have hb : (f == g) = true := beq_iff_eq.mpr h.symm
      simp only [List.lookup, hb]
    · rw [if_neg h] at e
      have hb : (f == g) = false := beq_eq_false_iff_ne.mpr fun z => h z.symm
      cases e1 : fIx (r.map (·.1)) f with
      | none => rw [e1] at e; cases e
      | some j =>
        rw [e1] at e; cases e
        simp only [List.lookup, hb]
        exact fIx_look e1 (by simpa using e2)
theorem fIx_put : ∀ {fvs : List (Str × V)} {f : Str} {k : Nat} (v : V), fIx (fvs.map (·.1)) f = some k → putF f v fvs = fvs.set k (f, v)
  | [], _, _, _, e => by cases e
  | (g, x) :: r, f, k, v, e => by
    unfold fIx at e
    rw [List.map_cons] at e
    simp only at e
    unfold putF
    by_cases h : g = f
    · rw [if_pos h] at e; cases e
      rw [if_pos h, h]; rfl
    · rw [if_neg h] at e
      rw [if_neg h]
      cases e1 : fIx (r.map (·.1)) f with
      | none => rw [e1] at e; cases e
      | some j =>
        rw [e1] at e; cases e
        rw [fIx_put v e1]; rfl
theorem fIx_new : ∀ {fvs : List (Str × V)} {f : Str} (v : V), fIx (fvs.map (·.1)) f = none → putF f v fvs = fvs ++ [(f, v)]
  | [], _, _, _ => rfl
  | (g, x) :: r, f, v, e => by
    unfold fIx at e
    rw [List.map_cons] at e
    simp only at e
    unfold putF
    by_cases h : g = f
    · rw [if_pos h] at e; cases e
    · rw [if_neg h] at e
      rw [if_neg h]
      cases e1 : fIx (r.map (·.1)) f with
      | none => rw [fIx_new v e1]; rfl
      | some j => rw [e1] at e; cases e
theorem fIx_no : ∀ {fvs : List (Str × V)} {f : Str}, fIx (fvs.map (·.1)) f = none → fvs.lookup f = none
  | [], _, _ => rfl
  | (g, x) :: r, f, e => by
    unfold fIx at e
    rw [List.map_cons] at e
    simp only at e
    by_cases h : g = f
    · rw [if_pos h] at e; cases e
    · rw [if_neg h] at e
      have hb : (f == g) = false := beq_eq_false_iff_ne.mpr fun z => h z.symm
      cases e1 : fIx (r.map (·.1)) f with
      | none => simp only [List.lookup, hb]; exact fIx_no e1
      | some j => rw [e1] at e; cases e
theorem Rp.obj_inv {c : Str} {ns : List Str} {ts : List Ty} {G : Hp} {f : List Addr} (r : Rp K mg H G (.oO c ns ts) d v f) :
    ∃ a C dx fvs fds g, d = .obj c fds ∧ v = .ref a ∧ f = a :: g ∧ mg c = some (.ref C) ∧ H a = some (.ins C dx fvs) ∧ fds.map (·.1) = ns ∧ fvs.map (·.1) = ns ∧ Rps K mg H G ts (fds.map (·.2)) (fvs.map (·.2)) g := by
  cases r with
  | oO m h n r => exact ⟨_, _, _, _, _, _, rfl, rfl, rfl, m, h, n.1, n.2, r⟩
end
/-- a class of the program -/
structure KCl (K : PySem.W.Frag) (mg : Str → Option Value) (c : Str) (C : Addr) : Prop where
  mg : mg c = some (.ref C)
  cl : Cls K C
def fldD : D → Nat → Option D
  | .obj _ l, k => l[k]?.map (·.2)
  | _, _ => none
def setFld : D → Nat → D → Option D
  | .obj c l, k, d => l[k]?.map fun p => .obj c (l.set k (p.1, d))
  | _, _, _ => none
def newFld : D → Str → D → Option D
  | .obj c l, f, d => if Nat.ble l.length 100 then some (.obj c (l ++ [(f, d)])) else none
  | _, _, _ => none
def eFld (i k : Nat) : Ef := fun ρ => (fldD (ρ.getD i .non) k).bind fun d => some (.v d, ρ)
def sFldSet (i k : Nat) (f : Ef) : Sf := fun ρ => (f ρ).bind fun p => match p.1 with
  | .v d => (setFld (p.2.getD i .non) k d).bind fun o => some (.nx (p.2.set i o))
  | _ => none
def sFldNew (i : Nat) (nm : Str) (f : Of) : Sf := fun ρ => (f ρ).bind fun p => (newFld (p.2.getD i .non) nm p.1).bind fun o => some (.nx (p.2.set i o))
section
variable {X : Cx} {τ : List Ty} {γ : Gm} {e o e2 : Expr} {pos p apos cpos pos' : Pos} {c nm : Str} {C : Addr} {ns : List Str} {ts : List Ty} {i k : Nat}
theorem de_fld (i k : Nat) (kc : KCl X.K X.mg c C) (na : NoAttr X.K C nm) (ho : PE X o (tVar i)) (ht : τ[i]? = some (.oO c ns ts) := by rfl) (hk : fIx ns nm = some k := by kernel_rfl) (htk : ts[k]? = some .sh := by rfl) (hb : attributeBase o nm X.env (eval o X.env) = eval o X.env := by rfl) :
    DE X (.Attribute o nm pos) τ (eFld i k) := pe_imp (pe_fld ho hb) fun σ H Q ⟨R, ρ, fs, hd, ρ', s, e, q⟩ => by
  obtain ⟨d, e1, e2⟩ := bindO e
  cases e2
  obtain ⟨v, f, ev, r, _⟩ := s.get ht (by intro z; cases z)
  obtain ⟨a, C', dx, fvs, fds, g, e3, rfl, rfl, m, ha, n1, n2, rs⟩ := r.obj_inv
  have : C' = C := by rw [kc.mg] at m; cases m; rfl
  subst this
  obtain ⟨f1, fo, f2, d1, v1, ef, g1, g2, r1, _⟩ := rs.cut htk
  rw [e3] at e1
  have ed : d = d1 := by
    obtain ⟨p, e4, e5⟩ := mapO (show (fds[k]?).map (·.2) = some d from e1)
    rw [List.getElem?_map, e4] at g1
    cases g1; exact e5.symm
  subst ed
  cases r1 with
  | sh r1 => exact ⟨_, ev, _, _, _, _, _, rfl, ha, kc.cl, na, fIx_look (by rw [n2]; exact hk) g2, q v1 H fs (Step.refl H fs) s r1⟩
theorem ds_fldset {f : Ef} (i k : Nat) (kc : KCl X.K X.mg c C) (na : NoAttr X.K C nm) (he : DE X e τ f) (ho : PE X o (tVar i)) (ht : τ[i]? = some (.oO c ns ts) := by rfl) (hk : fIx ns nm = some k := by kernel_rfl) (htk : ts[k]? = some .sh := by rfl) (hsm : ns.length < 1000 := by decide)
    (hs : swapsWith e (some (.Attribute o nm pos')) pos.line X.env = pure false := by rfl) : DS X γ (.Assign [.Attribute o nm pos'] e pos) τ (sFldSet i k f) τ := ps_imp (ps_fld ho he hs) fun D σ H ⟨R, ρ, fs, out, s, e, q⟩ => by
  obtain ⟨w, e1, e2⟩ := bindO e
  obtain ⟨w1, w2⟩ := w
  cases w1 with
  | x i => cases e2
  | v d =>
    obtain ⟨x, e3, e4⟩ := bindO (show (setFld (w2.getD i .non) k d).bind (fun x => some (Out.nx (w2.set i x))) = some out from e2)
    cases e4
    refine ⟨R, ρ, fs, _, _, s, e1, fun v H1 fs1 t1 s1 rv => ?_⟩
    have hi : i < τ.length := (List.getElem?_eq_some_iff.mp ht).1
    obtain ⟨v0, fo, f', ev, rp, s2, mem⟩ := s1.take ht (by intro z; cases z)
    obtain ⟨a, C', dx, fvs, fds, g, e5, rfl, rfl, m, ha, n1, n2, rs⟩ := rp.obj_inv
    have : C' = C := by rw [kc.mg] at m; cases m; rfl
    subst this
    refine ⟨_, ev, _, _, _, _, rfl, ha, kc.cl, na, (by have := congrArg List.length n2; simp at this; omega), ?_⟩
    have hf : fvs.length = ns.length := by have := congrArg List.length n2; simpa using this
    obtain ⟨h1, fk, h2, d1, v1, eg, g1, g2, r1, mk⟩ := rs.cut htk
    have efk : fk = [] := by cases r1; rfl
    subst efk
    rw [e5] at e3
    obtain ⟨pr, e6, e7⟩ := mapO (show (fds[k]?).map (fun p => TL.D.obj c (fds.set k (p.1, d))) = some x from e3)
    subst e7
    have nd := s2.nd
    have nag : a ∉ g := by
      have := (List.nodup_append.mp (List.nodup_append.mp nd).1).1
      exact (List.nodup_cons.mp this).1
    have s3 := s2.updA (a := a) (o := .ins C' dx (putF nm v fvs)) (by simp) trivial
    have le : Le (hide (a :: g ++ R ++ f') H1) (hide (a :: g ++ R ++ f') (upd H1 a (.ins C' dx (putF nm v fvs)))) := hide_mono fun b u n e => ⟨n, by
      rw [upd_ne fun z => n (by rw [z]; simp)]; exact e⟩
    have leF : Le (hide (R ++ fs1) H1) (hide (a :: g ++ R ++ f') (upd H1 a (.ins C' dx (putF nm v fvs)))) := hide_mono fun b u n e => ⟨fun z => n (by
      simp only [List.mem_append] at z ⊢
      rcases z with (z | z) | z
      · exact .inr ((mem b).mpr (.inl z))
      · exact .inl z
      · exact .inr ((mem b).mpr (.inr z))), by
        rw [upd_ne fun z => n (by rw [z]; exact List.mem_append_right _ ((mem a).mpr (.inl (by simp))))]; exact e⟩
    have rs' := mk (H' := upd H1 a (.ins C' dx (putF nm v fvs))) (t' := .sh) (d' := d) (v' := v) (f' := []) (fun b hb => upd_ne fun z => nag (by rw [eg, ← z]; simpa using hb)) le (.sh (rv.mono leF))
    rw [set_at htk, ← eg] at rs'
    have hpr : pr.1 = nm := by
      have : ns[k]? = some pr.1 := by rw [← n1, List.getElem?_map, e6]; rfl
      rw [fIx_at hk] at this; cases this; rfl
    have hput : putF nm v fvs = fvs.set k (nm, v) := fIx_put v (by rw [n2]; exact hk)
    have rp' : Rp X.K X.mg (upd H1 a (.ins C' dx (putF nm v fvs))) (hide (a :: g ++ R ++ f') (upd H1 a (.ins C' dx (putF nm v fvs)))) (.oO c ns ts) (.obj c (fds.set k (pr.1, d))) (.ref a) (a :: g) := by
      refine .oO kc.mg upd_same ⟨?_, ?_⟩ ?_
      · rw [List.map_set, hpr, n1, set_at (fIx_at hk)]
      · rw [hput, List.map_set, n2, set_at (fIx_at hk)]
      · rw [hput, List.map_set, List.map_set]; rw [hput] at rs'; exact rs'
    obtain ⟨f3, s4, sub⟩ := s3.back (by simpa using hi) ev rp'
    rw [List.set_set, set_at ht] at s4
    refine q σ _ f3 (t1.trans ⟨fun b u n e => ?_, fun b hb => .inl ((mem b).mpr (sub b hb)), fun b u e => ?_⟩) (Kp.refl _ _) s4
    · rw [upd_ne fun z => n (by rw [z]; exact (mem a).mpr (.inl (by simp)))]; exact e
    · by_cases z : b = a
      · exact ⟨_, by rw [z, upd_same]⟩
      · exact ⟨u, by rw [upd_ne z]; exact e⟩
/-- a field stored for the first time -/
theorem ds_fldnew {f : Of} {t : Ty} (i : Nat) (kc : KCl X.K X.mg c C) (na : NoAttr X.K C nm) (he : DO X e τ f t) (ho : PE X o (tVar i)) (ht : τ[i]? = some (.oO c ns ts) := by rfl) (hk : fIx ns nm = none := by kernel_rfl) (hsm : ns.length < 1000 := by decide)
    (hs : swapsWith e (some (.Attribute o nm pos')) pos.line X.env = pure false := by rfl) : DS X γ (.Assign [.Attribute o nm pos'] e pos) τ (sFldNew i nm f) (τ.set i (.oO c (ns ++ [nm]) (ts ++ [t]))) := ps_imp (ps_fld ho he hs) fun D σ H ⟨R, ρ, fs, out, s, e, q⟩ => by
  obtain ⟨w, e1, e2⟩ := bindO e
  obtain ⟨x, e3, e4⟩ := bindO e2
  cases e4
  refine ⟨R, ρ, fs, _, _, s, e1, fun v H1 fs1 fv t1 s1 rv => ?_⟩
  have hi : i < τ.length := (List.getElem?_eq_some_iff.mp ht).1
  obtain ⟨v0, fo, f', ev, rp, s2, mem⟩ := s1.take ht (by intro z; cases z)
  obtain ⟨a, C', dx, fvs, fds, g, e5, rfl, rfl, m, ha, n1, n2, rs⟩ := rp.obj_inv
  have : C' = C := by rw [kc.mg] at m; cases m; rfl
  subst this
  refine ⟨_, ev, _, _, _, _, rfl, ha, kc.cl, na, (by have := congrArg List.length n2; simp at this; omega), ?_⟩
  rw [e5] at e3
  obtain ⟨_, e7⟩ := ifSome' (show (if Nat.ble fds.length 100 then some (TL.D.obj c (fds ++ [(nm, w.1)])) else none) = some x from e3)
  subst e7
  have nd := s2.nd
  have mem1 : ∀ b, b ∈ a :: g ++ (fv ++ R) ++ f' ↔ b ∈ (a :: g ++ fv) ++ R ++ f' := fun b => by simp
  have pm : (a :: g ++ (fv ++ R) ++ f') = ((a :: (g ++ fv)) ++ R ++ f') := by simp
  have nag : a ∉ g ∧ a ∉ fv := by
    rw [pm] at nd
    have := (List.nodup_cons.mp (List.nodup_append.mp (List.nodup_append.mp nd).1).1).1
    simpa using this
  let H2 := upd H1 a (.ins C' dx (putF nm v fvs))
  have s3 := s2.updA (a := a) (o := .ins C' dx (putF nm v fvs)) (by simp) trivial
  have le : Le (hide (a :: g ++ (fv ++ R) ++ f') H1) (hide ((a :: (g ++ fv)) ++ R ++ f') (upd H1 a (.ins C' dx (putF nm v fvs)))) := hide_mono fun b u n e => ⟨by rw [← pm]; exact n, by
    rw [upd_ne fun z => n (by rw [z]; simp)]; exact e⟩
  have leF : Le (hide (fv ++ R ++ fs1) H1) (hide ((a :: (g ++ fv)) ++ R ++ f') (upd H1 a (.ins C' dx (putF nm v fvs)))) := hide_mono fun b u n e => ⟨fun z => n (by
    rw [← pm] at z
    simp only [List.mem_append] at z ⊢
    rcases z with (z | z) | z
    · exact .inr ((mem b).mpr (.inl z))
    · exact .inl z
    · exact .inr ((mem b).mpr (.inr z))), by
      rw [upd_ne fun z => n (by rw [z]; exact List.mem_append_right _ ((mem a).mpr (.inl (by simp))))]; exact e⟩
  have rv' := rv.mono (H' := upd H1 a (.ins C' dx (putF nm v fvs))) leF fun b hb => upd_ne fun z => nag.2 (z ▸ hb)
  have rs' := (rs.mono (H' := upd H1 a (.ins C' dx (putF nm v fvs))) le fun b hb => upd_ne fun z => nag.1 (z ▸ hb)).snocT rv'
  have hput : putF nm v fvs = fvs ++ [(nm, v)] := fIx_new v (by rw [n2]; exact hk)
  have rp' : Rp X.K X.mg (upd H1 a (.ins C' dx (putF nm v fvs))) (hide ((a :: (g ++ fv)) ++ R ++ f') (upd H1 a (.ins C' dx (putF nm v fvs)))) (.oO c (ns ++ [nm]) (ts ++ [t])) (.obj c (fds ++ [(nm, w.1)])) (.ref a) (a :: (g ++ fv)) := by
    refine .oO kc.mg upd_same ⟨?_, ?_⟩ ?_
    · rw [List.map_append, n1]; rfl
    · rw [hput, List.map_append, n2]; rfl
    · rw [hput, List.map_append, List.map_append]; rw [hput] at rs'; exact rs'
  have s3' : SR X.K X.mg ((a :: (g ++ fv)) ++ R) (τ.set i .no) w.2 σ (upd H1 a (.ins C' dx (putF nm v fvs))) f' := by
    have : (a :: (g ++ fv)) ++ R = a :: g ++ (fv ++ R) := by simp
    rw [this]; exact s3
  obtain ⟨f3, s4, sub⟩ := s3'.back (by simpa using hi) ev rp'
  rw [List.set_set] at s4
  refine q σ _ f3 (t1.trans ⟨fun b u n e => ?_, fun b hb => .inl ?_, fun b u e => ?_⟩) (Kp.refl _ _) s4
  · rw [upd_ne fun z => n (by rw [z]; exact List.mem_append_right _ ((mem a).mpr (.inl (by simp))))]; exact e
  · rcases sub b hb with z | z
    · rcases List.mem_append.mp (show b ∈ (a :: g) ++ fv by simpa using z) with z | z
      · exact List.mem_append_right _ ((mem b).mpr (.inl z))
      · exact List.mem_append_left _ z
    · exact List.mem_append_right _ ((mem b).mpr (.inr z))
  · by_cases z : b = a
    · exact ⟨_, by rw [z, upd_same]⟩
    · exact ⟨u, by rw [upd_ne z]; exact e⟩
end
end TL

set_option maxHeartbeats 2000000
/-! calls of methods, new objects -/
namespace TL
open PySem PySem.Spec PyProof.Rows L2
structure CalM (P : Program) (w : World) (K : PySem.W.Frag) (mg : Str → Option Value) (base : Heap) (f : Addr) (fd : FuncData) (C : Addr) (m : Str) (k : Nat) (ps : List Str) (sg : Sg) (G : Fm) : Prop where
  ok : FnD P w K mg base k f fd ps sg G
  me : Meth K C m f
  bd : Binds K fd ps []
  len : ∀ ds r, G ds = some r → ds.length = sg.ps.length
section
variable {P : Program} {w : World} {K : PySem.W.Frag} {mg : Str → Option Value} {base : Heap} {f C : Addr} {fd : FuncData} {m : Str} {k j : Nat} {ps : List Str} {sg : Sg} {G G' : Fm}
theorem CalM.mono (c : CalM P w K mg base f fd C m j ps sg G) (h : j ≤ k) : CalM P w K mg base f fd C m k ps sg G := ⟨FnOk.mono c.ok h, c.me, c.bd, c.len⟩
end
section
variable {X : Cx} {τ : List Ty} {o e : Expr} {es : List Expr} {pos p apos : Pos} {f C : Addr} {fd : FuncData} {m cl : Str} {k : Nat} {ps : List Str} {sg : Sg} {F : Fm}
theorem meI_core {g : Af} {ns : List Str} {ts : List Ty} (i n : Nat) (kc : KCl X.K X.mg cl C) (hn : ∀ ds r, F ds = some r → ds.length = n) (hps : sg.ps = ioPs n 0 (.oO cl ns ts)) (ht : τ[i]? = some (.oO cl ns ts)) (hm : fIx ns m = none) {σ : L2.St} {H : Hp} {Q : VK} (h : tO X τ (oCallI F i 0 (aCons (eOwn i) g)) sg.ret σ H Q) :
    tVar i σ H fun x H1 => ∃ a dx fs, x = .ref a ∧ H1 a = some (.ins C dx fs) ∧ fs.lookup m = none ∧ tAi X τ g σ H1 fun vs H2 => spD X.K X.mg sg F (x :: (vs ++ [])) H2 Q E0 := by
  obtain ⟨R, ρ, fs, hs, ρ', s, e, q⟩ := callI_core i 0 n hps hn ht (by intro z; cases z) rfl h
  obtain ⟨p, e1, e2⟩ := bindO e
  obtain ⟨w, e3, e4⟩ := bindO e2
  cases e4
  cases e1
  obtain ⟨v, f0, ev, r, _⟩ := s.get ht (by intro z; cases z)
  obtain ⟨a, C', dx, fvs, fds, g', e5, rfl, rfl, mm, ha, n1, n2, rs⟩ := r.obj_inv
  have : C' = C := by rw [kc.mg] at mm; cases mm; rfl
  subst this
  refine ⟨_, ev, a, dx, fvs, rfl, ha, fIx_no (by rw [n2]; exact hm), R, ρ, fs, w.1, w.2, s, e3, fun vs H2 fs2 t2 s2 r2 => ?_⟩
  show spD X.K X.mg sg F (V.ref a :: (vs ++ [])) H2 Q E0
  rw [List.append_nil]
  exact q _ H2 fs2 t2 s2 (.cons (.io ev) r2)
theorem do_meI {g : Af} {ns : List Str} {ts : List Ty} {pl : Sem Bool} (c : CalM X.prog X.w X.K X.mg X.base f fd C m k ps sg F) (kc : KCl X.K X.mg cl C) (hr : Room k X.A) (i n : Nat) (ho : PE X o (tVar i)) (ha : DAi X (e :: es) τ g) (hps : sg.ps = ioPs n 0 (.oO cl ns ts) := by rfl) (ht : τ[i]? = some (.oO cl ns ts) := by rfl) (hm : fIx ns m = none := by kernel_rfl)
    (hst : starEach (e :: es) X.env = (false, eval e X.env) :: starEach es X.env := by rfl) (hpl : (backTo pos (starEach es X.env)).any (·.1) = false := by rfl)
    (het : eval (.Call (.Attribute o m apos) (e :: es) [] pos) X.env = (do
      let ov ← eval o X.env
      standAt apos.atName
      let (f, first) ← holding [ov] (getMethod ov m pl)
      callWith pos f first (backTo pos (starEach (e :: es) X.env)) (backToKw pos (keywordEach [] X.env))) := by rfl) :
    DO X (.Call (.Attribute o m apos) (e :: es) [] pos) τ (oCallI F i 0 (aCons (eOwn i) g)) sg.ret :=
  pe_imp (pe_meth ho kc.cl c.me c.ok hr c.bd .nil (pass0 (X := X)) ha hst hpl het) fun σ H Q h => meI_core i n kc (fun ds r e => by rw [c.len ds r e, hps]; simp [ioPs]) hps ht hm h
theorem do_meI0 {ns : List Str} {ts : List Ty} {pl : Sem Bool} (c : CalM X.prog X.w X.K X.mg X.base f fd C m k ps sg F) (kc : KCl X.K X.mg cl C) (hr : Room k X.A) (i n : Nat) (ho : PE X o (tVar i)) (hps : sg.ps = ioPs n 0 (.oO cl ns ts) := by rfl) (ht : τ[i]? = some (.oO cl ns ts) := by rfl) (hm : fIx ns m = none := by kernel_rfl)
    (het : eval (.Call (.Attribute o m apos) [] [] pos) X.env = (do
      let ov ← eval o X.env
      standAt apos.atName
      let (f, first) ← holding [ov] (getMethod ov m pl)
      callWith pos f first (backTo pos (starEach [] X.env)) (backToKw pos (keywordEach [] X.env))) := by rfl) :
    DO X (.Call (.Attribute o m apos) [] [] pos) τ (oCallI F i 0 (aCons (eOwn i) aNil)) sg.ret :=
  pe_imp (pe_meth0 ho kc.cl c.me c.ok hr c.bd .nil (pass0 (X := X)) het) fun σ H Q h => by
    obtain ⟨v, ev, a, dx, fs, e1, e2, e3, R, ρ, fs1, hs, ρ', s, e, q⟩ := meI_core i n kc (fun ds r e => by rw [c.len ds r e, hps]; simp [ioPs]) hps ht hm h
    cases e
    exact ⟨v, ev, a, dx, fs, e1, e2, e3, q [] H fs1 (Step.refl H fs1) s .nil⟩
/-! methods of a frozen object -/
theorem call_fin {R : List Addr} {ρ : Rho} {σ : L2.St} {H1 : Hp} {fs1 : List Addr} {vs : List V} {ds : List D} {r : D × List D} {Q : VK} (n : Nat) (hps : sg.ps = List.replicate n .sh) (hn : ∀ ds r, F ds = some r → ds.length = n)
    (s1 : SR X.K X.mg R τ ρ σ H1 fs1) (rf : Rfs X.K X.mg (hide (R ++ fs1) H1) ds vs) (e5 : F ds = some r)
    (q : ∀ v H' fs' fv, Step H1 H' fs1 (fv ++ fs') → SR X.K X.mg (fv ++ R) τ ρ σ H' fs' → Rp X.K X.mg H' (hide (fv ++ R ++ fs') H') sg.ret r.1 v fv → Q v H') : spD X.K X.mg sg F vs H1 Q E0 := by
  have sa := SR.args rf s1.nd s1.own
  rw [hn _ _ e5, ← hps] at sa
  refine ⟨R ++ fs1, ds, [], r.1, r.2, sa, e5, fun v H2 fs2 fv t2 s2 rp => ?_⟩
  have gr : Grow H1 H2 := fun a o e => t2.ext a o (by simp) e
  have fr : ∀ a ∈ fv, H1 a = none := fun a ha => (t2.sub a (List.mem_append_left _ ha)).elim (fun z => by simp at z) id
  have nd2 := s2.nd
  refine q v H2 fs1 fv ⟨fun a o _ e => gr a o e, fun a ha => (List.mem_append.mp ha).elim (fun z => .inr (fr a z)) .inl, fun a o e => ⟨o, gr a o e⟩⟩ ⟨s1.sl.mono ?_ ?_, ?_, fun a ha => ?_⟩ (rp.mono ?_ fun _ _ => rfl)
  · refine hide_mono fun a o n e => ⟨fun z => ?_, gr a o e⟩
    simp only [List.mem_append] at z n
    rcases z with (z | z) | z
    · rw [fr a z] at e; cases e
    · exact n (.inl z)
    · exact n (.inr z)
  · intro a ha
    obtain ⟨o, e, _⟩ := s1.sl.there a ha
    rw [e, gr a o e]
  · rw [List.append_assoc] at nd2
    have := List.nodup_append.mp nd2
    rw [List.append_assoc, List.nodup_append]
    refine ⟨this.1, s1.nd, fun a ha b hb => this.2.2 a ha b (List.mem_append_left _ hb)⟩
  · rcases List.mem_append.mp ha with z | z
    · exact s2.own a (List.mem_append_left _ (List.mem_append_left _ z))
    · obtain ⟨o, e, w⟩ := s1.al a z
      exact ⟨o, gr a o e, w⟩
  · exact hide_sub fun a ha => by
      simp only [List.mem_append] at ha ⊢
      rcases ha with (z | z) | z <;> simp [z]
def isObj (cl m : Str) : D → Bool
  | .obj c l => c == cl && (fIx (l.map (·.1)) m).isNone
  | _ => false
def oCallV (cl m : Str) (F : Fm) (f0 : Ef) (g : Af) : Of := fun ρ => (f0 ρ).bind fun p => match p.1 with
  | .v d => if isObj cl m d then (g p.2).bind fun q => (hvals q.1).bind fun ds => (F (d :: ds)).bind fun r => some (r.1, q.2) else none
  | _ => none
theorem isObj_inv {d : D} {v : V} {S : List Addr} {H : Hp} (kc : KCl X.K X.mg cl C) (h : isObj cl m d = true) (r : Rf X.K X.mg (hide S H) d v) : ∃ a dx fs, v = .ref a ∧ H a = some (.ins C dx fs) ∧ fs.lookup m = none := by
  cases r with
  | obj mm ha hn rs =>
    unfold isObj at h
    rw [Bool.and_eq_true] at h
    have e := eq_of_beq h.1
    subst e
    rw [kc.mg] at mm; cases mm
    exact ⟨_, _, _, rfl, hide_le _ _ _ _ ha, fIx_no (by rw [← hn]; simpa using h.2)⟩
  | _ => cases h
theorem meV_core {f0 : Ef} {g : Af} (n : Nat) (kc : KCl X.K X.mg cl C) (hps : sg.ps = List.replicate n .sh) (hn : ∀ ds r, F ds = some r → ds.length = n) {σ : L2.St} {H : Hp} {Q : VK} (h : tO X τ (oCallV cl m F f0 g) sg.ret σ H Q) :
    tD X τ f0 σ H fun x H1 => ∃ a dx fs, x = .ref a ∧ H1 a = some (.ins C dx fs) ∧ fs.lookup m = none ∧ tA X τ g σ H1 fun vs H2 => spD X.K X.mg sg F (x :: (vs ++ [])) H2 Q E0 := by
  obtain ⟨R, ρ, fs, d, ρ', s, eq, q⟩ := h
  obtain ⟨w, e1, e2⟩ := bindO eq
  obtain ⟨w1, w2⟩ := w
  cases w1 with
  | x i => cases e2
  | v d0 =>
    obtain ⟨e3, e4⟩ := ifO e2
    obtain ⟨u, e5, e6⟩ := bindO e4
    obtain ⟨ds, e7, e8⟩ := bindO e6
    obtain ⟨r, e9, e10⟩ := bindO e8
    cases e10
    refine ⟨R, ρ, fs, _, _, s, e1, fun v H1 fs1 t1 s1 r1 => ?_⟩
    obtain ⟨a, dx, fs', rfl, h1, h2⟩ := isObj_inv kc e3 r1
    refine ⟨a, dx, fs', rfl, h1, h2, R, w2, fs1, u.1, u.2, s1, e5, fun vs H2 fs2 t2 s2 r2 => ?_⟩
    show spD X.K X.mg sg F (V.ref a :: (vs ++ [])) H2 Q E0
    rw [List.append_nil]
    have rf := r2.valsOf e7
    have r1' : Rf X.K X.mg (hide (R ++ fs2) H2) d0 (.ref a) := Rf.mono (s1.le t2) r1
    refine call_fin n hps hn s2 (.cons r1' rf) e9 fun v H3 fs3 fv t3 s3 rp => q v H3 fs3 fv ((t1.trans t2).trans t3) s3 rp
theorem do_meV {f0 : Ef} {g : Af} {pl : Sem Bool} (c : CalM X.prog X.w X.K X.mg X.base f fd C m k ps sg F) (kc : KCl X.K X.mg cl C) (hr : Room k X.A) (n : Nat) (ho : DE X o τ f0) (ha : DA X (e :: es) τ g) (hps : sg.ps = List.replicate n .sh := by rfl)
    (hst : starEach (e :: es) X.env = (false, eval e X.env) :: starEach es X.env := by rfl) (hpl : (backTo pos (starEach es X.env)).any (·.1) = false := by rfl)
    (het : eval (.Call (.Attribute o m apos) (e :: es) [] pos) X.env = (do
      let ov ← eval o X.env
      standAt apos.atName
      let (f, first) ← holding [ov] (getMethod ov m pl)
      callWith pos f first (backTo pos (starEach (e :: es) X.env)) (backToKw pos (keywordEach [] X.env))) := by rfl) :
    DO X (.Call (.Attribute o m apos) (e :: es) [] pos) τ (oCallV cl m F f0 g) sg.ret :=
  pe_imp (pe_meth ho kc.cl c.me c.ok hr c.bd .nil (pass0 (X := X)) ha hst hpl het) fun σ H Q h => meV_core n kc hps (fun ds r e => by rw [c.len ds r e, hps]; simp) h
theorem do_meV0 {f0 : Ef} {pl : Sem Bool} (c : CalM X.prog X.w X.K X.mg X.base f fd C m k ps sg F) (kc : KCl X.K X.mg cl C) (hr : Room k X.A) (n : Nat) (ho : DE X o τ f0) (hps : sg.ps = List.replicate n .sh := by rfl)
    (het : eval (.Call (.Attribute o m apos) [] [] pos) X.env = (do
      let ov ← eval o X.env
      standAt apos.atName
      let (f, first) ← holding [ov] (getMethod ov m pl)
      callWith pos f first (backTo pos (starEach [] X.env)) (backToKw pos (keywordEach [] X.env))) := by rfl) :
    DO X (.Call (.Attribute o m apos) [] [] pos) τ (oCallV cl m F f0 aNil) sg.ret :=
  pe_imp (pe_meth0 ho kc.cl c.me c.ok hr c.bd .nil (pass0 (X := X)) het) fun σ H Q h => by
    obtain ⟨R, ρ, fs, hd, ρ', s, e, q⟩ := meV_core n kc hps (fun ds r e => by rw [c.len ds r e, hps]; simp) h
    refine ⟨R, ρ, fs, hd, ρ', s, e, fun v H1 fs1 t1 s1 r1 => ?_⟩
    obtain ⟨a, dx, fs2, e1, e2, e3, R', ρ1, fs3, hs, ρ2, s4, e4, q4⟩ := q v H1 fs1 t1 s1 r1
    cases e4
    exact ⟨a, dx, fs2, e1, e2, e3, q4 [] H1 fs3 (Step.refl H1 fs3) s4 .nil⟩
/-! a field of a frozen object -/
def attrD (cl f : Str) : D → Option D
  | .obj c l => if c == cl then l.lookup f else none
  | _ => none
def eAt (cl f : Str) (g : Ef) : Ef := fun ρ => (g ρ).bind fun p => match p.1 with
  | .v d => (attrD cl f d).bind fun x => some (.v x, p.2)
  | _ => none
theorem Rfs.lookup {K : PySem.W.Frag} {mg : Str → Option Value} {G : Hp} {f : Str} {d : D} : ∀ {fds : List (Str × D)} {fvs : List (Str × V)}, fds.map (·.1) = fvs.map (·.1) → Rfs K mg G (fds.map (·.2)) (fvs.map (·.2)) → fds.lookup f = some d → ∃ v, fvs.lookup f = some v ∧ Rf K mg G d v
  | [], _, _, _, e => by cases e
  | _ :: _, [], h, _, _ => by simp at h
  | (a, x) :: fds, (b, y) :: fvs, h, r, e => by
    simp only [List.map_cons, List.cons.injEq] at h
    obtain ⟨rfl, h⟩ := h
    rw [List.map_cons, List.map_cons] at r
    cases r with
    | cons r0 r =>
      by_cases z : (f == a) = true
      · simp only [List.lookup, z] at e ⊢
        cases e
        exact ⟨y, rfl, r0⟩
      · have z := Bool.eq_false_iff.mpr z
        simp only [List.lookup, z] at e ⊢
        exact Rfs.lookup h r e
theorem de_at {f0 : Ef} (kc : KCl X.K X.mg cl C) (na : NoAttr X.K C m) (ho : DE X o τ f0) (hb : attributeBase o m X.env (eval o X.env) = eval o X.env := by rfl) : DE X (.Attribute o m pos) τ (eAt cl m f0) := pe_imp (pe_fld ho hb) fun σ H Q ⟨R, ρ, fs, hd, ρ', s, e, q⟩ => by
  obtain ⟨w, e1, e2⟩ := bindO e
  obtain ⟨w1, w2⟩ := w
  cases w1 with
  | x i => cases e2
  | v d0 =>
    obtain ⟨x, e3, e4⟩ := bindO (show (attrD cl m d0).bind (fun x => some (Hd.v x, w2)) = some (hd, ρ') from e2)
    cases e4
    refine ⟨R, ρ, fs, _, _, s, e1, fun v H1 fs1 t1 s1 r1 => ?_⟩
    have r1 : Rf X.K X.mg (hide (R ++ fs1) H1) d0 v := r1
    cases r1 with
    | obj mm ha hn rs =>
      obtain ⟨e5, e6⟩ := ifO (show (if _ then _ else none) = some x from e3)
      have e5 := eq_of_beq e5
      subst e5
      rw [kc.mg] at mm; cases mm
      obtain ⟨v, e7, r7⟩ := Rfs.lookup hn rs e6
      exact ⟨_, _, _, _, v, rfl, hide_le _ _ _ _ ha, kc.cl, na, e7, q v H1 fs1 t1 s1 r7⟩
    | _ => cases e3
end
/-! ### new objects -/
def spX (K : PySem.W.Frag) (mg : Str → Option Value) (pt outs : List Ty) (ret : Ty) (F : Fm) : Sp := fun vs H Q _ => ∃ R ds fs d ds', SR K mg R pt ds (vs.map some) H fs ∧ F ds = some (d, ds') ∧
  ∀ v H' fs' fv, Step H H' fs (fv ++ fs') → SR K mg (fv ++ R) outs ds' (vs.map some) H' fs' → Rp K mg H' (hide (fv ++ R ++ fs') H') ret d v fv → Q v H'
structure CalI (P : Program) (w : World) (K : PySem.W.Frag) (mg : Str → Option Value) (base : Heap) (f : Addr) (fd : FuncData) (c : Str) (C : Addr) (k : Nat) (ps : List Str) (n : Nat) (ns : List Str) (ts : List Ty) (dus : List Value) (G : Fm) : Prop where
  ok : FnOk P w K mg base CX0 k f fd ps (spX K mg (.oO c [] [] :: List.replicate n .sh) (.oO c ns ts :: List.replicate n .no) .sh G)
  mks : Mk K C f
  bd : Binds K fd ps dus
  len : ∀ ds r, G ds = some r → ds.length = n + 1
def oMake (c : Str) (F : Fm) (dfl : List D) (g : Af) : Of := fun ρ => (g ρ).bind fun p => (hvals p.1).bind fun ds => (F (.obj c [] :: (ds ++ dfl))).bind fun r => match r.1 with
  | .non => some (r.2.getD 0 .non, p.2)
  | _ => none
section
variable {X : Cx} {τ : List Ty} {o e : Expr} {es : List Expr} {pos p apos : Pos} {f C : Addr} {fd : FuncData} {m cl x : Str} {k n : Nat} {ps : List Str} {F : Fm} {ns : List Str} {ts : List Ty}
theorem make_fin {dvs : List V} {dus : List Value} {dfl : List D} {R : List Addr} {ρ : Rho} {σ : L2.St} {H1 : Hp} {fs1 : List Addr} {vs : List V} {ds : List D} {r : D × List D} {Q : VK} (kc : KCl X.K X.mg cl C) (c : CalI X.prog X.w X.K X.mg X.base f fd cl C k ps n ns ts dus F) (rd : ∀ G, Rfs X.K X.mg G dfl dvs)
    (s1 : SR X.K X.mg R τ ρ σ H1 fs1) (rf : Rfs X.K X.mg (hide (R ++ fs1) H1) ds vs) (e5 : F (.obj cl [] :: (ds ++ dfl)) = some r) (e6 : r.1 = .non)
    (q : ∀ v H' fs' fv, Step H1 H' fs1 (fv ++ fs') → SR X.K X.mg (fv ++ R) τ ρ σ H' fs' → Rp X.K X.mg H' (hide (fv ++ R ++ fs') H') (.oO cl ns ts) (r.2.getD 0 .non) v fv → Q v H') {x dx : Addr} (hx : H1 x = none) (hdx : H1 dx = none) (hne : dx ≠ x) :
    spX X.K X.mg (.oO cl [] [] :: List.replicate n .sh) (.oO cl ns ts :: List.replicate n .no) .sh F (.ref x :: (vs ++ dvs)) (upd (upd H1 dx (.own x)) x (.ins C dx [])) (fun v H2 => v = .non ∧ Q (.ref x) H2) E0 := by
  have gr1 : Grow H1 (upd (upd H1 dx (.own x)) x (.ins C dx [])) := (Grow.upd hdx).trans (Grow.upd (by rw [upd_ne hne.symm]; exact hx))
  have hf := s1.fresh hx
  have le1 : Le (hide (R ++ fs1) H1) (hide ((R ++ fs1) ++ [x]) (upd (upd H1 dx (.own x)) x (.ins C dx []))) := hide_mono fun a o nn e => ⟨fun z => (List.mem_append.mp z).elim nn fun z => (by
    have : a = x := by simpa using z
    subst this
    rw [hx] at e
    cases e), gr1 a o e⟩
  have hlen := c.len _ _ e5
  have hl2 : (ds ++ dfl).length = n := by simpa using hlen
  have rfa := (rf.mono le1).append (rd (hide ((R ++ fs1) ++ [x]) (upd (upd H1 dx (.own x)) x (.ins C dx []))))
  have sl0 := Sl.of_sh (H := upd (upd H1 dx (.own x)) x (.ins C dx [])) rfa
  rw [hl2] at sl0
  have sA : SR X.K X.mg (R ++ fs1) (.oO cl [] [] :: List.replicate n .sh) (.obj cl [] :: (ds ++ dfl)) ((V.ref x :: (vs ++ dvs)).map some) (upd (upd H1 dx (.own x)) x (.ins C dx [])) [x] := by
    refine ⟨Sl.cons (f := [x]) (g := []) (.oO kc.mg upd_same ⟨rfl, rfl⟩ .nil) sl0, ?_, fun a ha => ?_⟩
    · rw [List.nodup_append]
      refine ⟨s1.nd, by simp, fun a ha b hb z => hf ?_⟩
      have : b = x := by simpa using hb
      rw [← this, ← z]; exact ha
    · obtain ⟨o, e, w⟩ := s1.own a ha
      exact ⟨o, gr1 a o e, w⟩
  refine ⟨R ++ fs1, _, [x], r.1, r.2, sA, e5, fun v H2 fs2 fv t2 s2 rp => ?_⟩
  rw [e6] at rp
  have hfv : fv = [] ∧ v = .non := by
    cases rp with
    | sh rp => cases rp; exact ⟨rfl, rfl⟩
  obtain ⟨rfl, rfl⟩ := hfv
  refine ⟨rfl, ?_⟩
  obtain ⟨v0, fo, f', ev, rp0, s3, mem⟩ := s2.take (i := 0) (t := .oO cl ns ts) rfl (by intro z; cases z)
  have ev0 : v0 = .ref x := by simpa using ev.symm
  subst ev0
  have gr : Grow H1 H2 := fun a o e => t2.ext a o (fun z => by
    have : a = x := by simpa using z
    subst this; rw [hx] at e; cases e) (gr1 a o e)
  have fr : ∀ a ∈ fo, H1 a = none := fun a ha => by
    rcases t2.sub a (by simpa using (mem a).mpr (.inl ha)) with z | z
    · have : a = x := by simpa using z
      subst this; exact hx
    · exact gr1.free z
  have nd3 := s3.nd
  rw [List.nil_append] at nd3 rp0 s3
  refine q _ H2 fs1 fo ⟨fun a o _ e => gr a o e, fun a ha => (List.mem_append.mp ha).elim (fun z => .inr (fr a z)) .inl, fun a o e => ⟨o, gr a o e⟩⟩ ⟨s1.sl.mono ?_ ?_, ?_, fun a ha => ?_⟩ (rp0.mono ?_ fun _ _ => rfl)
  · refine hide_mono fun a o nn e => ⟨fun z => ?_, gr a o e⟩
    simp only [List.mem_append] at z nn
    rcases z with (z | z) | z
    · rw [fr a z] at e; cases e
    · exact nn (.inl z)
    · exact nn (.inr z)
  · intro a ha
    obtain ⟨o, e, _⟩ := s1.sl.there a ha
    rw [e, gr a o e]
  · have := (List.nodup_append.mp nd3).1
    rw [← List.append_assoc] at this
    exact this
  · rcases List.mem_append.mp ha with z | z
    · exact s3.own a (by simp [z])
    · obtain ⟨o, e, w⟩ := s1.al a z
      exact ⟨o, gr a o e, w⟩
  · exact hide_sub fun a ha => by
      simp only [List.mem_append] at ha ⊢
      rcases ha with (z | z) | z <;> simp [z]
theorem do_make {g : Af} {dvs : List V} {dus : List Value} {dfl : List D} (kc : KCl X.K X.mg cl C) (c : CalI X.prog X.w X.K X.mg X.base f fd cl C k ps n ns ts dus F) (hr : Room (k + 1) X.A) (hg : Gl X cl) (ha : DA X (e :: es) τ g) (hd : Vals dvs dus) (rd : ∀ G, Rfs X.K X.mg G dfl dvs)
    (hdb : (cl == ("__debug__" : Str)) = false := by decide) (he : starEach (e :: es) X.env = (false, eval e X.env) :: starEach es X.env := by rfl) (hpl : (backTo pos (starEach es X.env)).any (·.1) = false := by rfl) :
    DO X (.Call (.Name cl p) (e :: es) [] pos) τ (oMake cl F dfl g) (.oO cl ns ts) := pe_imp (pe_make c.mks c.ok hr hg kc.mg c.bd hd (pass0 (X := X)) ha hdb he hpl) fun σ H Q ⟨R, ρ, fs, d, ρ', s, eq, q⟩ => by
  obtain ⟨w, e1, e2⟩ := bindO eq
  obtain ⟨ds, e3, e4⟩ := bindO e2
  obtain ⟨r, e5, e6⟩ := bindO e4
  obtain ⟨r1, r2⟩ := r
  cases r1 <;> first | (cases e6; done) | skip
  cases e6
  refine ⟨R, ρ, fs, w.1, w.2, s, e1, fun vs H1 fs1 t1 s1 rr => ?_⟩
  intro x dx hx hdx hne
  exact make_fin kc c rd s1 (rr.valsOf e3) e5 rfl (fun v H2 fs2 fv t2 s2 rp => q v H2 fs2 fv (t1.trans t2) s2 rp) hx hdx hne
end
/-! the rule for an __init__ -/
structure DfnM (K : PySem.W.Frag) (x qual : Str) (st : Stmt) (C : Addr) (ps : List Str) (dus : List Value) (f : Addr) (fd : FuncData) : Prop where
  fn : Fun K x qual st f fd
  at_ : PySem.W.findIn K (.ref C) x = some (some (.ref f))
  isfn : PySem.W.isFn K (.ref f) = true
  bd : Binds K fd ps dus
theorem DfnM.meth {K : PySem.W.Frag} {x qual : Str} {st : Stmt} {C : Addr} {ps : List Str} {dus : List Value} {f : Addr} {fd : FuncData} (D : DfnM K x qual st C ps dus f fd) : Meth K C x f := ⟨D.at_, D.isfn, D.fn.kp⟩
section
variable {P : Program} {w : World} {K : PySem.W.Frag} {mg : Str → Option Value} {base : Heap} {f C : Addr} {fd : FuncData} {x qual c : Str} {k j n : Nat} {ps : List Str} {sg : Sg} {ns : List Str} {ts : List Ty} {dus : List Value}
theorem calM_ok {b : Sf} {τ' : List Ty} {st : Stmt} {N : List Str} (D : DfnM K x qual st C ps [] f fd) (S : FnScope N ps (defScope st)) (γ : Gm) (m : Nat) (hn : sg.ps.length = ps.length := by rfl) (hm : sg.ps.length + m = N.length := by rfl)
    (hio : γ.io = ioOf (sg.ps.map Ty.io) := by rfl) (hret : γ.ret = sg.ret := by rfl) (hrty : γ.rty = sg.ps.map Ty.io ++ List.replicate m .no := by rfl) (hnx : leTb γ.rty τ' = true := by rfl) (hfall : sg.ret = .sh ∨ ∀ ρ ρ', b ρ ≠ some (.nx ρ'))
    (hbody : ∀ (cdv : Value) (A : Around) (outer : List PySem.Env) (s : Shared) (H : Hp) (E : XK), Room k (A.deeper (envOfC qual (defScope st) s.heap.objs.size f cdv)) →
      DSs (cxOf CX0 P w K mg base N qual (defScope st) f cdv A outer s H E).nox γ (defBody st) (sg.ps ++ List.replicate m .no) b τ') :
    CalM P w K mg base f fd C x (k + 1) ps sg (runF b sg.ps.length m) :=
  ⟨fn_ok D.fn S sg γ m hn hm hio hret hrty hnx hfall hbody, D.meth, D.bd, runF_len⟩
theorem calI_ok {b : Sf} {τ' : List Ty} {st : Stmt} {N : List Str} (Dm : DfnM K "__init__" qual st C ps dus f fd) (hmk : PySem.W.makesIn K C = true) (hkc : PySem.W.keepIn K (.ref C) = true) (S : FnScope N ps (defScope st)) (γ : Gm) (m : Nat) (hn : n + 1 = ps.length := by rfl) (hm : n + 1 + m = N.length := by rfl)
    (hio : γ.io = [0] := by rfl) (hret : γ.ret = .sh := by rfl) (hrty : γ.rty = .oO c ns ts :: List.replicate (n + m) .no := by rfl) (hnx : leTb γ.rty τ' = true := by rfl)
    (hbody : ∀ (cdv : Value) (A : Around) (outer : List PySem.Env) (s : Shared) (H : Hp) (E : XK), Room k (A.deeper (envOfC qual (defScope st) s.heap.objs.size f cdv)) →
      DSs (cxOf CX0 P w K mg base N qual (defScope st) f cdv A outer s H E).nox γ (defBody st) ((.oO c [] [] :: List.replicate n .sh) ++ List.replicate m .no) b τ') :
    CalI P w K mg base f fd c C (k + 1) ps n ns ts dus (runF b (n + 1) m) := by
  refine ⟨Dm.fn.ok S (fun vs H Q E ⟨R, ds, fs, d, ds', s, _⟩ => ?_) (fun cdv A outer s H vs Q E hr ⟨R, ds, fs, d, ds', sr, eF, q⟩ => ?_), ⟨hmk, Dm.at_, Dm.isfn, hkc⟩, Dm.bd, runF_len⟩
  · have := s.sl.len
    simp at this
    omega
  · have eF0 := eF
    unfold runF at eF
    have hvl : vs.length = n + 1 := by
      have := sr.sl.len
      simp at this
      omega
    by_cases hl : ds.length = n + 1
    · rw [if_pos hl] at eF
      obtain ⟨out, e1, e2⟩ := bindO eF
      refine ⟨_, hbody cdv A outer s H E hr, R, ds ++ List.replicate m .non, fs, out, ⟨?_, sr.nd, sr.al⟩, e1, ?_⟩
      · have := sr.sl.pad (m := m)
        unfold L2.start
        rw [show N.length - vs.length = m by omega]
        exact this
      · have st0 : L2.start N vs = vs.map some ++ List.replicate m none := by
          unfold L2.start
          rw [show N.length - vs.length = m by omega]
        have fin : ∀ {v : V} {σ' : L2.St} {H' : Hp} {fs' fv : List Addr} {ρ' : Rho} {dd : D}, Step H H' fs (fv ++ fs') → Kp γ.io (L2.start N vs) σ' → SR K mg (fv ++ R) γ.rty ρ' σ' H' fs' → Rp K mg H' (hide (fv ++ R ++ fs') H') .sh dd v fv → dd = d → ρ'.take (n + 1) = ds' → Q v H' := fun {v σ' H' fs' fv ρ' dd} t kp s' r e3 e4 => by
          subst e3
          refine q v H' fs' fv t ⟨?_, s'.nd, s'.al⟩ r
          have sl := s'.sl
          have hrty' : γ.rty = (.oO c ns ts :: List.replicate n .no) ++ List.replicate m .no := by
            rw [hrty, List.cons_append, List.replicate_append_replicate]
          rw [hrty'] at sl
          have sc := Sl.cut sl
          rw [show (TL.Ty.oO c ns ts :: List.replicate n TL.Ty.no).length = n + 1 by simp, e4] at sc
          have hl' := s'.sl.len
          rw [hrty'] at hl'
          simp at hl'
          refine sc.congr rfl (by simp; omega) fun i t et nt => ⟨rfl, ?_⟩
          have hi : i = 0 := by
            cases i with
            | zero => rfl
            | succ i =>
              have := List.getElem?_eq_some_iff.mp et
              obtain ⟨h1, h2⟩ := this
              simp at h2
              exact absurd h2.symm nt
          subst hi
          have h0 := kp 0 (by rw [hio]; simp)
          rw [List.getElem?_take_of_lt (by omega), h0, st0, List.getElem?_append_left (by simp [hvl])]
        cases out with
        | rt dd ρ' =>
          have e2' := Option.some.inj e2
          exact fun v σ' H' fs' fv t kp s' r => fin t kp s' (by rw [hret] at r; exact r) (congrArg Prod.fst e2') (congrArg Prod.snd e2')
        | nx ρ' =>
          have e2' := Option.some.inj e2
          exact fun σ' H' fs' t kp s' => by
            obtain ⟨fs2, s2, sub⟩ := s'.leT (leTb_ok hnx)
            exact fin (fv := []) (t.less sub) kp s2 (.sh .non) (congrArg Prod.fst e2') (congrArg Prod.snd e2')
        | bk ρ' => cases e2
        | ct ρ' => cases e2
    · rw [if_neg hl] at eF; cases eF
end
end TL

set_option maxHeartbeats 2000000
/-! defs that are called with nothing under way that guards a repr -/
namespace TL
open PySem PySem.Spec PyProof.Rows L2
structure FnG (P : Program) (w : World) (K : PySem.W.Frag) (mg : Str → Option Value) (base : Heap) (k : Nat) (f : Addr) (fd : FuncData) (ps : List Str) (sp : Sp) : Prop where
  lenG : ∀ vs H Q E, sp vs H Q E → vs.length = ps.length
  runG : ∀ (A : Around) (outer : List PySem.Env) (s : Shared) (H : Hp) (args : Args) (us : List Value) (vs : List V) (Q : VK) (E : XK), A.guards = some [] → Room k A → Env0 P w K mg base A outer s H →
    BindsTo s fd args (ps.zip us) → Vals vs us → sp vs H Q E → codeAny (model P w) A (.call (.ref f) args) (CR CX0 outer P w H s Q E) s
theorem FnG.mono {P : Program} {w : World} {K : PySem.W.Frag} {mg : Str → Option Value} {base : Heap} {j k : Nat} {f : Addr} {fd : FuncData} {ps : List Str} {sp : Sp} (F : FnG P w K mg base j f fd ps sp) (h : j ≤ k) : FnG P w K mg base k f fd ps sp :=
  ⟨F.lenG, fun A o s H a us vs Q E hg hr => F.runG A o s H a us vs Q E hg (hr.mono h)⟩
theorem FnG.of_ok {P : Program} {w : World} {K : PySem.W.Frag} {mg : Str → Option Value} {base : Heap} {k : Nat} {f : Addr} {fd : FuncData} {ps : List Str} {sp : Sp} (F : FnOk P w K mg base CX0 k f fd ps sp) : FnG P w K mg base k f fd ps sp :=
  ⟨F.len, fun A o s H a us vs Q E _ hr => F.run A o s H a us vs Q E hr⟩
theorem FnG.imp {P : Program} {w : World} {K : PySem.W.Frag} {mg : Str → Option Value} {base : Heap} {k : Nat} {f : Addr} {fd : FuncData} {ps : List Str} {sp sp' : Sp} (F : FnG P w K mg base k f fd ps sp) (h : ∀ vs H Q E, sp' vs H Q E → sp vs H Q E) : FnG P w K mg base k f fd ps sp' :=
  ⟨fun vs H Q E q => F.lenG vs H Q E (h _ _ _ _ q), fun A o s H a us vs Q E hg hr e0 hb r q => F.runG A o s H a us vs Q E hg hr e0 hb r (h _ _ _ _ q)⟩
section
variable {X : Cx} {k : Nat} {f : Addr} {fd : FuncData} {ps : List Str} {sp : Sp} {x : Str} {p pos : Pos} {e : Expr} {es : List Expr} {t : TA}
/-- the call of such a def -/
theorem pe_callG (gd : X.A.guards = some []) (F : FnG X.prog X.w X.K X.mg X.base k f fd ps sp) (hr : Room k X.A) (hg : Gl X x) (hm : X.mg x = some (.ref f)) (hk : PySem.W.keepIn X.K (.ref f) = true) (hb : Binds X.K fd ps [])
    (ha : PA X (e :: es) t) (hdb : (x == ("__debug__" : Str)) = false) (he : starEach (e :: es) X.env = (false, eval e X.env) :: starEach es X.env) (hpl : (backTo pos (starEach es X.env)).any (·.1) = false) : PE X (.Call (.Name x p) (e :: es) [] pos) (tCall sp [] E0 t) :=
  PE.mk fun pins s σ H Q I h => by
  have step : ∀ (us : List Value) (s1 : Shared), AP X pins σ (fun vs H1 => sp (vs ++ []) H1 Q E0) us s1 → wpAny (model X.prog X.w) X.A (call (.ref f) us) (EP X pins σ Q) X.xe s1 := fun us s1 ⟨vs, H1, I1, r, q0⟩ => by
    have q : sp vs H1 Q E0 := by simpa using q0
    have hl : us.length = ps.length := by
      rw [← r.length]
      exact F.lenG _ _ _ _ q
    have bt := hb s1 us I1.kIn (by simpa using hl)
    rw [List.append_nil] at bt
    refine wpAny_call (codeAny_mono (F.runG X.A X.stack s1 H1 _ us vs Q E0 gd hr I1.env0 bt r q) ?_)
    intro res s2 hq
    match res, hq with
    | .error ex, hq => exact pass0 (X := X) pins σ H1 s1 ex s2 I1 hq
    | .ok (.ret u), hq => exact I1.after hq
  refine wpAny_Call_Name_kw <| ld_glob I hg hm (PySem.W.callWith_K (h₀ := X.base) I.ok.mod.kin hk ?_ he hpl) hdb
  refine thn (ha.run pos pins s σ H _ I h) fun us s1 w => ⟨?_, step us s1 w⟩
  obtain ⟨_, _, I1, _⟩ := w
  exact I1.kIn
end
end TL

set_option maxHeartbeats 2000000
/-! the rule for a def that is called with nothing under way; the law itself -/
namespace TL
open PySem PySem.Spec PyProof.Rows L2
section
variable {P : Program} {w : World} {K : PySem.W.Frag} {mg : Str → Option Value} {base : Heap} {k : Nat} {f : Addr} {fd : FuncData} {ps N : List Str} {sp : Sp} {x qual : Str} {st : Stmt}
theorem Fun.okG (Fu : Fun K x qual st f fd) (S : FnScope N ps (defScope st)) (len : ∀ vs H Q E, sp vs H Q E → vs.length = ps.length)
    (hbody : ∀ (cdv : Value) (A : Around) (outer : List PySem.Env) (s : Shared) (H : Hp) (vs : List V) (Q : VK) (E : XK), A.guards = some [] → Room k (A.deeper (envOfC qual (defScope st) s.heap.objs.size f cdv)) → sp vs H Q E →
      ∃ t, PSs (cxOf CX0 P w K mg base N qual (defScope st) f cdv A outer s H E).nox (defBody st) t ∧ t { nx := fun _ H' => Q .non H', rt := Q } (start N vs) H) : FnG P w K mg base (k + 1) f fd ps sp := by
  obtain ⟨oc, od, kV, doc, pm, an, cdv, ct, osl, rfl, lk, hcd⟩ := Fu.ex
  refine FnG.mk len ?_
  intro A outer s H args us vs Q E gd hr e0 bt rv hs
  obtain ⟨t, hb0, hq⟩ := hbody cdv A outer s H vs Q E gd (hr.deeper _) hs
  have hb := hb0.nox
  have keep : ∀ b o, base.get? b = some o → s.heap.get? b = some o := fun b o h => (e0.bs b o h).1
  have KX := e0.mod.kin.keeps keep
  have lim := e0.mod.nolimit.keeps keep
  have kinds : ∀ y ∈ ps.zip us, (defScope st).names.lookup y.1 = some .local ∨ ((defScope st).names.lookup y.1 = some .cell ∧ ((cellsFrom (s.heap.objs.size + 1) (defScope st).names []).lookup y.1).isSome = true) := by
    intro y hy
    have hm : y.1 ∈ ps := (List.of_mem_zip (a := y.1) (b := y.2) hy).1
    exact (S.par y.1 hm).imp id fun q => ⟨q, PySem.W.cellsFrom_some _ _ _ (.inl q)⟩
  have done : ∀ {σ' : L2.St} {H' : Hp} {v : V} {u : Value} {s' : Shared}, Inv (cxOf CX0 P w K mg base N qual (defScope st) f cdv A outer s H E) [] σ' H' s' → RelV v u → Q v H' → CE outer P w H s Q u s' :=
    fun {σ' H' v u s'} J r q => ⟨v, H', J.os, J.bare, J.base, J.hok, r, q⟩
  refine codeAny_call_function hr.depth (KX _ _ lk) rfl S.co S.gen rfl (PySem.W.codeRec_of KX hcd) (bt _ _ _ _ <| wpAny_newFunctionEnv_cells S.kind kinds ?_)
  rintro env he s1 c1
  subst he
  have I := inv_start (CX := CX0) (E := E) S hr.hd e0 (len _ _ _ _ hs) rv c1
  refine ⟨lim.keeps c1.toInCall.keep, codeAny_func ?_⟩
  refine wpAny_mono (hb.run [] s1 (start N vs) H _ I hq) (fun fl s' z => ?_) (fun e s' z => z)
  cases fl with
  | next =>
    obtain ⟨σ1, H1, J1, q1⟩ := z
    exact done (v := V.non) (u := Value.none) J1 rfl q1
  | ret u =>
    obtain ⟨v1, σ1, H1, J1, r1, q1⟩ := z
    exact done J1 r1 q1
  | brk => obtain ⟨_, _, _, q1⟩ := z; exact q1.elim
  | cont => obtain ⟨_, _, _, q1⟩ := z; exact q1.elim
end
/-- the law's own call, from the claim's caller -/
theorem law_callG {P : Program} {w : World} {K : PySem.W.Frag} {mg mb : Str → Option Value} {k : Nat} {fa a : Addr} {fd : FuncData} {x : Str} {sp : Sp} {s₁ : Shared} {vs : List Value} {ns : List Int}
    (KX : K.In s₁.heap) (hns : s₁.heap.Ns mainGlobals mg) (hb : s₁.heap.Ns builtinsNs mb) (hbb : ∀ x : Str, x ≠ "__name__" → mb x = bootBuiltins x) (hlim : s₁.heap.NoLimit) (hg : s₁.gens = #[])
    (ha : s₁.heap.get? a = some { cls := .type "list", data := .seq vs.toArray }) (hi : IntsAre vs ns) (hl : ns.length ≤ sizeLine) (hr : Room k callerA)
    (F : ∀ base : Heap, K.In base → base.Ns mainGlobals mg → FnG P w K mg base k fa fd [x] sp) (hbind : ∀ (s : Shared) (u : Value), BindsTo s fd ⟨[u], []⟩ [(x, u)])
    (hsp : ∀ H : Hp, SqL K H a (ns.map V.int) → sp [.ref a] H (fun v _ => v = .bl true) E0) :
    codeAny (model P w) callerA (.call (.ref fa) ⟨[.ref a], []⟩) (fun r s' => r = .ok (.ret (.bool true)) ∧ OldK s₁.heap s'.heap ∧ s'.os = s₁.os ∧ AllBare s'.gens) s₁ := by
  -- what is tracked: nothing, or the script as a frozen list
  have main : ∀ H : Hp, (∀ b, H b = none ∨ (b = a ∧ ∃ ob xs, H b = some (.frz ob (.lst xs)))) → SqL K H a (ns.map V.int) → HOk P w H s₁.heap → (H a ≠ none → K.lookup a = none) →
      codeAny (model P w) callerA (.call (.ref fa) ⟨[.ref a], []⟩) (fun r s' => r = .ok (.ret (.bool true)) ∧ OldK s₁.heap s'.heap ∧ s'.os = s₁.os ∧ AllBare s'.gens) s₁ := by
    intro H only hS ok own
    have free : ∀ {b : Addr}, b ≠ a → H b = none := fun {b} n => (only b).elim id fun z => absurd z.1 n
    have nodict : ∀ {b : Addr} {o : Obj} {es : Array DictEntry} {ep : Nat}, s₁.heap.get? b = some o → o.data = .dict es ep → H b = none := by
      intro b o es ep e d
      refine free fun z => ?_
      rw [z, ha] at e
      cases e
      exact Data.noConfusion d
    have spaces : ∀ {b : Addr} {m : Str → Option Value}, s₁.heap.Ns b m → (hidT s₁.heap H).Ns b m := by
      intro b m h
      obtain ⟨o, es, ep, e, d, r⟩ := h
      exact ⟨o, es, ep, hidT_get e (nodict e d), d, r⟩
    have KB : K.In (hidT s₁.heap H) := by
      intro b o e
      refine hidT_get (KX b o e) ?_
      by_cases z : b = a
      · rcases only b with q | ⟨_, ob, xs, q⟩
        · exact q
        · have := own (by rw [← z, q]; simp)
          rw [← z, e] at this; cases this
      · exact free z
    obtain ⟨mc, l1, l2⟩ := hlim
    have env : Env0 P w K mg (hidT s₁.heap H) callerA [] s₁ H :=
      { frames := rfl, mod := ⟨KB, spaces hns, ⟨mb, spaces hb, hbb⟩, mc, spaces l1, l2⟩, bs := fun b o e => of_hidT e, bsz := Nat.le_of_eq (hidT_size _ _), funs := trivial, frf := fun b hb => (nomatch hb), hok := ok, bare := .of_eq hg }
    have run := (F _ KB (spaces hns)).runG callerA [] s₁ H ⟨[.ref a], []⟩ [.ref a] [.ref a] (fun v _ => v = .bl true) E0 rfl hr env (hbind s₁ (.ref a)) (.cons rfl .nil) (hsp H hS)
    refine codeAny_mono run ?_
    intro r s' z
    match r, z with
    | .ok (.ret u), ⟨v, H', os, bare, un, ok', rel, q⟩ =>
      have q : v = .bl true := q
      subst q
      cases (show u = Value.bool true from rel)
      refine ⟨rfl, OldK.of_keep ?_, os, bare⟩
      intro b o e
      rcases only b with q | ⟨_, ob, xs, q⟩
      · exact un.keep b o e q (fun z => nomatch z) (by simp)
      · have old := (ok b _ q).1
        rw [e] at old
        cases old
        exact (ok' b _ (un.frzs b _ _ q)).1
  have rv := vals_ints hi
  have lenV : vs.length = ns.length := hi.length
  by_cases hk : ∃ o, K.lookup a = some o
  · obtain ⟨o, hk⟩ := hk
    have e := KX a o hk
    rw [ha] at e
    cases e
    have sq : SqL K (fun _ => none) a (ns.map V.int) := Or.inr ⟨_, vs.toArray, _, hk, rfl, rfl, rfl, by simpa [lenV] using hl, by simpa using rv⟩
    exact main (fun _ => none) (fun _ => .inl rfl) sq (fun b u z => nomatch z) fun z => (z rfl).elim
  · have hk : K.lookup a = none := by
      cases e : K.lookup a with
      | none => rfl
      | some o => exact (hk ⟨o, e⟩).elim
    let u0 : HO := .frz { cls := .type "list", data := .seq vs.toArray } (.lst (ns.map V.int))
    have at_ : ∀ {b : Addr} {u : HO}, (if b = a then some u0 else none) = some u → b = a ∧ u = u0 := by
      intro b u z
      by_cases h : b = a
      · rw [if_pos h] at z; cases z; exact ⟨h, rfl⟩
      · rw [if_neg h] at z; cases z
    refine main (fun b => if b = a then some u0 else none) ?_ (.inl (.inr ⟨{ cls := .type "list", data := .seq vs.toArray }, if_pos rfl⟩)) ?_ fun _ => hk
    · intro b
      by_cases h : b = a
      · exact .inr ⟨h, _, _, if_pos h⟩
      · exact .inl (if_neg h)
    · intro b u z
      obtain ⟨h, rfl⟩ := at_ z
      subst h
      exact ⟨ha, by simpa using hl, vs, _, rv, ha⟩
theorem walk_ofG {l : PySem.W.OpenLaw} {k : Nat} {q : Program} {loose : List Str} {XP : (Str → Option Value) → Heap → Prop} {YP : World → Heap → Prop} {d : DefRec} {K : Params → PySem.W.Frag} {x : Str}
    (hn : l.most = some 63) (hdf : d.params.defaults = []) (hr : Room k callerA) (hY : ∀ (w : World) (h : Heap), YP w h → (K w.params).In h)
    (F : ∀ (w : World) (mg : Str → Option Value) (fa : Addr) (h : Heap), (K w.params).In h → h.Ns mainGlobals mg → mg d.name = some (.ref fa) →
      ∃ fd : FuncData, (∀ (s : Shared) (u : Value), BindsTo s fd ⟨[u], []⟩ [(x, u)]) ∧ ∀ base : Heap, (K w.params).In base → base.Ns mainGlobals mg → FnG l.prog w (K w.params) mg base k fa fd [x] (spL (K w.params))) :
    PySem.W.WalkO q loose XP YP l.row.toRowW d [] (fun f vs => PySem.call f vs) := by
  refine Att.attach_call hn hdf ?_
  intro w s₀ s₁ mg mb fa o pm cd doc a vs ns G Y ho hd hcd hmg hobj hints hlen hg
  obtain ⟨fd, hb, hF⟩ := F w mg fa _ (hY w _ Y) G.T.g hmg
  refine law_callG (hY w _ Y) G.T.g G.T.b G.T.builtins G.T.nolimit hg hobj hints (Nat.le_trans hlen (by decide)) hr hF hb ?_
  exact fun H hS => ⟨a, ns, rfl, hS, hlen, fun _ => rfl⟩
theorem toLG {P : Program} {w : World} {K : PySem.W.Frag} {mg : Str → Option Value} {fa : Addr} {k : Nat} {F : Fm} {B : FuncData → Prop} (h : lawF F)
    (x : ∃ fd : FuncData, B fd ∧ ∀ base : Heap, K.In base → base.Ns mainGlobals mg → FnG P w K mg base k fa fd ["script"] (spD K mg sgL F)) :
    ∃ fd : FuncData, B fd ∧ ∀ base : Heap, K.In base → base.Ns mainGlobals mg → FnG P w K mg base k fa fd ["script"] (spL K) := by
  obtain ⟨fd, b, f⟩ := x
  exact ⟨fd, b, fun base h1 h2 => (f base h1 h2).imp (law_imp h)⟩
end TL

set_option maxHeartbeats 2000000
/-! dict comprehensions whose keys are tuples -/
namespace TL
open PySem PySem.Spec PyProof.Rows L2
section
variable {X : Cx}
theorem dictSetT {pins : List (Addr × Obj)} {σ : L2.St} {H : Hp} {s : Shared} {E : Value → Shared → Prop} {D b : Addr} {kvs : List (List Key × V)} {ks : List Key} {v : V} {r : Value} {Q : Unit → Shared → Prop} (hu : X.A.units + 1 < cLine) (I : Inv X pins σ H s) (hD : H D = some (.dT kvs))
    (hb : H b = some (.tup (ks.map kV))) (hz : kvs.length < sizeLine) (rv : RelV v r) (h : ∀ s', Inv X pins σ (upd H D (.dT (putK kvs ks v))) s' → Q () s') : wpAny (model X.prog X.w) X.A (dictSet D (.ref b) r) Q E s := by
  obtain ⟨z, hd, xs, rel, dd⟩ := dt_of I.hok hD
  have room : (tupleKind (mixKind X.prog X.w)).room X.A := by
    show X.A.units < cLine
    omega
  refine wpAny_dictSet_heap (hsz := (Paired.length rel).symm ▸ z) room (key_of I.hok hb) dd fun h' dd' sb => h _ ?_
  obtain ⟨q, es, ep, hq, p2, p3, p4, _, p5⟩ := dd'
  have len : (putK kvs ks v).length ≤ kvs.length + 1 := length_putK kvs ks v
  have keep : ∀ c ys, H c = some (.tup ys) → upd H D (.dT (putK kvs ks v)) c = some (.tup ys) := fun c ys ec => (upd_ne (ne_of ec hD fun z => nomatch z)).trans ec
  exact d_write I (hD ▸ trivial) sb ⟨q, hq⟩ ⟨by omega, hd, _, (rel.put ks hb rv).keeps keep, q, es, ep, hq, p2, p3, p4, p5⟩
/-- a value put at a key that is a tuple, then W -/
def putsT (D : Addr) (W : Hp → Prop) (y z : V) (H : Hp) : Prop := ∃ kvs ks b, y = .ref b ∧ H b = some (.tup (ks.map kV)) ∧ H D = some (.dT kvs) ∧ kvs.length < sizeLine ∧ W (upd H D (.dT (putK kvs ks z)))
def turnT (D : Addr) (g : TG) (tt : TT) (tk tv : TE) (σ0 : L2.St) (vs : List Nat) (W : Hp → Prop) (x : V) (H : Hp) : Prop :=
  g x (wipe σ0 vs) H fun σ1 Ha => wipe σ1 vs = wipe σ0 vs ∧ tt σ1 Ha fun c Hb => if c = true then tk σ1 Hb fun y Hc => tv σ1 Hc fun z Hd => putsT D W y z Hd else W Hb
def tDcT (wi : TI) (g : TG) (tt : TT) (tk tv : TE) (vs : List Nat) : TE := fun σ0 H0 Q => wi σ0 H0 fun J H1 => ∀ D, H1 D = none → ∃ W : Nat → Nat → Hp → Prop, (∃ m, W 0 m (upd H1 D (.dT []))) ∧
  ∀ i m H, W i m H → (J.stop i H ∧ Q (.ref D) H) ∨ (J.go i H ∧ ∃ N : Hp → Prop, (∀ H', N H' → ∃ m', m' < m ∧ W (i + 1) m' H') ∧ ∀ x H', J.yld i H x H' → turnT D g tt tk tv σ0 vs N x H')
abbrev InBlk (X : Cx) (scope : Scope) (P : Cx → Prop) : Prop := ∀ (s : Shared) (H : Hp) (C : Addr) (cl : List (Str × Addr)) (fp : List Addr), P (X.blk s H scope (compEnvC scope cl C X.env) fp)
theorem pe_dcT {kx vx tg iter : Expr} {ifs : List Expr} {scope : Scope} {own : List (Str × Nat)} {pos : Pos} {wi : TI} {g : TG} {tt : TT} {tk tv : TE} (hu : X.A.units + 1 < cLine) (hc : X.calm = true) (hN : X.N.Nodup) (hi : PI X tg iter wi) (ok : BlkOk X.N X.env.scope scope own)
    (hg : InBlk X scope fun Y => PG Y tg g) (ht : InBlk X scope fun Y => PTs Y ifs tt) (hk : InBlk X scope fun Y => PE Y kx tk) (he : InBlk X scope fun Y => PE Y vx tv) (hs : ∀ x, foldedSetIterable iter X.env x = pure x) :
    PE X (.DictComp kx vx [⟨tg, iter, ifs, 0⟩] scope pos) (tDcT wi g tt tk tv (own.map (·.2))) := by
  refine PE.mk fun pins s0 σ0 H0 Q I0 h0 => ?_
  rw [arm_eval_DictComp]
  have free : ∀ y ∈ scope.names, y.2 = .free → ∃ c, X.env.cells.lookup y.1 = some c := by
    intro y hy e
    exact I0.ok.has _ ((ok.free y hy e).imp id id)
  have kinds : ∀ y ∈ scope.names, scope.names.lookup y.1 = some y.2 := fun y hy => ok.uniq y hy
  refine wpAny_comprehension_free (use := none) rfl hs (closure_ok free) ok.kind (fun y hy e => (kinds y hy).trans (congrArg some e)) (thn (hi.run pins s0 σ0 H0 _ I0 h0) ?_)
  intro xv sa pa
  refine thn pa ?_
  rintro itv sb ⟨it, fp, tn, J, H2, rfl, I2, T, stb, fb, q⟩
  refine wpAny_newObj_type (newEnv_comp ?_)
  generalize eD : sb.heap.objs.size = D
  have new : H2 D = none := I2.hok.fresh (Nat.le_of_eq eD)
  obtain ⟨W, ⟨m0, w0⟩, turn⟩ := q D new
  generalize esc : ({ sb with heap := sb.heap.push { cls := .type "dict", data := .dict #[] } } : Shared) = sc
  have hsc : sc.heap = sb.heap.push { cls := .type "dict", data := .dict #[] } := by rw [← esc]
  have I3 : Inv X pins σ0 (upd H2 D (.dT [])) sc := by
    subst esc
    refine I2.laid (t' := sb.toks) (fun b o => Heap.get?_push_of_some _) (Nat.le_of_eq eD) ?_
    subst eD
    exact dt_empty sb.heap I2.big
  have below : ∀ b ∈ fp, b < sb.heap.objs.size := fun b hb => by
    obtain ⟨o, e, _⟩ := T.obj _ _ stb b hb
    exact Heap.lt_size e
  have fc : ∀ b ∈ fp, FpOk X pins (upd H2 D (.dT [])) b ∧ b < sc.heap.objs.size := by
    intro b hb
    have lt := below b hb
    have ne : b ≠ D := eD ▸ Nat.ne_of_lt lt
    refine ⟨⟨(upd_ne ne).trans (fb b hb).1, (fb b hb).2⟩, ?_⟩
    rw [hsc, Heap.size_push]
    exact Nat.lt_succ_of_lt lt
  have stc : tn 0 sc.heap := T.keep _ _ _ stb fun b _ o e => hsc ▸ Heap.get?_push_of_some _ e
  have I4 := block_start I3 ok hN fc
  let cells := cellsFrom (sc.heap.objs.size + 1) scope.names (cloFrom X.env.cells scope.names [])
  have rg := hg sc (upd H2 D (.dT [])) sc.heap.objs.size cells fp
  have rt := ht sc (upd H2 D (.dT [])) sc.heap.objs.size cells fp
  have rk := hk sc (upd H2 D (.dT [])) sc.heap.objs.size cells fp
  have re := he sc (upd H2 D (.dT [])) sc.heap.objs.size cells fp
  show codeAny _ _ (.compStart (.DictComp kx vx [⟨tg, iter, ifs, 0⟩] scope pos) 0 (.ref it) (.ref D) (compEnvC scope cells sc.heap.objs.size X.env)) (compPost (model X.prog X.w) X.A X.xe none (EP X pins σ0 Q) (.ref D) sc.heap.objs.size) { sc with heap := pushCells (sc.heap.push { cls := .type "dict", data := .dict #[] }) scope.names }
  have hcell : cells = cellsFrom (sc.heap.objs.size + 1) scope.names (cloFrom X.env.cells scope.names []) := rfl
  rw [← hcell] at I4
  generalize ece : compEnvC scope cells sc.heap.objs.size X.env = ce at I4 rg rt rk re ⊢
  have cloc : ce.locals = sc.heap.objs.size := by rw [← ece]; rfl
  generalize eH3 : upd H2 D (.dT []) = H3 at I3 I4 rg rt rk re w0 fc
  generalize esd : ({ sc with heap := pushCells (sc.heap.push { cls := .type "dict", data := .dict #[] }) scope.names } : Shared) = sd at I4 ⊢
  have std : tn 0 sd.heap := T.keep _ _ _ stc fun b _ o e => esd ▸ pushCells_keeps _ _ _ _ (Heap.get?_push_of_some _ e)
  have away : ∀ {σ' : L2.St} {H' : Hp} {s' : Shared}, Inv (X.blk sc H3 scope ce fp) [] σ' H' s' → (∀ b ∈ fp, H' b = none) → ∀ b ∈ fp, FpOk (X.blk sc H3 scope ce fp) [] H' b := by
    intro σ' H' s' J1 hn b hb
    refine ⟨hn b hb, (J1.ok.exf b hb).1, J1.ok.exfs b hb, .inl hb, fun x c e => (J1.ok.exf b hb).2 x c e, fun p hp => ?_⟩
    exact absurd hp (by show p ∉ ([] : List (Addr × Obj)) ++ []; simp)
  suffices loop : codeAny (model X.prog X.w) X.A (.compLoop (.DictComp kx vx [⟨tg, iter, ifs, 0⟩] scope pos) 0 (.ref it) (.ref D) ce) (compPost (model X.prog X.w) X.A X.xe none (EP X pins σ0 Q) (.ref D) sc.heap.objs.size) sd from
    codeAny_compStart_dict loop (T.self X.A 0 _ _ _ std loop)
  let At : Nat → Shared → Prop := fun n s' => ∃ i H', Inv (X.blk sc H3 scope ce fp) [] (wipe σ0 (own.map (·.2))) H' s' ∧ tn i s'.heap ∧ (∀ b ∈ fp, H' b = none) ∧ W i n H'
  have fpnone : ∀ b ∈ fp, H3 b = none := fun b hb => (fc b hb).1.1
  refine compLoop_anyD At ?_ m0 ⟨0, H3, I4, std, fpnone, w0⟩
  rintro n se ⟨i, H5, I5, ste, ne, w5⟩
  rcases turn i n H5 w5 with ⟨stop, fin⟩ | ⟨go, N, hN2, step⟩
  · refine thnF (T.done (X.blk sc H3 scope ce fp) rfl rfl rfl hc i [] se _ H5 (fun _ _ => False) I5 (away I5 ne) ste stop) ?_
    rintro r sf ⟨rfl, I6⟩
    have I7 : Inv X pins σ0 H5 sf := I3.call' (ch := fp) I6.os I6.base I6.hok I6.bare fun b hb => by
      obtain ⟨_, q1, q2, q3, q4, q5⟩ := (fc b hb).1
      exact ⟨q3, q1, q4, q5⟩
    have nC : H5 sc.heap.objs.size = none := cloc ▸ (show H5 ce.locals = none from I6.free)
    obtain ⟨mm, hn, _⟩ := I6.loc
    have ns : sf.heap.Ns sc.heap.objs.size mm := cloc ▸ (show sf.heap.Ns ce.locals mm from hn)
    refine ⟨mm, ns, fun h'' keep => ?_⟩
    obtain ⟨p0, p1, p2, p3, p4, p5⟩ := I3.fpOk (H' := H5) (Nat.le_refl _) nC
    exact ⟨.ref D, H5, I7.turned (t' := sf.toks) (fun b o hb e => (keep.2 b hb).trans e) p0 p1 p3 p4 p5, rfl, fin⟩
  · refine thnF (T.item (X.blk sc H3 scope ce fp) rfl rfl rfl hc i [] se _ H5 (fun _ _ => False) I5 (away I5 ne) ste go) ?_
    rintro r sf ⟨u, rfl, h6⟩
    refine thnF h6 ?_
    rintro _ sg ⟨x, H7, I7, r7, y7, stg, ng⟩
    have I8 := I7.pinned (away I7 ng) (T.obj _ _ stg)
    have next : ∀ {σ' : L2.St} {s' : Shared} {H' : Hp}, wipe σ' (own.map (·.2)) = wipe σ0 (own.map (·.2)) → Inv (X.blk sc H3 scope ce fp) ([] ++ pinsAt fp sg.heap) σ' H' s' → N H' → ∃ m, m < n ∧ At m s' := by
      intro σ' s' H' ew J1 nx
      obtain ⟨m', lt, w'⟩ := hN2 H' nx
      have pin : ∀ b ∈ fp, ∀ o, sg.heap.get? b = some o → s'.heap.get? b = some o ∧ H' b = none := by
        intro b hb o e
        have z := J1.pin (b, o) (List.mem_append_right _ (List.mem_append_right _ (mem_pinsAt hb e)))
        exact ⟨z.1, z.2.1⟩
      have len : (wipe σ0 (own.map (·.2))).length = σ'.length := (congrArg List.length ew).symm.trans (wipe_length _ _)
      refine ⟨m', lt, i + 1, H', (J1.unpinned (pins := [])).weak len (fun j v e => ?_), T.keep _ _ _ stg fun b hb o e => (pin b hb o e).1, fun b hb => ?_, w'⟩
      · exact (wipe_some (ew ▸ e)).1
      · obtain ⟨o, e, _⟩ := T.obj _ _ stg b hb
        exact (pin b hb o e).2
    refine thnF (rg.run _ sg _ H7 x u _ I8 r7 (step x H7 y7)) ?_
    rintro _ sh ⟨σ8, H8, I9, ew, q8⟩
    refine thnF (rt.run _ sh σ8 H8 _ I9 q8) ?_
    rintro c si ⟨H9, I10, q9⟩
    cases c with
    | false =>
      simp only [Bool.false_eq_true, if_false] at q9 ⊢
      exact next ew I10 q9
    | true =>
      simp only [if_true] at q9 ⊢
      refine thnF (rk.run _ si σ8 H9 _ I10 q9) ?_
      rintro yk sj ⟨y, H10, I11, ry, q10⟩
      refine thnF (re.run _ sj σ8 H10 _ I11 q10) ?_
      rintro yv sk ⟨z, H11, I12, rz, kvs, ks, b, rfl, hb, hD, lt, nx⟩
      cases (show yk = Value.ref b from ry)
      exact dictSetT (X := X.blk sc H3 scope ce fp) hu I12 hD hb lt rz fun sl I13 => next ew I13 nx
end
end TL

set_option maxHeartbeats 2000000
namespace TL
open PySem PySem.Spec PyProof.Rows L2
def stepDc (own : List Nat) (g : Gf) (tt : Tf) (fk fv : Ef) (d : D) (ρ : Rho) : Option (Option (List D × D) × Rho) := (g d ρ).bind fun ρ1 => (tt ρ1).bind fun p => if p.1 then (fk p.2).bind fun q => (fv q.2).bind fun r => match q.1, r.1 with
  | .v (.tup l), .v dv => if l.isEmpty then none else (keysN l).bind fun _ => some (some (l, dv), kill own r.2)
  | _, _ => none
  else some (none, kill own p.2)
def dcF (step : D → Rho → Option (Option (List D × D) × Rho)) : List D → List (D × D) → Rho → Option (List (D × D) × Rho)
  | [], acc, ρ => some (acc, ρ)
  | d :: ds, acc, ρ => (step d ρ).bind fun r => match r.1 with
    | none => dcF step ds acc r.2
    | some p => if okLen (acc.length + 1) then dcF step ds (dPutL acc (.tup p.1) p.2) r.2 else none
def oDcT (own : List Nat) (it : Itf) (g : Gf) (tt : Tf) (fk fv : Ef) : Of := fun ρ => (it ρ).bind fun p => (dcF (stepDc own g tt fk fv) p.1 [] p.2).bind fun r => some (.dtt r.1, r.2)
section
variable {X : Cx} {τ : List Ty}
theorem tDcT_of {it : Itf} {g : Gf} {tt : Tf} {fk fv : Ef} {τg : List Ty} (own : List Nat) (hown : ∀ i ∈ own, τ[i]? = some .no) (hlen : τg.length = τ.length) (hkg : killT own τg = τ) : ∀ σ H Q, tO X τ (oDcT own it g tt fk fv) (.oT .sh) σ H Q →
    tDcT (tI X τ it) (tG X (others τ.length own) τ g τg) (tT X τg tt) (tD X τg fk) (tD X τg fv) own σ H Q := fun σ0 H0 Q ⟨R, ρ0, fs0, dd, ρe, s0, e, q⟩ => by
  obtain ⟨w, e1, e2⟩ := bindO e
  obtain ⟨res, e5, e6⟩ := bindO e2
  cases e6
  refine ⟨R, ρ0, fs0, w.1, w.2, s0, e1, fun J H1 fs1 t1 s1 wk => fun Dd hD => ?_⟩
  obtain ⟨n1, n2, n3⟩ := SR.newO (t := .oT .sh) (d := .dtt []) s1 hD (o := .dT []) trivial fun G => .oT upd_same rfl .nil
  have hlσ : ∀ {R' : List Addr} {ρ' : Rho} {H' : Hp} {fs' : List Addr} {σ' : L2.St} {τx : List Ty}, SR X.K X.mg R' τx ρ' σ' H' fs' → σ'.length = τx.length := fun s => by
    have := s.sl.len
    omega
  refine ⟨fun i m H => ∃ ρ fs kds kvs, Step H1 H fs1 ([Dd] ++ fs) ∧ SR X.K X.mg ([Dd] ++ R) τ ρ σ0 H fs ∧ Le (hide (R ++ fs1) H1) (hide ([Dd] ++ R ++ fs) H) ∧ H Dd = some (.dT kvs) ∧
      kds.map (·.1) = kvs.map (fun p => keysD p.1) ∧ Rfs X.K X.mg (hide ([Dd] ++ R ++ fs) H) (kds.map (·.2)) (kvs.map (·.2)) ∧ dcF (stepDc own g tt fk fv) (w.1.drop i) kds ρ = some res ∧ m + i = w.1.length,
    ⟨w.1.length, w.2, fs1, [], [], n3, n1, hide_upd' hD (fun a z => by simpa using z), upd_same, rfl, .nil, by simpa using e5, by omega⟩, fun i m H ⟨ρ, fs, kds, kvs, tS, s, le, hDd, hn, rf0, el1, em⟩ => ?_⟩
  obtain ⟨wgo, wst⟩ := wk i ([Dd] ++ R ++ fs) H s.own le
  by_cases hi : i < w.1.length
  · have ed := List.getElem?_eq_getElem hi
    generalize w.1[i] = d at ed
    rw [drop_get ed] at el1
    obtain ⟨st, es1, es2⟩ := bindO (show (stepDc own g tt fk fv d ρ).bind _ = some res from el1)
    obtain ⟨ρ1, eg, es5⟩ := bindO (show (g d ρ).bind _ = some st from es1)
    obtain ⟨pt, et, es6⟩ := bindO es5
    obtain ⟨go, yl⟩ := wgo d ed
    refine .inr ⟨go, fun H' => ∃ ρ fs kds kvs, Step H1 H' fs1 ([Dd] ++ fs) ∧ SR X.K X.mg ([Dd] ++ R) τ ρ σ0 H' fs ∧ Le (hide (R ++ fs1) H1) (hide ([Dd] ++ R ++ fs) H') ∧ H' Dd = some (.dT kvs) ∧
        kds.map (·.1) = kvs.map (fun p => keysD p.1) ∧ Rfs X.K X.mg (hide ([Dd] ++ R ++ fs) H') (kds.map (·.2)) (kvs.map (·.2)) ∧ dcF (stepDc own g tt fk fv) (w.1.drop (i + 1)) kds ρ = some res,
      fun H' ⟨a0, a1, a2, a3, a4, a5, a6, a7, a8, a9, a10⟩ => ⟨m - 1, by omega, a0, a1, a2, a3, a4, a5, a6, a7, a8, a9, a10, by omega⟩, fun x H' hy => ?_⟩
    obtain ⟨gr, rf⟩ := yl x H' hy
    have sw : SR X.K X.mg ([Dd] ++ R) τ ρ (wipe σ0 own) H' fs := by
      have s' := s.grow gr
      refine ⟨s'.sl.congr rfl (wipe_length _ _) fun j tj ej nj => ⟨rfl, ?_⟩, s'.nd, s'.al⟩
      exact wipe_out fun z => by rw [hown j z] at ej; exact nj (Option.some.inj ej).symm
    refine ⟨[Dd] ++ R, ρ, fs, d, ρ1, sw, rf, eg, fun σ2 fs2 sub2 k2 s2 => ⟨?_, ?_⟩⟩
    · apply List.ext_getElem?
      intro j
      have hl2 : σ2.length = σ0.length := by rw [hlσ s2, hlσ s, hlen]
      by_cases hj : j ∈ own
      · by_cases hjl : j < σ0.length
        · rw [wipe_in hj (by rw [hl2]; exact hjl), wipe_in hj hjl]
        · rw [List.getElem?_eq_none (by rw [wipe_length, hl2]; omega), List.getElem?_eq_none (by rw [wipe_length]; omega)]
      · rw [wipe_out hj, wipe_out hj]
        by_cases hjl : j < τ.length
        · rw [k2 j (by unfold others; simp [hjl, hj]), wipe_out hj]
        · rw [List.getElem?_eq_none (by rw [hlσ s2, hlen]; omega), List.getElem?_eq_none (by rw [hlσ s]; omega)]
    · have t2 : Step H H' fs fs2 := (Step.grow gr fs).less sub2
      refine ⟨[Dd] ++ R, ρ1, fs2, pt.1, pt.2, s2, et, fun H3 fs3 t3 s3 => ?_⟩
      have back : ∀ {R' : List Addr} {ρ' : Rho} {H' : Hp} {fs' : List Addr}, SR X.K X.mg R' τg ρ' σ2 H' fs' → ∃ fs'', SR X.K X.mg R' τ (kill own ρ') σ0 H' fs'' ∧ ∀ a ∈ fs'', a ∈ fs' := fun s' => by
        obtain ⟨fs'', sk, sb⟩ := s'.killS own
        rw [hkg] at sk
        refine ⟨fs'', ⟨sk.sl.congr rfl ?_ fun j tj ej nj => ⟨rfl, ?_⟩, sk.nd, sk.al⟩, sb⟩
        · rw [hlσ s, hlσ sk]
        · have hj : j ∉ own := fun z => by rw [hown j z] at ej; exact nj (Option.some.inj ej).symm
          have hjl : j < τ.length := (List.getElem?_eq_some_iff.mp ej).1
          rw [k2 j (by unfold others; simp [hjl, hj]), wipe_out hj]
      have stepT : ∀ {Hx : Hp} {fx : List Addr}, Step H Hx fs fx → Step H1 Hx fs1 ([Dd] ++ fx) := fun {Hx fx} t4 => by
        refine ⟨fun a o n e => ?_, fun a ha => ?_, fun a o e => ?_⟩
        · by_cases z : a ∈ [Dd] ++ fs
          · rcases tS.sub a z with q | q
            · exact absurd q n
            · rw [q] at e; cases e
          · exact t4.ext a o (fun h => z (List.mem_append_right _ h)) (tS.ext a o n e)
        · rcases List.mem_append.mp ha with z | z
          · exact tS.sub a (List.mem_append_left _ z)
          · rcases t4.sub a z with q | q
            · exact tS.sub a (List.mem_append_right _ q)
            · refine .inr ?_
              cases e : H1 a with
              | none => rfl
              | some o =>
                obtain ⟨o', e'⟩ := tS.ne a o e
                rw [e'] at q; cases q
        · obtain ⟨o', e'⟩ := tS.ne a o e
          exact t4.ne a o' e'
      have held : ∀ {Hx : Hp} {fx : List Addr}, Step H Hx fs fx → Hx Dd = some (.dT kvs) := fun {Hx fx} t4 => t4.ext Dd _ (fun z => (List.nodup_append.mp s.nd).2.2 Dd (by simp) Dd z rfl) hDd
      cases hp : pt.1 with
      | false =>
        rw [hp] at es6
        cases es6
        obtain ⟨fs4, s4, sub4⟩ := back s3
        have t4 : Step H H3 fs fs4 := (t2.trans t3).less sub4
        exact iteF ⟨_, fs4, kds, kvs, stepT t4, s4, le.trans (s.le t4), held t4, hn, rf0.mono (s.le t4), es2⟩
      | true =>
        rw [hp, if_pos rfl] at es6
        obtain ⟨pk, ek, es7⟩ := bindO es6
        obtain ⟨pv, ev, es8⟩ := bindO es7
        obtain ⟨pk1, pk2⟩ := pk
        obtain ⟨pv1, pv2⟩ := pv
        cases pk1 with
        | x i => cases es8
        | v dk =>
          cases pv1 with
          | x i => cases dk <;> cases es8
          | v dv =>
            cases dk with
            | tup l =>
              have es8' : (if l.isEmpty then none else (keysN l).bind fun _ => some (some (l, dv), kill own pv2)) = some st := es8
              cases l with
              | nil => cases es8'
              | cons x0 l =>
                obtain ⟨ks, e7, e8⟩ := bindO (show (keysN (x0 :: l)).bind (fun _ => some (some (x0 :: l, dv), kill own pv2)) = some st from es8')
                cases e8
                obtain ⟨e9, e10⟩ := ifO (show (if okLen (kds.length + 1) then dcF (stepDc own g tt fk fv) (w.1.drop (i + 1)) (dPutL kds (.tup (x0 :: l)) dv) (kill own pv2) else none) = some res from es2)
                refine iteT ⟨[Dd] ++ R, pt.2, fs3, _, pk2, s3, ek, fun y H4 fs4 t4 s4 r4 => ⟨[Dd] ++ R, pk2, fs4, _, pv2, s4, ev, fun z H5 fs5 t5 s5 r5 => ?_⟩⟩
                have r4' : Rf X.K X.mg (hide ([Dd] ++ R ++ fs5) H5) (.tup (x0 :: l)) y := Rf.mono (s4.le t5) r4
                obtain ⟨fs6, s6, sub6⟩ := back s5
                have t6 : Step H H5 fs fs6 := ((t2.trans t3).trans (t4.trans t5)).less sub6
                have ekk := keysN_D e7
                rw [ekk] at r4'
                obtain ⟨b, vs, rfl, _, hu', hr⟩ := (Rv.rf r4').tup_inv
                have := rf_keys hr
                subst this
                have hne : ks ≠ [] := fun z => by rw [z] at ekk; simp at ekk
                have hb : H5 b = some (.tup (ks.map kV)) := by
                  rcases hu' with hu' | ⟨hu', _⟩
                  · exact hide_le _ _ _ _ hu'
                  · rw [keyish_of hne] at hu'; cases hu'
                have lenk : kvs.length = kds.length := by have := congrArg List.length hn; simpa using this.symm
                have lk := okLen_le e9
                refine ⟨kvs, ks, b, rfl, hb, held t6, by rw [lenk]; omega, ?_⟩
                have leH : Le (hide ([Dd] ++ R ++ fs5) H5) (hide ([Dd] ++ R ++ fs6) H5) := hide_sub fun a ha => (List.mem_append.mp ha).elim (fun z => List.mem_append_left _ z) fun z => List.mem_append_right _ (sub6 a z)
                have r5' : Rf X.K X.mg (hide ([Dd] ++ R ++ fs6) H5) dv z := Rf.mono leH r5
                obtain ⟨p1, p2⟩ := put_ok keysD kq_keys ks r5' hn (rf0.mono (s.le t6))
                have leU : Le (hide ([Dd] ++ R ++ fs6) H5) (hide ([Dd] ++ R ++ fs6) (upd H5 Dd (.dT (putK kvs ks z)))) := hide_mono fun a o n e => ⟨n, by rw [upd_ne fun h => n (by simp [h])]; exact e⟩
                have ek2 : keysD ks = .tup (x0 :: l) := by unfold keysD; rw [← ekk]
                rw [ek2] at p1 p2
                refine ⟨_, fs6, _, _, ?_, s6.updR (by simp) trivial, (le.trans (s.le t6)).trans leU, upd_same, p1, p2.mono leU, e10⟩
                have tt6 := stepT t6
                refine ⟨fun a o n e => ?_, tt6.sub, fun a o e => ?_⟩
                · have : a ≠ Dd := fun h => by rw [h, hD] at e; cases e
                  rw [upd_ne this]; exact tt6.ext a o n e
                · by_cases h : a = Dd
                  · exact ⟨_, by rw [h, upd_same]⟩
                  · obtain ⟨o', e'⟩ := tt6.ne a o e
                    exact ⟨o', by rw [upd_ne h]; exact e'⟩
            | _ => cases es8
  · have ei : i = w.1.length := by omega
    rw [List.drop_eq_nil_of_le (by omega)] at el1
    cases el1
    have tE := tS
    subst ei
    refine .inl ⟨wst (Nat.le_refl _), q (.ref Dd) H fs [Dd] (t1.trans tE) s ?_⟩
    have wz := Rps.of_sh (H := H) rf0
    rw [List.length_map] at wz
    exact .oT hDd hn wz
theorem do_dcT {kx vx tg iter : Expr} {ifs : List Expr} {scope : Scope} {pos : Pos} {own : List (Str × Nat)} {it : Itf} {g : Gf} {tt : Tf} {fk fv : Ef} {τg : List Ty} (hu : X.A.units + 1 < cLine) (hc : X.calm = true) (hN : X.N.Nodup) (hi : PI X tg iter (tI X τ it)) (ok : BlkOk X.N X.env.scope scope own)
    (hg : InBlk X scope fun Y => DG Y (others τ.length (own.map (·.2))) tg τ g τg) (ht : InBlk X scope fun Y => DTs Y ifs τg tt) (hk : InBlk X scope fun Y => DE Y kx τg fk) (hv : InBlk X scope fun Y => DE Y vx τg fv)
    (hown : allNo τ (own.map (·.2)) = true := by rfl) (hlen : τg.length = τ.length := by rfl) (hkg : killT (own.map (·.2)) τg = τ := by rfl) (hs : ∀ x, foldedSetIterable iter X.env x = pure x := by intro _; rfl) :
    DO X (.DictComp kx vx [⟨tg, iter, ifs, 0⟩] scope pos) τ (oDcT (own.map (·.2)) it g tt fk fv) (.oT .sh) :=
  by
    have h := pe_dcT (own := own) (g := tG X (others τ.length (List.map (fun x : Str × Nat => x.2) own)) τ g τg) (tt := tT X τg tt) (tk := tD X τg fk) (tv := tD X τg fv) hu hc hN hi ok (fun s H C cl fp => hg s H C cl fp) (fun s H C cl fp => ht s H C cl fp) (fun s H C cl fp => hk s H C cl fp) (fun s H C cl fp => hv s H C cl fp) hs (pos := pos)
    exact pe_imp h (tDcT_of (List.map (fun x : Str × Nat => x.2) own) (allNo_ok hown) hlen hkg)
end
end TL

set_option maxHeartbeats 2000000
/-! dicts and lists in the fields of an owned object -/
namespace TL
open PySem PySem.Spec PyProof.Rows L2
theorem flatT_ne {t : Ty} (h : flatT t = true) : t ≠ .no := by intro z; rw [z] at h; cases h
theorem SR.fld {K : PySem.W.Frag} {mg : Str → Option Value} {R fs : List Addr} {τ : List Ty} {ρ : Rho} {σ : L2.St} {H : Hp} {i k : Nat} {c nm : Str} {C : Addr} {ns : List Str} {ts : List Ty} {t' : Ty} (s : SR K mg R τ ρ σ H fs) (mgc : mg c = some (.ref C)) (ht : τ[i]? = some (.oO c ns ts)) (hk : fIx ns nm = some k) (htk : ts[k]? = some t') :
    ∃ a dx fvs v dd f0 f', σ[i]? = some (some (.ref a)) ∧ H a = some (.ins C dx fvs) ∧ fvs.lookup nm = some v ∧ fldD (ρ.getD i .non) k = some dd ∧ SR K mg (f0 ++ R) (τ.set i .no) ρ σ H f' ∧ (∀ b, b ∈ fs ↔ b ∈ f0 ∨ b ∈ f') ∧
      ∀ {H1 : Hp} {f1 : List Addr} {ρ1 : Rho}, Step H H1 f' f1 → SR K mg (f0 ++ R) (τ.set i .no) ρ1 σ H1 f1 →
        (∃ fk, Rp K mg H1 (hide (f0 ++ R ++ f1) H1) t' dd v fk) ∧ Rp K mg H1 (hide (f0 ++ R ++ f1) H1) (.oO c ns ts) (ρ.getD i .non) (.ref a) f0 ∧
          ∃ f2, SR K mg R τ (ρ1.set i (ρ.getD i .non)) σ H1 f2 ∧ Step H H1 fs f2 ∧ ∀ b, b ∈ R ++ f2 → b ∈ f0 ++ R ++ f1 := by
  obtain ⟨v0, f0, f', ev, rp, s2, mem⟩ := s.take ht (by intro z; cases z)
  obtain ⟨a, C', dx, fvs, fds, g, e5, rfl, e6, m, ha, n1, n2, rs⟩ := rp.obj_inv
  have : C' = C := by rw [mgc] at m; cases m; rfl
  subst this
  obtain ⟨h1, fk, h2, d1, v1, eg, g1, g2, r1, mk⟩ := rs.cut htk
  refine ⟨a, dx, fvs, v1, d1, f0, f', ev, ha, fIx_look (by rw [n2]; exact hk) g2, ?_, s2, mem, fun {H1 f1 ρ1} t s3 => ?_⟩
  · rw [e5]
    show (fds[k]?).map (·.2) = some d1
    rw [← List.getElem?_map]; exact g1
  · have rp' := s2.heldRp t rp
    refine ⟨?_, rp', ?_⟩
    · have rp2 := rp'
      rw [e5] at rp2
      cases rp2 with
      | oO m' h' n' rs' =>
        have ha' : H1 a = some (.ins C' dx fvs) := by
          rw [← ha]
          obtain ⟨o, e, _⟩ := s2.al a (by rw [e6]; simp)
          rw [e]; exact t.ext a o (fun z => (List.nodup_append.mp s2.nd).2.2 a (by rw [e6]; simp) a z rfl) e
        rw [ha'] at h'; cases h'
        obtain ⟨_, fk', _, d2, v2, _, q1, q2, q3, _⟩ := rs'.cut htk
        rw [g1] at q1; cases q1
        rw [g2] at q2; cases q2
        exact ⟨fk', q3⟩
    · have hi : i < τ.length := (List.getElem?_eq_some_iff.mp ht).1
      obtain ⟨f2, s4, sub⟩ := s3.back (by simpa using hi) ev rp'
      rw [List.set_set, set_at ht] at s4
      exact ⟨f2, s4, Step.whole mem t sub, fun b hb => (List.mem_append.mp hb).elim (fun z => by simp [z]) fun z => (sub b z).elim (fun q => by simp [q]) fun q => by simp [q]⟩
/-- self.f[k] -/
def eFIx (i k : Nat) (g : D → D → Option D) (fk : Ef) : Ef := fun ρ => (fldD (ρ.getD i .non) k).bind fun dd => (fk ρ).bind fun q => match q.1 with
  | .v dk => (g dd dk).bind fun d => some (.v d, q.2.set i (ρ.getD i .non))
  | _ => none
/-- k in self.f -/
def eFIn (i k : Nat) (g : D → D → Option D) (fk : Ef) : Ef := fun ρ => (fk ρ).bind fun q => (fldD (q.2.getD i .non) k).bind fun dd => (g (q.1.res q.2) dd).bind fun d => some (.v d, q.2)
/-- f(self.f), a method or a built-in without arguments besides -/
def eFOp (i k : Nat) (g : D → Option D) : Ef := fun ρ => (fldD (ρ.getD i .non) k).bind fun dd => (g dd).bind fun d => some (.v d, ρ)
def eFGet1 (i k : Nat) (fk : Ef) : Ef := fun ρ => (fldD (ρ.getD i .non) k).bind fun dd => if isDctD dd then (fk ρ).bind fun q => match q.1 with
  | .v dk => (dGet1 dd dk).bind fun d => some (.v d, q.2.set i (ρ.getD i .non))
  | _ => none
  else none
def eFGet2 (i k : Nat) (fk fx : Ef) : Ef := fun ρ => (fldD (ρ.getD i .non) k).bind fun dd => if isDctD dd then (fk ρ).bind fun q => (fx q.2).bind fun r => match q.1, r.1 with
  | .v dk, .v x => (dGet2 dd dk x).bind fun d => some (.v d, r.2.set i (ρ.getD i .non))
  | _, _ => none
  else none
section
variable {X : Cx} {τ : List Ty} {γ : Gm} {o e e2 a : Expr} {pos p apos cpos pos' opos : Pos} {c nm : Str} {C : Addr} {ns : List Str} {ts : List Ty} {i k : Nat} {t' : Ty}
theorem hide_in {S S' : List Addr} {H : Hp} {K : PySem.W.Frag} {mg : Str → Option Value} {d : D} {v : V} (k : ∀ b, b ∈ S → b ∈ S') (r : Rf K mg (hide S' H) d v) : Rf K mg (hide S H) d v := r.mono (hide_sub k)
theorem de_fix {r : R2} {g : D → D → Option D} {fk : Ef} (i k : Nat) (hr : IxR X r) (og : OpD X r g) (kc : KCl X.K X.mg c C) (na : NoAttr X.K C nm) (ho : PE X o (tVar i)) (hkey : DE X e (τ.set i .no) fk) (hs : PlainIx e) (ht : τ[i]? = some (.oO c ns ts) := by rfl) (hk : fIx ns nm = some k := by kernel_rfl) (htk : ts[k]? = some t' := by rfl) (hf : flatT t' = true := by rfl)
    (hb : attributeBase o nm X.env (eval o X.env) = eval o X.env := by rfl) : DE X (.Subscript (.Attribute o nm opos) e pos) τ (eFIx i k g fk) := pe_imp (pe_ix hr (pe_fld ho hb) hkey hs) fun σ H Q ⟨R, ρ, fs, hd, ρ', s, e, q⟩ => by
  obtain ⟨a, dx, fvs, v, dd, f0, f', ev, ha, lk, e1, s2, mem, fin⟩ := s.fld kc.mg ht hk htk
  obtain ⟨dd', e1', e2⟩ := bindO e
  rw [e1] at e1'; cases e1'
  obtain ⟨w, e3, e4⟩ := bindO e2
  obtain ⟨w1, w2⟩ := w
  cases w1 with
  | x i => cases e4
  | v dk =>
    obtain ⟨d, e5, e6⟩ := bindO (show (g dd dk).bind (fun d => some (Hd.v d, w2.set i (ρ.getD i .non))) = some (hd, ρ') from e4)
    cases e6
    refine ⟨_, ev, _, _, _, _, v, rfl, ha, kc.cl, na, lk, f0 ++ R, ρ, f', _, w2, s2, e3, fun vk H1 f1 t1 s3 rk => ?_⟩
    obtain ⟨⟨fk', rp⟩, rpo, f2, s4, t2, sub⟩ := fin t1 s3
    refine og (f0 ++ R ++ f1) H1 _ _ _ _ _ Q s3.own (rp.rv hf) (.rf rk) e5 fun v2 H2 g2 r2 => ?_
    exact q v2 H2 f2 (t2.trans (Step.grow g2 _)) (s4.grow g2) (hide_in sub r2)
theorem fin_core {r : R2} {g : D → D → Option D} {fk : Ef} {tk : TE} (i k : Nat) (og : OpD X r g) (kc : KCl X.K X.mg c C) (na : NoAttr X.K C nm) (ht : τ[i]? = some (.oO c ns ts)) (hk : fIx ns nm = some k) (htk : ts[k]? = some t') (hf : flatT t' = true) : ∀ σ H Q, tD X τ (eFIn i k g fk) σ H Q → tOp r (tD X τ fk) (tFld X.K (tVar i) nm) σ H Q := fun σ H Q ⟨R, ρ, fs, hd, ρ', s, e, q⟩ => by
  obtain ⟨w, e3, e2⟩ := bindO e
  obtain ⟨dd, e4, e5⟩ := bindO e2
  obtain ⟨d, e6, e7⟩ := bindO e5
  cases e7
  refine ⟨R, ρ, fs, w.1, w.2, s, e3, fun vk H1 fs1 t1 s1 rk => ?_⟩
  obtain ⟨a, dx, fvs, v, dd', f0, f', ev, ha, lk, e1, s2, mem, fin⟩ := s1.fld kc.mg ht hk htk
  rw [e4] at e1; cases e1
  refine ⟨_, ev, _, _, _, _, v, rfl, ha, kc.cl, na, lk, ?_⟩
  obtain ⟨⟨fk', rp⟩, rpo, f2, s4, t2, sub⟩ := fin (Step.refl H1 f') s2
  have sub' : ∀ b, b ∈ f0 ++ R ++ f' → b ∈ R ++ fs1 := fun b hb => by
    simp only [List.mem_append] at hb ⊢
    rcases hb with (z | z) | z
    · exact .inr ((mem b).mpr (.inl z))
    · exact .inl z
    · exact .inr ((mem b).mpr (.inr z))
  have sub2 : ∀ b, b ∈ R ++ fs1 → b ∈ f0 ++ R ++ f' := fun b hb => by
    simp only [List.mem_append] at hb ⊢
    rcases hb with z | z
    · simp [z]
    · rcases (mem b).mp z with y | y <;> simp [y]
  have he : hide (f0 ++ R ++ f') H1 = hide (R ++ fs1) H1 := by
    funext b
    unfold hide
    by_cases z : b ∈ f0 ++ R ++ f'
    · rw [if_pos z, if_pos (sub' b z)]
    · rw [if_neg z, if_neg fun y => z (sub2 b y)]
  rw [he] at rp
  exact og (R ++ fs1) H1 _ _ _ _ _ Q s1.own (s1.res rk) (rp.rv hf) e6 fun v2 H2 g2 r2 => q v2 H2 fs1 (t1.trans (Step.grow g2 _)) (s1.grow g2) r2
theorem de_fin {op : CmpOp} {r : R2} {g : D → D → Option D} {fk : Ef} (i k : Nat) (hr : OpR X (compareOp op) r) (og : OpD X r g) (kc : KCl X.K X.mg c C) (na : NoAttr X.K C nm) (ho : PE X o (tVar i)) (hkey : DE X e τ fk) (hm : behindInMarks op (.Attribute o nm opos) = false) (ht : τ[i]? = some (.oO c ns ts) := by rfl) (hk : fIx ns nm = some k := by kernel_rfl) (htk : ts[k]? = some t' := by rfl) (hf : flatT t' = true := by rfl)
    (hb : attributeBase o nm X.env (eval o X.env) = eval o X.env := by rfl) : DE X (.Compare e [op] [.Attribute o nm opos] pos) τ (eFIn i k g fk) := pe_imp (pe_cmpR hr hkey (pe_fld ho hb) hm) (fin_core (tk := tD X τ fk) i k og kc na ht hk htk hf)
theorem dt_fin {op : CmpOp} {r : R2} {g : D → D → Option D} {fk : Ef} (i k : Nat) (hr : OpR X (compareOp op) r) (og : OpD X r g) (kc : KCl X.K X.mg c C) (na : NoAttr X.K C nm) (ho : PE X o (tVar i)) (hkey : DE X e τ fk) (hm : behindInMarks op (.Attribute o nm opos) = false) (ht : τ[i]? = some (.oO c ns ts) := by rfl) (hk : fIx ns nm = some k := by kernel_rfl) (htk : ts[k]? = some t' := by rfl) (hf : flatT t' = true := by rfl)
    (hb : attributeBase o nm X.env (eval o X.env) = eval o X.env := by rfl) : DT X (.Compare e [op] [.Attribute o nm opos] pos) τ (tBl (eFIn i k g fk)) := pt_imp (pt_cmpR hr hkey (pe_fld ho hb) hm) (tTest_of (fin_core (tk := tD X τ fk) i k og kc na ht hk htk hf))
theorem dctO {K : PySem.W.Frag} {mg : Str → Option Value} {G : Hp} {ov : Option D} {ox : Option V} {x : D} {vx : V} (m : HoldsO K mg G ov ox) (r : Rf K mg G x vx) : Rf K mg G (ov.getD x) (ox.getD vx) := by
  cases ov with
  | none => cases ox with
    | none => exact r
    | some v => cases m
  | some y =>
    obtain ⟨v, rfl, rf⟩ := m.some
    exact rf
theorem de_fget1 {fk : Ef} (i k : Nat) (hu : X.A.units + 1 < cLine) (kc : KCl X.K X.mg c C) (na : NoAttr X.K C nm) (ho : PE X o (tVar i)) (hkey : DE X e (τ.set i .no) fk) (m : M1 X (.Attribute o nm opos) "get" apos e cpos) (ht : τ[i]? = some (.oO c ns ts) := by rfl) (hk : fIx ns nm = some k := by kernel_rfl) (htk : ts[k]? = some t' := by rfl) (hf : flatT t' = true := by rfl)
    (hb : attributeBase o nm X.env (eval o X.env) = eval o X.env := by rfl) : DE X (.Call (.Attribute (.Attribute o nm opos) "get" apos) [e] [] cpos) τ (eFGet1 i k fk) := pe_imp (pe_dget1 hu (pe_fld ho hb) hkey m) fun σ H Q ⟨R, ρ, fs, hd, ρ', s, e, q⟩ => by
  obtain ⟨a, dx, fvs, v, dd, f0, f', ev, ha, lk, e1, s2, mem, fin⟩ := s.fld kc.mg ht hk htk
  obtain ⟨dd', e1', e2⟩ := bindO e
  rw [e1] at e1'; cases e1'
  obtain ⟨hdd, e2⟩ := ifO e2
  obtain ⟨w, e3, e4⟩ := bindO e2
  obtain ⟨w1, w2⟩ := w
  cases w1 with
  | x i => cases e4
  | v dk =>
    obtain ⟨d, e5, e6⟩ := bindO (show (dGet1 dd dk).bind (fun d => some (Hd.v d, w2.set i (ρ.getD i .non))) = some (hd, ρ') from e4)
    cases e6
    obtain ⟨⟨fk0, rp0⟩, _⟩ := fin (Step.refl H f') s2
    obtain ⟨b, hb', hD⟩ := (rp0.rv hf).isD hdd
    refine ⟨_, ev, _, _, _, _, v, rfl, ha, kc.cl, na, lk, b, hb', hD, f0 ++ R, ρ, f', _, w2, s2, e3, fun vk H1 f1 t1 s3 rk => ?_⟩
    obtain ⟨⟨fk', rp⟩, rpo, f2, s4, t2, sub⟩ := fin t1 s3
    obtain ⟨ov, e7, e8⟩ := mapO (show (dGetO dd dk).map (fun o => o.getD .non) = some d from e5)
    obtain ⟨b', ox, eb, g, mm⟩ := dget_ok (rp.rv hf) (Rv.rf rk) e7
    have : b' = b := by rw [hb'] at eb; cases eb; rfl
    subst this
    refine ⟨ox, g, ?_⟩
    subst e8
    exact q _ H1 f2 t2 s4 (hide_in sub (dctO mm .non))
theorem de_fget2 {fk fx : Ef} (i k : Nat) (hu : X.A.units + 1 < cLine) (kc : KCl X.K X.mg c C) (na : NoAttr X.K C nm) (ho : PE X o (tVar i)) (hkey : DE X e (τ.set i .no) fk) (hx : DE X e2 (τ.set i .no) fx) (m : M2 X (.Attribute o nm opos) "get" apos e e2 cpos) (ht : τ[i]? = some (.oO c ns ts) := by rfl) (hk : fIx ns nm = some k := by kernel_rfl) (htk : ts[k]? = some t' := by rfl) (hf : flatT t' = true := by rfl)
    (hb : attributeBase o nm X.env (eval o X.env) = eval o X.env := by rfl) : DE X (.Call (.Attribute (.Attribute o nm opos) "get" apos) [e, e2] [] cpos) τ (eFGet2 i k fk fx) := pe_imp (pe_dget2 hu (pe_fld ho hb) hkey hx m) fun σ H Q ⟨R, ρ, fs, hd, ρ', s, e, q⟩ => by
  obtain ⟨a, dx, fvs, v, dd, f0, f', ev, ha, lk, e1, s2, mem, fin⟩ := s.fld kc.mg ht hk htk
  obtain ⟨dd', e1', e2⟩ := bindO e
  rw [e1] at e1'; cases e1'
  obtain ⟨hdd, e2⟩ := ifO e2
  obtain ⟨w, e3, e4⟩ := bindO e2
  obtain ⟨z, e5, e6⟩ := bindO e4
  obtain ⟨w1, w2⟩ := w
  obtain ⟨z1, z2⟩ := z
  cases w1 with
  | x i => cases e6
  | v dk =>
    cases z1 with
    | x i => cases e6
    | v dx0 =>
      obtain ⟨d, e7, e8⟩ := bindO (show (dGet2 dd dk dx0).bind (fun d => some (Hd.v d, z2.set i (ρ.getD i .non))) = some (hd, ρ') from e6)
      cases e8
      obtain ⟨⟨fk0, rp0⟩, _⟩ := fin (Step.refl H f') s2
      obtain ⟨b, hb', hD⟩ := (rp0.rv hf).isD hdd
      refine ⟨_, ev, _, _, _, _, v, rfl, ha, kc.cl, na, lk, b, hb', hD, f0 ++ R, ρ, f', _, w2, s2, e3, fun vk H1 f1 t1 s3 rk => ⟨f0 ++ R, w2, f1, _, z2, s3, e5, fun vx H2 f2 t2 s4 rx => ?_⟩⟩
      have rk' : Rf X.K X.mg (hide (f0 ++ R ++ f2) H2) dk vk := Rf.mono (s3.le t2) rk
      obtain ⟨⟨fk', rp⟩, rpo, f3, s5, t3, sub⟩ := fin (t1.trans t2) s4
      obtain ⟨ov, e9, e10⟩ := mapO (show (dGetO dd dk).map (fun o => o.getD dx0) = some d from e7)
      obtain ⟨b', ox, eb, g, mm⟩ := dget_ok (rp.rv hf) (Rv.rf rk') e9
      have : b' = b := by rw [hb'] at eb; cases eb; rfl
      subst this
      refine ⟨ox, g, ?_⟩
      subst e10
      exact q _ H2 f3 t3 s5 (hide_in sub (dctO mm rx))
/-- self.f[k] = e, the keys tuples -/
def sFPut (i k : Nat) (f fk : Ef) : Sf := fun ρ => (f ρ).bind fun p => (fk p.2).bind fun q => match p.1, q.1 with
  | .v d, .v dk => (fldD (p.2.getD i .non) k).bind fun dd => (putD dk d dd).bind fun x => (setFld (p.2.getD i .non) k x).bind fun o => some (.nx (q.2.set i o))
  | _, _ => none
theorem ds_fputT {f fk : Ef} (i k : Nat) (hu : X.A.units + 1 < cLine) (kc : KCl X.K X.mg c C) (na : NoAttr X.K C nm) (he : DE X e τ f) (ho : PE X o (tVar i)) (hkey : DE X e2 (τ.set i .no) fk) (ht : τ[i]? = some (.oO c ns ts) := by rfl) (hk : fIx ns nm = some k := by kernel_rfl) (htk : ts[k]? = some (.oT .sh) := by rfl)
    (hb : attributeBase o nm X.env (eval o X.env) = eval o X.env := by rfl)
    (ha : ∀ v, assign (.Subscript (.Attribute o nm opos) e2 p) X.env v = (do
      let ov ← holding [v] (eval (.Attribute o nm opos) X.env)
      let iv ← holding [v, ov] (eval e2 X.env)
      standAt p
      holding [v, ov, iv] (setItem ov iv v)
      release [v, ov, iv] []) := by intro _; rfl)
    (hs : swapsWithSole [.Subscript (.Attribute o nm opos) e2 p] e pos.line X.env = pure false := by rfl) (hw : swappedStores [.Subscript (.Attribute o nm opos) e2 p] e X.env = pure none := by rfl)
    (h1 : (assignEach [.Subscript (.Attribute o nm opos) e2 p] X.env).map (·.2) = [assign (.Subscript (.Attribute o nm opos) e2 p) X.env] := by rfl) :
    DS X γ (.Assign [.Subscript (.Attribute o nm opos) e2 p] e pos) τ (sFPut i k f fk) τ := ps_imp (ps_asg he (pg_sub (pe_fld ho hb) hkey (set_dict hu) ha) hs hw h1) fun D σ H ⟨R, ρ, fs, out, s, e, q⟩ => by
  obtain ⟨w, e1, e2⟩ := bindO e
  obtain ⟨z, e3, e4⟩ := bindO e2
  obtain ⟨w1, w2⟩ := w
  obtain ⟨z1, z2⟩ := z
  cases w1 with
  | x i => cases e4
  | v d =>
    cases z1 with
    | x i => cases e4
    | v dk =>
      obtain ⟨dd, e5, e6⟩ := bindO (show (fldD (w2.getD i .non) k).bind (fun dd => (putD dk d dd).bind fun x => (setFld (w2.getD i .non) k x).bind fun o => some (Out.nx (z2.set i o))) = some out from e4)
      obtain ⟨x, e7, e8⟩ := bindO e6
      obtain ⟨ob, e9, e10⟩ := bindO e8
      cases e10
      refine ⟨R, ρ, fs, _, _, s, e1, fun v H1 fs1 t1 s1 r => ?_⟩
      obtain ⟨a, dx, fvs, v0, dd', f0, f', ev, ha', lk, e1', s2, mem, fin⟩ := s1.fld kc.mg ht hk htk
      rw [e5] at e1'; cases e1'
      refine ⟨_, ev, _, _, _, _, v0, rfl, ha', kc.cl, na, lk, f0 ++ R, w2, f', _, z2, s2, e3, fun vk H2 f2 t2 s3 rk => ?_⟩
      obtain ⟨⟨fk', rp⟩, rpo, _⟩ := fin t2 s3
      have rv : Rf X.K X.mg (hide (f0 ++ R ++ f2) H2) d v := Rf.mono (hide_mono fun b u n e => by
        have nf' : b ∉ f' := fun z => n (List.mem_append_right _ ((mem b).mpr (.inr z)))
        refine ⟨fun z => ?_, t2.ext b u nf' e⟩
        simp only [List.mem_append] at z n
        rcases z with (z | z) | z
        · exact n (.inr ((mem b).mpr (.inl z)))
        · exact n (.inl z)
        · rcases t2.sub b z with y | y
          · exact nf' y
          · rw [y] at e; cases e) r
      -- the dict
      obtain ⟨kds, rfl⟩ : ∃ kds, dd = .dtt kds := by
        cases rp with
        | oT => exact ⟨_, rfl⟩
        | nT => cases e7
      cases dk with
      | tup l =>
        cases l with
        | nil => cases e7
        | cons x0 l =>
          obtain ⟨ks, q1, q2⟩ := bindO (show (keysN (x0 :: l)).bind (fun _ => if okLen (kds.length + 1) then some (TL.D.dtt (dPutL kds (.tup (x0 :: l)) d)) else none) = some x from e7)
          obtain ⟨q3, q4⟩ := ifSome' q2
          subst q4
          have ek := keysN_D q1
          rw [ek] at rk
          obtain ⟨b, vs, rfl, _, hu', hr⟩ := (Rv.rf rk).tup_inv
          have := rf_keys hr
          subst this
          have hne : ks ≠ [] := fun z => by rw [z] at ek; simp at ek
          have hb' : H2 b = some (.tup (ks.map kV)) := by
            rcases hu' with hu' | ⟨hu', _⟩
            · exact hide_le _ _ _ _ hu'
            · rw [keyish_of hne] at hu'; cases hu'
          obtain ⟨a', C', dx', fvs', fds, g, e11, e12, rfl, m, ha2, n1, n2, rs⟩ := rpo.obj_inv
          cases e12
          obtain ⟨hh1, fk2, hh2, d1, v1, eg, g1, g2, r1, mk⟩ := rs.cut htk
          have ed1 : d1 = .dtt kds := by
            have h5 : fldD (w2.getD i .non) k = some (.dtt kds) := e5
            rw [e11] at h5
            have h5' : (fds[k]?).map (·.2) = some (TL.D.dtt kds) := h5
            rw [← List.getElem?_map, g1] at h5'
            cases h5'; rfl
          subst ed1
          have lk2 : fvs'.lookup nm = some v1 := fIx_look (by rw [n2]; exact hk) g2
          have hfv : fvs' = fvs := by
            have h6 : H2 a = some (.ins C dx fvs) := by
              rw [← ha']
              obtain ⟨oo, e, _⟩ := s2.al a (by simp)
              rw [e]; exact t2.ext a oo (fun z => (List.nodup_append.mp s2.nd).2.2 a (by simp) a z rfl) e
            rw [ha2] at h6; cases h6; rfl
          subst hfv
          rw [lk] at lk2; cases lk2
          cases r1 with
          | @oT _ bd kvs _ gg h n rs1 =>
            obtain ⟨rf1, egg⟩ := rs1.to_sh
            subst egg
            obtain ⟨p1, p2⟩ := put_ok keysD kq_keys ks rv n rf1
            have hlen : kvs.length = kds.length := by have := congrArg List.length n; simpa using this.symm
            have lk3 := okLen_le q3
            have ek2 : keysD ks = .tup (x0 :: l) := by unfold keysD; rw [← ek]
            rw [ek2] at p1 p2
            refine ⟨bd, _, rfl, DPut.t h hb' (by rw [hlen]; omega), ?_⟩
            have nd := s3.nd
            have inb : bd ∈ a :: g := by rw [eg]; simp
            have s4 := s3.updA (a := bd) (o := .dT (putK kvs ks v)) (List.mem_append_left _ inb) trivial
            have leU : Le (hide (a :: g ++ R ++ f2) H2) (hide (a :: g ++ R ++ f2) (upd H2 bd (.dT (putK kvs ks v)))) := hide_mono fun b u n e => ⟨n, by
              rw [upd_ne fun z => n (by rw [z]; exact List.mem_append_left _ (List.mem_append_left _ inb))]; exact e⟩
            have ndg : (a :: g).Nodup := (List.nodup_append.mp (List.nodup_append.mp nd).1).1
            have nbg : ∀ y ∈ hh1 ++ hh2, y ≠ bd := fun y hy z => by
              subst z
              have ng := (List.nodup_cons.mp ndg).2
              rw [eg] at ng
              simp only [List.nodup_append, List.mem_append, List.mem_cons, List.not_mem_nil, or_false] at ng hy
              rcases hy with hy | hy
              · exact ng.1.2.2 y hy y rfl rfl
              · exact ng.2.2 y (.inr rfl) y hy rfl
            have nab : a ≠ bd := fun z => by
              have := (List.nodup_cons.mp ndg).1
              rw [eg] at this
              exact this (by rw [z]; simp)
            have wz := Rps.of_sh (H := upd H2 bd (.dT (putK kvs ks v))) (p2.mono leU)
            rw [List.length_map] at wz
            have rs' := mk (H' := upd H2 bd (.dT (putK kvs ks v))) (t' := .oT .sh) (d' := .dtt (dPutL kds (.tup (x0 :: l)) d)) (v' := .ref bd) (f' := [bd]) (fun y hy => upd_ne (nbg y hy)) leU (.oT upd_same p1 wz)
            rw [set_at htk, set_at g2, ← eg] at rs'
            rw [e11] at e9
            obtain ⟨pr, e13, e14⟩ := mapO (show (fds[k]?).map (fun p => TL.D.obj c (fds.set k (p.1, _))) = some ob from e9)
            have hpr : pr.1 = nm := by
              have : ns[k]? = some pr.1 := by rw [← n1, List.getElem?_map, e13]; rfl
              rw [fIx_at hk] at this; cases this; rfl
            have rpn : Rp X.K X.mg (upd H2 bd (.dT (putK kvs ks v))) (hide (a :: g ++ R ++ f2) (upd H2 bd (.dT (putK kvs ks v)))) (.oO c ns ts) ob (.ref a) (a :: g) := by
              subst e14
              refine .oO m (by rw [upd_ne nab]; exact ha2) ⟨?_, n2⟩ ?_
              · rw [List.map_set, hpr, n1, set_at (fIx_at hk)]
              · rw [List.map_set]; exact rs'
            have hi : i < τ.length := (List.getElem?_eq_some_iff.mp ht).1
            obtain ⟨f3, s5, sub⟩ := s4.back (by simpa using hi) ev rpn
            rw [List.set_set, set_at ht] at s5
            have tw := Step.whole mem t2 sub
            refine q σ _ f3 (t1.trans ⟨fun y u n e => ?_, tw.sub, fun y u e => ?_⟩) (Kp.refl _ _) s5
            · have hy : y ≠ bd := fun z => n ((mem y).mpr (Or.inl (Eq.mpr (congrArg (· ∈ a :: g) z) inb)))
              rw [upd_ne hy]
              exact tw.ext y u n e
            · by_cases z : y = bd
              · exact ⟨_, by rw [z, upd_same]⟩
              · obtain ⟨u', e'⟩ := tw.ne y u e
                exact ⟨u', by rw [upd_ne z]; exact e'⟩
      | _ => cases e7
end
end TL

set_option maxHeartbeats 2000000
/-! repr of data; calls of defs that use it -/
namespace TL
open PySem PySem.Spec PyProof.Rows L2
def rRepr (K : PySem.W.Frag) : List V → Hp → VK → Prop := fun xs H Q => ∃ v d, xs = [v] ∧ Dp K H v d ∧ d.showable = true ∧ d.hasDict = false ∧ d.depth ≤ 60 ∧ d.shown.length ≤ sizeLine ∧ Q (.str d.shown) H
theorem call_reprG {X : Cx} (gd : X.A.guards = some []) (hu : X.A.units + 65 < cLine) : CallR X (.builtin "repr") (rRepr X.K) := by
  intro pins s σ H xs us Q I r h
  obtain ⟨v, d, rfl, hd, h1, h2, h3, h4, q⟩ := h
  obtain ⟨u, rfl, ru⟩ := vals1 r
  obtain ⟨as, rd⟩ := Dp.reads I d v u hd ru
  have atRef : ∀ {a : Addr}, u = .ref a → wpAny (model X.prog X.w) X.A (call (.builtin "repr") [u]) (EP X pins σ Q) X.xe s := by
    intro a e
    subst e
    refine repr_of_reads' rd h1 (fun z => by rw [h2] at z; cases z) gd (by omega) (fun b o e => e) (fun h' t tk k => ?_) h4
    exact ⟨.str d.shown, H, I.kept k, ⟨_, rfl⟩, q⟩
  cases rd with
  | none =>
    exact PySem.P.repr_of_none ⟨.str "None", H, I.tok _, ⟨_, rfl⟩, by simpa [PyData.shown] using q⟩
  | bool b => exact PySem.P.repr_of_bool ⟨.str (if b then "True" else "False"), H, I.tok _, ⟨_, rfl⟩, by simpa [PyData.shown] using q⟩
  | int i t =>
    have hz : i.natAbs.log2 < 1920 := by simpa [PyData.showable] using h1
    exact PySem.P.repr_of_int hz ⟨.str (toString i), H, I.tok _, ⟨_, rfl⟩, by simpa [PyData.shown] using q⟩
  | str x t => exact PySem.P.repr_of_str ⟨.str (reprText x), H, I.tok _, ⟨_, rfl⟩, by simpa [PyData.shown] using q⟩ (by simpa [PyData.shown] using h4)
  | list => exact atRef rfl
  | tuple => exact atRef rfl
  | dict => exact atRef rfl
/-! how long a repr may be -/
mutual
def rw : D → Nat
  | .non => 4
  | .bl _ => 5
  | .int i => if Nat.ble i.natAbs 1000000000000000000 then 20 else 1000000000
  | .str s => if sOk s then 10 * s.length + 2 else 1000000000
  | .tup l => rws l + 3
  | .lst l => rws l + 3
  | _ => 1000000000
def rws : List D → Nat
  | [] => 0
  | d :: r => rw d + 2 + rws r
end
theorem len_le {n : Nat} {l : List Str} : (l.map (·.length)).sum ≤ n → (l.map (·.length)).sum + 2 * l.length + 3 ≤ n + 2 * l.length + 3 := fun h => by omega
mutual
theorem rw_ok : ∀ (d : D), rw d ≤ 10000000 → (py d).showable = true ∧ (py d).hasDict = false ∧ (py d).shown.length ≤ rw d
  | .non, _ => ⟨by simp [py, PyData.showable], by simp [py, PyData.hasDict], by simp only [py, PyData.shown]; decide +kernel⟩
  | .bl b, _ => ⟨by simp [py, PyData.showable], by simp [py, PyData.hasDict], by cases b <;> (simp only [py, PyData.shown]; decide +kernel)⟩
  | .int i, h => by
    unfold rw at h ⊢
    by_cases hz : Nat.ble i.natAbs 1000000000000000000 = true
    · rw [if_pos hz]
      have hz' := Nat.le_of_ble_eq_true hz
      have lt : i.natAbs < 2 ^ 60 := Nat.lt_of_le_of_lt hz' (by decide)
      have lt10 : i.natAbs < 10 ^ 19 := Nat.lt_of_le_of_lt hz' (by decide)
      refine ⟨?_, by simp [py, PyData.hasDict], ?_⟩
      · simp only [py, PyData.showable, decide_eq_true_eq]
        by_cases z : i.natAbs = 0
        · rw [z]; decide
        · have := (Nat.log2_lt z).mpr lt
          omega
      · simp only [py, PyData.shown]
        rw [show ((toString i : String) : Str).length = (toString i).length from PySem.ofString_length _]
        exact int_text_length_le10 (k := 19) (by decide) lt10
    · rw [if_neg hz] at h; omega
  | .str s, h => by
    unfold rw at h ⊢
    by_cases hz : sOk s = true
    · rw [if_pos hz]
      refine ⟨by simp [py, PyData.showable], by simp [py, PyData.hasDict], ?_⟩
      simp only [py, PyData.shown]
      refine StrLaws.reprText_len s fun c hc => ?_
      have hz' : s.cps.all (· < 0x110000) = true := hz
      rw [Array.all_eq_true_iff_forall_mem] at hz'
      have := hz' c (by simpa using hc)
      simp only [decide_eq_true_eq] at this
      omega
    · rw [if_neg hz] at h; omega
  | .tup l, h => by
    unfold rw at h ⊢
    obtain ⟨h1, h2, h3, h4⟩ := rws_ok l (by omega)
    refine ⟨by simpa [py, PyData.showable] using h1, by simpa [py, PyData.hasDict] using h2, ?_⟩
    simp only [py, PyData.shown]
    have := tupleText_len_le (PyData.shownAll (pys l))
    omega
  | .lst l, h => by
    unfold rw at h ⊢
    obtain ⟨h1, h2, h3, h4⟩ := rws_ok l (by omega)
    refine ⟨by simpa [py, PyData.showable] using h1, by simpa [py, PyData.hasDict] using h2, ?_⟩
    simp only [py, PyData.shown]
    have := listText_len_le (PyData.shownAll (pys l))
    omega
  | .dct _, h => by unfold rw at h; omega
  | .dtt _, h => by unfold rw at h; omega
  | .set _, h => by unfold rw at h; omega
  | .obj _ _, h => by unfold rw at h; omega
  | .scr _, h => by unfold rw at h; omega
theorem rws_ok : ∀ (l : List D), rws l ≤ 10000000 → PyData.showableAll (pys l) = true ∧ PyData.hasDictAll (pys l) = false ∧ ((PyData.shownAll (pys l)).map (·.length)).sum + 2 * (PyData.shownAll (pys l)).length ≤ rws l ∧ True
  | [], _ => by simp [pys, PyData.showableAll, PyData.hasDictAll, PyData.shownAll]
  | d :: r, h => by
    unfold rws at h ⊢
    obtain ⟨a1, a2, a3⟩ := rw_ok d (by omega)
    obtain ⟨b1, b2, b3, _⟩ := rws_ok r (by omega)
    simp only [pys, PyData.showableAll, PyData.hasDictAll, PyData.shownAll, a1, a2, b1, b2, List.map_cons, List.sum_cons, List.length_cons, Bool.and_self, Bool.or_self, and_true, true_and]
    omega
end
def reprD (d : D) : Option D := if pyOk 40 d && Nat.ble (rw d) 10000000 then some (.str (py d).shown) else none
theorem ca_repr {X : Cx} : CaD X (rRepr X.K) (f1 reprD) := ca1 fun S H d1 d v1 Q al r1 e q => by
  obtain ⟨h, e⟩ := ifSome' e
  subst e
  rw [Bool.and_eq_true] at h
  obtain ⟨a1, a2, a3⟩ := rw_ok d1 (Nat.le_of_ble_eq_true h.2)
  have s1 := (pyOk_ok 40 d1 h.1).2
  have := Nat.le_of_ble_eq_true h.2
  exact ⟨_, _, rfl, r1.dp h.1, a1, a2, by omega, by rw [sizeLine_eq]; omega, q _ H (Grow.refl H) (.str _)⟩
def dEqS : D → D → Option D
  | .str a, .str b => some (.bl (decide (a = b)))
  | _, _ => none
theorem od_eqS {X : Cx} : OpD X rEq dEqS := fun S H d1 d2 d v1 v2 Q al r1 r2 e q => by
  cases d1 with
  | str a => cases d2 with
    | str b =>
      cases e
      rw [r1.str_inv, r2.str_inv]
      refine ⟨rfl, ?_⟩
      have : decide (V.str a = V.str b) = decide (a = b) := by
        by_cases h : a = b
        · simp [h]
        · simp [h]
      rw [this]
      exact q _ H (Grow.refl H) (.bl _)
    | _ => cases e
  | _ => cases d2 <;> cases e
@[simp] theorem d_eqS (a : Str) : dEqS (.str a) (.str a) = some (.bl true) := by simp [dEqS]
theorem bt_repr : bootBuiltins "repr" = some (.builtin "repr") := by decide +kernel
/-! calls -/
structure CalG (P : Program) (w : World) (K : PySem.W.Frag) (mg : Str → Option Value) (base : Heap) (f : Addr) (fd : FuncData) (x : Str) (k : Nat) (ps : List Str) (sg : Sg) (G : Fm) : Prop where
  ok : FnG P w K mg base k f fd ps (spD K mg sg G)
  mg : mg x = some (.ref f)
  kp : PySem.W.keepIn K (.ref f) = true
  bd : Binds K fd ps []
  len : ∀ ds r, G ds = some r → ds.length = sg.ps.length
theorem CalG.mono {P : Program} {w : World} {K : PySem.W.Frag} {mg : Str → Option Value} {base : Heap} {f : Addr} {fd : FuncData} {x : Str} {k j : Nat} {ps : List Str} {sg : Sg} {G : Fm} (c : CalG P w K mg base f fd x j ps sg G) (h : j ≤ k) : CalG P w K mg base f fd x k ps sg G := ⟨c.ok.mono h, c.mg, c.kp, c.bd, c.len⟩
section
variable {X : Cx} {τ : List Ty} {e : Expr} {es : List Expr} {pos p : Pos} {f : Addr} {fd : FuncData} {x : Str} {k : Nat} {ps : List Str} {sg : Sg} {F : Fm}
theorem tail0 {sp : Sp} {t : TA} {σ : L2.St} {H : Hp} {Q : VK} (h : t σ H fun vs H1 => sp vs H1 Q E0) (mono : ∀ {Q' Q'' : List V → Hp → Prop}, (∀ vs H1, Q' vs H1 → Q'' vs H1) → t σ H Q' → t σ H Q'') : tCall sp [] E0 t σ H Q := mono (fun vs H1 z => by
    show sp (vs ++ []) H1 Q E0
    rw [List.append_nil]; exact z) h
theorem tA_mono {g : Af} {σ : L2.St} {H : Hp} {Q' Q'' : List V → Hp → Prop} (k : ∀ vs H1, Q' vs H1 → Q'' vs H1) : tA X τ g σ H Q' → tA X τ g σ H Q'' := fun ⟨R, ρ, fs, hs, ρ', s, e, q⟩ => ⟨R, ρ, fs, hs, ρ', s, e, fun vs H1 fs1 t1 s1 r1 => k _ _ (q vs H1 fs1 t1 s1 r1)⟩
theorem do_fnG {g : Af} (gd : X.A.guards = some []) (c : CalG X.prog X.w X.K X.mg X.base f fd x k ps sg F) (hr : Room k X.A) (n : Nat) (hg : Gl X x) (ha : DA X (e :: es) τ g) (hps : sg.ps = List.replicate n .sh := by rfl) (hdb : (x == ("__debug__" : Str)) = false := by decide) (he : starEach (e :: es) X.env = (false, eval e X.env) :: starEach es X.env := by rfl) (hpl : (backTo pos (starEach es X.env)).any (·.1) = false := by rfl) :
    DO X (.Call (.Name x p) (e :: es) [] pos) τ (oCall F g) sg.ret := pe_imp (pe_callG gd c.ok hr hg c.mg c.kp c.bd ha hdb he hpl) fun σ H Q h => tail0 (call_core n hps (fun ds r e => by rw [c.len ds r e, hps]; simp) h) tA_mono
theorem do_fnBG {g : Af} (gd : X.A.guards = some []) (c : CalG X.prog X.w X.K X.mg X.base f fd x k ps sg F) (hr : Room k X.A) (n : Nat) (hg : Gl X x) (ha : DA X (e :: es) τ g) (hps : sg.ps = List.replicate n .sh := by rfl) (hdb : (x == ("__debug__" : Str)) = false := by decide) (he : starEach (e :: es) X.env = (false, eval e X.env) :: starEach es X.env := by rfl) (hpl : (backTo pos (starEach es X.env)).any (·.1) = false := by rfl) :
    DO X (.Call (.Name x p) (e :: es) [] pos) τ (oCallB sg.ret F g) sg.ret := pe_imp (pe_callG gd c.ok hr hg c.mg c.kp c.bd ha hdb he hpl) fun σ H Q h => tail0 (callB_core n hps (fun ds r e => by rw [c.len ds r e, hps]; simp) h) tA_mono
end
section
variable {P : Program} {w : World} {K : PySem.W.Frag} {mg : Str → Option Value} {base : Heap} {x : Str} {st : Stmt} {f : Addr} {fd : FuncData} {N ps : List Str} {k : Nat} {sg : Sg}
/-- a def whose body is read with nothing under way; no changed parameters -/
theorem calG_ok {b : Sf} {τ' : List Ty} (Dm : Dfn K mg x st ps f fd) (S : FnScope N ps (defScope st)) (γ : Gm) (m n : Nat) (hps : sg.ps = List.replicate n .sh := by rfl) (hn : n = ps.length := by rfl) (hm : n + m = N.length := by rfl)
    (hio : γ.io = [] := by rfl) (hret : γ.ret = sg.ret := by rfl) (hrty : γ.rty = List.replicate (n + m) .no := by rfl) (hnx : leTb γ.rty τ' = true := by rfl) (hfall : sg.ret = .sh ∨ ∀ ρ ρ', b ρ ≠ some (.nx ρ'))
    (hbody : ∀ (cdv : Value) (A : Around) (outer : List PySem.Env) (s : Shared) (H : Hp) (E : XK), (A.deeper (envOfC x (defScope st) s.heap.objs.size f cdv)).guards = some [] → Room k (A.deeper (envOfC x (defScope st) s.heap.objs.size f cdv)) →
      DSs (cxOf CX0 P w K mg base N x (defScope st) f cdv A outer s H E).nox γ (defBody st) (List.replicate n .sh ++ List.replicate m .no) b τ') :
    CalG P w K mg base f fd x (k + 1) ps sg (runF b n m) := by
  have hsl : sg.ps.length = n := by rw [hps]; simp
  refine ⟨Fun.okG Dm.fn S (fun vs H Q E ⟨R, ds, fs, d, ds', s, _⟩ => ?_) (fun cdv A outer s H vs Q E gd hr ⟨R, ds, fs, d, ds', sr, eF, q⟩ => ?_), Dm.mg, Dm.fn.kp, Dm.bd, fun ds r h => (runF_len ds r h).trans hsl.symm⟩
  · have := s.sl.len
    rw [hsl] at this
    simp at this
    omega
  · have eF0 := eF
    unfold runF at eF
    have hvl : vs.length = n := by
      have := sr.sl.len
      rw [hsl] at this
      simp at this
      omega
    by_cases hl : ds.length = n
    · rw [if_pos hl] at eF
      obtain ⟨out, e1, e2⟩ := bindO eF
      refine ⟨_, hbody cdv A outer s H E gd hr, R, ds ++ List.replicate m .non, fs, out, ⟨?_, sr.nd, sr.al⟩, e1, ?_⟩
      · have := sr.sl.pad (m := m)
        unfold L2.start
        rw [show N.length - vs.length = m by omega]
        rw [hps] at this
        exact this
      · have fin : ∀ {v : V} {σ' : L2.St} {H' : Hp} {fs' fv : List Addr} {ρ' : Rho} {dd : D}, Step H H' fs (fv ++ fs') → SR K mg (fv ++ R) γ.rty ρ' σ' H' fs' → Rp K mg H' (hide (fv ++ R ++ fs') H') sg.ret dd v fv → dd = d → ρ'.take n = ds' → Q v H' := fun {v σ' H' fs' fv ρ' dd} t s' r e3 e4 => by
          subst e3
          refine q v H' fs' fv t ⟨?_, s'.nd, s'.al⟩ r
          have sl := s'.sl
          have hrty' : γ.rty = List.replicate n .no ++ List.replicate m .no := by
            rw [hrty, List.replicate_append_replicate]
          rw [hrty'] at sl
          have sc := Sl.cut sl
          rw [show (List.replicate n TL.Ty.no).length = n by simp, e4] at sc
          have hl' := s'.sl.len
          rw [hrty'] at hl'
          simp at hl'
          rw [hps, List.map_replicate]
          refine sc.congr rfl (by simp; omega) fun i t et nt => ?_
          obtain ⟨_, h2⟩ := List.getElem?_eq_some_iff.mp et
          simp at h2
          exact absurd h2.symm nt
        cases out with
        | rt dd ρ' =>
          have e2' := Option.some.inj e2
          exact fun v σ' H' fs' fv t kp s' r => fin t s' (by rw [hret] at r; exact r) (congrArg Prod.fst e2') (congrArg Prod.snd e2')
        | nx ρ' =>
          have e2' := Option.some.inj e2
          rcases hfall with hf | hf
          · exact fun σ' H' fs' t kp s' => by
              obtain ⟨fs2, s2, sub⟩ := s'.leT (leTb_ok hnx)
              exact fin (fv := []) (t.less sub) s2 (by rw [hf]; exact .sh .non) (congrArg Prod.fst e2') (congrArg Prod.snd e2')
          · exact absurd e1 (hf _ _)
        | bk ρ' => cases e2
        | ct ρ' => cases e2
    · rw [if_neg hl] at eF; cases eF
end
/-! a return of one thing or another -/
section
variable {X : Cx} {γ : Gm} {τ τ' : List Ty} {a b c e : Expr} {pos p : Pos}
def oNon : Of := fun ρ => some (.non, ρ)
theorem do_nonT {j} {t : Ty} : DO X (.Constant .none j pos) τ oNon (.oT t) := pe_imp pe_non fun σ H Q ⟨R, ρ, fs, d, ρ', s, e, q⟩ => by
  cases e
  exact q .non H fs [] (Step.refl H fs) s .nT
def tR (X : Cx) (γ : Gm) (τ : List Ty) (f : Sf) : TE := fun σ H Q => ∃ R ρ fs d ρ', SR X.K X.mg R τ ρ σ H fs ∧ f ρ = some (.rt d ρ') ∧
  ∀ v H' fs' fv, Step H H' fs (fv ++ fs') → SR X.K X.mg (fv ++ R) γ.rty ρ' σ H' fs' → Rp X.K X.mg H' (hide (fv ++ R ++ fs') H') γ.ret d v fv → Q v H'
theorem dr_O {f : Of} {t : Ty} (h : DO X e τ f t) (hr : γ.ret = t := by rfl) (hl : leTb γ.rty τ = true := by rfl) : PE X e (tR X γ τ (sRetO f)) := pe_imp h fun σ H Q ⟨R, ρ, fs, d, ρ', s, e, q⟩ => by
  obtain ⟨p, e1, e2⟩ := bindO e
  cases e2
  refine ⟨R, ρ, fs, p.1, p.2, s, e1, fun v H1 fs1 fv t1 s1 r => ?_⟩
  obtain ⟨fs2, s2, sub⟩ := s1.leT (leTb_ok hl)
  refine q v H1 fs2 fv (t1.less fun a ha => (List.mem_append.mp ha).elim (fun z => by simp [z]) fun z => by simp [sub a z]) s2 ?_
  rw [hr]
  exact r.mono (hide_sub fun a ha => by
    simp only [List.mem_append] at ha ⊢
    exact ha.imp id (sub a)) fun _ _ => rfl
theorem dr_X (i : Nat) {t : Ty} (h : PE X e (tVar i)) (ht : τ[i]? = some t := by rfl) (hn : t ≠ .no := by intro z; cases z) (hr : γ.ret = t := by rfl) (hl : leTb γ.rty (τ.set i .no) = true := by rfl) : PE X e (tR X γ τ (sRetX i)) := pe_imp h fun σ H Q ⟨R, ρ, fs, d, ρ', s, e, q⟩ => by
  cases e
  obtain ⟨v, fo, f', ev, rp, s2, mem⟩ := s.take ht hn
  obtain ⟨fs2, s3, sub⟩ := s2.leT (leTb_ok hl)
  refine ⟨v, ev, q v H fs2 fo ((Step.refl H fs).less fun a ha => (mem a).mpr ((List.mem_append.mp ha).imp id (sub a))) s3 ?_⟩
  rw [hr]
  exact rp.mono (hide_sub fun a ha => (List.mem_append.mp ha).elim (fun z => List.mem_append_left _ z) fun z => List.mem_append_right _ (sub a z)) fun _ _ => rfl
def rtO : Out → Option Out
  | .rt d ρ => some (.rt d ρ)
  | _ => none
@[simp] theorem v_rtO (d : D) (ρ : Rho) : rtO (.rt d ρ) = some (.rt d ρ) := rfl
def sRetIf (t : Tf) (f g : Sf) : Sf := fun ρ => (t ρ).bind fun p => (if p.1 then f p.2 else g p.2).bind rtO
@[simp] theorem v_sRetIf (t : Tf) (f g : Sf) (ρ : Rho) : sRetIf t f g ρ = (t ρ).bind fun p => (if p.1 then f p.2 else g p.2).bind rtO := rfl
@[simp] theorem v_oNon (ρ : Rho) : oNon ρ = some (.non, ρ) := rfl
theorem ds_retIf {t : Tf} {f g : Sf} (hc : DT X c τ t) (ha : PE X a (tR X γ τ f)) (hb : PE X b (tR X γ τ g)) : DS X γ (.Return (some (.IfExp c a b p)) pos) τ (sRetIf t f g) τ' := ps_imp (ps_ret (pe_ifExp hc ha hb)) fun D σ H ⟨R, ρ, fs, o, s, e, q⟩ => by
  obtain ⟨pt, e1, e2⟩ := bindO e
  obtain ⟨o1, e3, e4⟩ := bindO e2
  refine ⟨R, ρ, fs, pt.1, pt.2, s, e1, fun H1 fs1 t1 s1 => ?_⟩
  cases o1 with
  | rt d ρ' =>
    cases e4
    cases hp : pt.1 with
    | true =>
      rw [hp, if_pos rfl] at e3
      exact iteT ⟨R, pt.2, fs1, d, ρ', s1, e3, fun v H2 fs2 fv t2 s2 r2 => q v σ H2 fs2 fv (t1.trans t2) (Kp.refl _ _) s2 r2⟩
    | false =>
      rw [hp] at e3
      exact iteF ⟨R, pt.2, fs1, d, ρ', s1, e3, fun v H2 fs2 fv t2 s2 r2 => q v σ H2 fs2 fv (t1.trans t2) (Kp.refl _ _) s2 r2⟩
  | nx => cases e4
  | bk => cases e4
  | ct => cases e4
theorem nn_retIf {t : Tf} {f g : Sf} : NN (sRetIf t f g) := fun ρ ρ' e => by
  obtain ⟨p, _, e2⟩ := bindO e
  obtain ⟨o, _, e3⟩ := bindO e2
  cases o <;> cases e3
end
end TL

set_option maxHeartbeats 2000000
/-! list(range(a, b)); xs.extend(a list) -/
namespace TL
open PySem PySem.Spec PyProof.Rows L2
section
variable {X : Cx} {τ : List Ty} {γ : Gm} {a b e o : Expr} {p pos p2 pos2 apos cpos : Pos}
def rg2Of (h h' : Hd) (ρ : Rho) : Option (D × Rho) := match h, h' with
  | .v (.int i), .v (.int j) => if small62 i && small62 j && okLen (j - i).toNat then some (.lst (intsD i (j - i).toNat), ρ) else none
  | _, _ => none
theorem v_rg2Of (i j : Int) (ρ : Rho) (h1 : small62 i = true) (h2 : small62 j = true) (h3 : okLen (j - i).toNat = true) : rg2Of (.v (.int i)) (.v (.int j)) ρ = some (.lst (intsD i (j - i).toNat), ρ) := by
  simp [rg2Of, h1, h2, h3]
def oRg2 (f g : Ef) : Of := fun ρ => (f ρ).bind fun p => (g p.2).bind fun q => rg2Of p.1 q.1 q.2
@[simp] theorem v_oRg2 (f g : Ef) (ρ : Rho) : oRg2 f g ρ = (f ρ).bind fun p => (g p.2).bind fun q => rg2Of p.1 q.1 q.2 := rfl
theorem do_rg2 {f g : Ef} (hc : X.calm = true) (hgl : Gl X "list") (hml : X.mg "list" = none) (hg : Gl X "range") (hm : X.mg "range" = none) (ha : DE X a τ f) (hb : DE X b τ g) (na : starEach [a, b] X.env = (false, eval a X.env) :: starEach [b] X.env := by rfl)
    (nb : starEach [b] X.env = (false, eval b X.env) :: starEach [] X.env := by rfl) (hp : (backTo pos (starEach [b] X.env)).any (·.1) = false := by rfl)
    (nc : starEach [.Call (.Name "range" p) [a, b] [] pos] X.env = (false, eval (.Call (.Name "range" p) [a, b] [] pos) X.env) :: starEach [] X.env := by rfl) :
    DO X (.Call (.Name "list" p2) [.Call (.Name "range" p) [a, b] [] pos] [] pos2) τ (oRg2 f g) (.oL .sh) := pe_imp (pe_listRg hc hgl hml (prg_2 hg hm ha hb na nb hp) nc) fun σ H Q ⟨R, ρ, fs, d, ρ', s, e, q⟩ => by
  obtain ⟨w, e1, e2⟩ := bindO e
  obtain ⟨z, e3, e4⟩ := bindO e2
  obtain ⟨w1, w2⟩ := w
  obtain ⟨z1, z2⟩ := z
  cases w1 with
  | x i => cases e4
  | v dw =>
    cases dw <;> first | (cases e4; done) | skip
    rename_i i
    cases z1 with
    | x i => cases e4
    | v dz =>
      cases dz <;> first | (cases e4; done) | skip
      rename_i j
      obtain ⟨e5, e6⟩ := ifSome' (show (if small62 i && small62 j && okLen (j - i).toNat then some (TL.D.lst (intsD i (j - i).toNat), z2) else none) = some (d, ρ') from e4)
      cases e6
      simp only [Bool.and_eq_true] at e5
      refine ⟨R, ρ, fs, _, _, s, e1, fun v H1 fs1 t1 s1 r1 => ⟨R, w2, fs1, _, _, s1, e3, fun v2 H2 fs2 t2 s2 r2 => ?_⟩⟩
      cases r1
      cases r2
      have a1 := small62_of e5.1.1
      have a2 := small62_of e5.1.2
      refine ⟨i, j, rfl, rfl, ⟨a1.1, a1.2, a2.1, a2.2, ?_⟩, fun a0 ha0 => ?_⟩
      · have := okLen_le e5.2
        rw [sizeLine_eq] at this
        omega
      · obtain ⟨n1, n2, n3⟩ := s2.newL ha0 (rfs_ints (mg := X.mg) i (j - i).toNat)
        exact q _ _ fs2 [a0] ((t1.trans t2).trans n3) n1 n2
/-! xs.extend(ys), ys a list that stays -/
def extOf (i : Nat) (p : Hd × Rho) : Option Out := match p.1, p.2.getD i .non with
  | .v (.lst m), .lst l => if okLen (l.length + m.length) then some (.nx (p.2.set i (.lst (l ++ m)))) else none
  | _, _ => none
theorem v_extOf (i : Nat) (m l : List D) (ρ : Rho) (h : ρ.getD i .non = .lst l) : extOf i (.v (.lst m), ρ) = if okLen (l.length + m.length) then some (.nx (ρ.set i (.lst (l ++ m)))) else none := by
  unfold extOf; simp only [h]
def sExt (i : Nat) (f : Ef) : Sf := fun ρ => (f ρ).bind (extOf i)
@[simp] theorem v_sExt (i : Nat) (f : Ef) (ρ : Rho) : sExt i f ρ = (f ρ).bind (extOf i) := rfl
theorem ds_ext {f : Ef} (i : Nat) (ho : PE X o (tVar i)) (he : DE X e τ f) (ht : τ[i]? = some (.oL .sh) := by rfl) (hbase : attributeBase o "extend" X.env (eval o X.env) = eval o X.env := by rfl)
    (hfew : ((backTo cpos (starEach [e] X.env)).all (fun x => !x.1) && (backToKw cpos (keywordEach [] X.env)).all (fun x => x.1.isSome)
      && decide ([e].length + ([] : List Keyword).length + (if ([] : List Keyword).isEmpty then 0 else 1) < 30)) = true := by rfl)
    (hline : (apos.endLine == cpos.line) = true := by rfl) (hs : starEach [e] X.env = (false, eval e X.env) :: starEach [] X.env := by rfl) :
    DS X γ (.Expr (.Call (.Attribute o "extend" apos) [e] [] cpos) pos) τ (sExt i f) τ :=
  ps_imp (ps_expr (pe_bm PySem.F.plainAttrs_list PySem.F.slot_list_extend PySem.F.type_list_extend mt_extend ho (pa_cons he pa_nil hs) hbase hfew hline hs rfl) rfl) fun D σ H ⟨R, ρ, fs, out, s, e, q⟩ => by
    obtain ⟨p, e1, e2⟩ := bindO e
    obtain ⟨p1, p2⟩ := p
    cases p1 with
    | x i => cases e2
    | v d =>
      cases d <;> first | (cases e2; done) | skip
      rename_i m
      obtain ⟨v0, f0, ev0, r0, _⟩ := s.get ht (by intro z; cases z)
      refine ⟨v0, ev0, ?_, R, ρ, fs, _, _, s, e1, fun v H1 fs1 t1 s1 r => ?_⟩
      · generalize ρ.getD i .non = d0 at r0
        cases r0 with
        | oL h _ => exact .inl ⟨rfl, _, .of h⟩
      · obtain ⟨f1, fo, f2, ef, hos, hl, _, h2, _⟩ := s1.sl.split ht
        rcases hos with ⟨z, _⟩ | ⟨v1, ev1, r1⟩
        · cases z
        rw [ev0] at ev1; cases ev1
        obtain ⟨l, el⟩ : ∃ l, p2.getD i .non = .lst l := by
          revert r1
          cases p2.getD i .non <;> intro r1 <;> first | exact ⟨_, rfl⟩ | cases r1
        have e3 : (if okLen (l.length + m.length) then some (Out.nx (p2.set i (.lst (l ++ m)))) else none) = some out := by
          rw [← v_extOf i m l p2 el]; exact e2
        obtain ⟨e4, e5⟩ := ifSome' e3
        cases e5
        rw [el] at r1
        cases r1 with
        | @oL t a vs ds g h rs =>
          obtain ⟨rf, eg⟩ := rs.to_sh
          subst eg
          have r : Rf X.K X.mg (hide (R ++ fs1) H1) (.lst m) v := r
          cases r with
          | @lst b zs _ hb rm =>
            have hlen : vs.length + zs.length ≤ sizeLine := by
              rw [← rf.length, ← rm.length]
              exact okLen_le e4
            refine ⟨a, b, vs, zs, rfl, rfl, h, hide_le _ _ _ _ hb, hlen, ?_⟩
            have le : Le (hide (R ++ fs1) H1) (hide (R ++ fs1) (upd H1 a (.lst (vs ++ zs)))) := hide_mono fun b u n e => ⟨n, by
              rw [upd_ne fun z => n (by rw [z, ef]; simp)]; exact e⟩
            obtain ⟨sn, tn⟩ := s1.write ht (f := []) ev0 (d := .lst m) ef (o := .lst (vs ++ zs)) (d' := .lst (l ++ m)) trivial h2 (.oL upd_same (Rps.of_sh ((rf.append rm).mono le)))
            exact q σ _ fs1 (t1.trans tn) (Kp.refl _ _) sn
end
end TL

set_option maxHeartbeats 2000000
/-! an int in a list or tuple of ints -/
namespace TL
open PySem PySem.Spec PyProof.Rows L2
def seqInts : D → Option (List Int)
  | .lst l => getInts l
  | .tup l => getInts l
  | _ => none
def dInF : D → D → Option D
  | .int i, d => (seqInts d).map fun ns => .bl (ns.any fun z => z == i)
  | _, _ => none
def dNotInF : D → D → Option D
  | .int i, d => (seqInts d).map fun ns => .bl (!ns.any fun z => z == i)
  | _, _ => none
section
variable {X : Cx}
theorem inV_ints (i : Int) (ns : List Int) : inV (.int i) (ns.map V.int) = ns.any (fun z => z == i) ∧ (ns.map V.int).all flatV = true := by
  unfold inV
  constructor
  · rw [List.any_map]; rfl
  · rw [List.all_map]; simp [flatV]
theorem seq_ints {S : List Addr} {H : Hp} {d : D} {v : V} {ns : List Int} (al : ∀ a ∈ S, ∃ o, H a = some o ∧ Own o) (r : Rv X.K X.mg S H d v) (e : seqInts d = some ns) : ∃ p, v = .ref p ∧ (SqL X.K H p (ns.map V.int) ∨ SqT X.K H p (ns.map V.int)) := by
  cases d <;> first | (cases e; done) | skip
  · have := getInts_map (show getInts _ = some ns from e)
    subst this
    obtain ⟨a, vs, rfl, h1, h1', q1⟩ := r.tup_inv
    have := q1.ints
    subst this
    exact ⟨a, rfl, .inr h1⟩
  · have := getInts_map (show getInts _ = some ns from e)
    subst this
    obtain ⟨a, vs, rfl, h1, q1⟩ := r.lst_inv
    have := q1.ints
    subst this
    exact ⟨a, rfl, .inl (.of h1)⟩
theorem od_inF : OpD X (rIn X.K false) dInF := fun S H d1 d2 d v1 v2 Q al r1 r2 e q => by
  cases d1 <;> first | (cases e; done) | skip
  rename_i i
  obtain ⟨ns, e1, rfl⟩ := mapO (show (seqInts d2).map _ = some d from e)
  obtain ⟨p, rfl, h⟩ := seq_ints al r2 e1
  obtain ⟨k1, k2⟩ := inV_ints i ns
  rw [r1.int_inv]
  exact ⟨p, _, rfl, h, rfl, k2, by rw [if_neg (by decide), k1]; exact q _ H (Grow.refl H) (.bl _)⟩
theorem od_notInF : OpD X (rIn X.K true) dNotInF := fun S H d1 d2 d v1 v2 Q al r1 r2 e q => by
  cases d1 <;> first | (cases e; done) | skip
  rename_i i
  obtain ⟨ns, e1, rfl⟩ := mapO (show (seqInts d2).map _ = some d from e)
  obtain ⟨p, rfl, h⟩ := seq_ints al r2 e1
  obtain ⟨k1, k2⟩ := inV_ints i ns
  rw [r1.int_inv]
  exact ⟨p, _, rfl, h, rfl, k2, by rw [if_pos rfl, k1]; exact q _ H (Grow.refl H) (.bl _)⟩
end
end TL

set_option maxHeartbeats 2000000
/-! max of a tuple of ints -/
namespace TL
open PySem PySem.Spec PyProof.Rows L2
section
variable {prog : Program} {w : World} {A : Around} {E : Value → Shared → Prop} {s : Shared} {l : Addr} {xs : Array (Int × Tok)} {its : List Value} {ns : List Int} {Q : Value → Shared → Prop}
theorem max_intTup (hh : A.handled = none) (hl : s.heap.IsTuple l (intItems xs)) (hne : 0 < xs.size)
    (h : ∀ v h' tk, (intItems xs)[argBest (fun i j => decide (numAt xs i > numAt xs j)) (xs.size - 1)]? = some v → (∀ b o, s.heap.get? b = some o → h'.get? b = some o) → Q v { s with heap := h', toks := tk }) :
    wpAny (model prog w) A (call (.builtin "max") [.ref l]) Q E s := by
  have hlt : l < s.heap.objs.size := by obtain ⟨_, e, _⟩ := hl; exact Heap.lt_size e
  refine call_max_walk (wpAny_pyIter_tuple hl ⟨s.heap.objs.size, [s.heap.objs.size, l], [s.heap.objs.size], _, _, _, _, rfl, Walks.tuple (A := A.in1) hh _ l (Nat.ne_of_lt hlt) (intItems xs), ⟨⟨_, Heap.get?_push_size _ rfl, rfl, rfl⟩, hl.push _⟩, fun b hb => ?_, by simpa [intItems] using hne, CmpOf.ints_gt (numAt xs) (fun _ _ => intItems_at), fun v h' tk hP hk => ?_⟩)
  · show b < (s.heap.push _).objs.size
    rw [Heap.size_push]
    rcases List.mem_cons.mp hb with rfl | hb
    · exact Nat.lt_succ_self _
    · rcases List.mem_cons.mp hb with rfl | hb
      · exact Nat.lt_succ_of_lt hlt
      · cases hb
  · refine h v h' tk (by simpa [intItems] using hP) fun b o e => hk b o (fun hm => ?_) (Heap.get?_push_of_some _ e)
    rcases List.mem_cons.mp hm with e1 | hm
    · exact absurd (e1 ▸ Heap.lt_size e) (Nat.lt_irrefl _)
    · cases hm
theorem max_rawT (hh : A.handled = none) (hl : s.heap.IsTuple l its.toArray) (hi : IntsAre its ns) (hne : 0 < ns.length)
    (h : ∀ h' tk M t', (∀ b o, s.heap.get? b = some o → h'.get? b = some o) → M ∈ ns → (∀ a, a ∈ ns → a ≤ M) → Q (.int M t') { s with heap := h', toks := tk }) : wpAny (model prog w) A (call (.builtin "max") [.ref l]) Q E s := by
  obtain ⟨xs, e⟩ := hi.allInts.items
  have hn : numsOf (intItems xs).toList = ns := by rw [← e]; exact hi.numsOf
  rw [nums_intItems] at hn
  subst hn
  rw [e] at hl
  have hsz : 0 < xs.size := by simpa using hne
  refine max_intTup hh hl hsz fun v h' tk hv hk => ?_
  obtain ⟨t, rfl⟩ := intItems_at hv
  obtain ⟨h1, h2⟩ := argBest_gt (numAt xs) (xs.size - 1)
  refine h h' tk _ t hk ?_ fun a ha => ?_
  · rw [numAt_eq]; exact PySem.getD_mem (by rw [List.length_map, Array.length_toList]; omega)
  · obtain ⟨j, hj, rfl⟩ := mem_getD ha
    rw [List.length_map, Array.length_toList] at hj
    rw [← numAt_eq]; exact h2 j (by omega)
end
section
variable {X : Cx}
def rMaxS (K : PySem.W.Frag) : List V → Hp → VK → Prop := fun vs H Q => ∃ (a : Addr) (ns : List Int), vs = [V.ref a] ∧ (SqL K H a (ns.map V.int) ∨ SqT K H a (ns.map V.int)) ∧ 0 < ns.length ∧ ∀ m, m ∈ ns → (∀ y, y ∈ ns → y ≤ m) → Q (.int m) H
theorem cr_maxS (hc : X.calm = true) : CallR X (.builtin "max") (rMaxS X.K) := by
  intro pins s σ H vs us Q I r h
  obtain ⟨a, ns, rfl, hs, hne, q⟩ := h
  rw [L2.Vals.ref1 r]
  rcases hs with hs | hs
  · obtain ⟨its, rv, hl, _⟩ := I.list hs
    exact max_raw (I.ok.hd hc) hl.isList rv.ints hne fun h' tk m t' hk h1 h2 => ⟨.int _, H, I.kept hk, ⟨_, rfl⟩, q m h1 h2⟩
  · obtain ⟨its, rv, hl, _⟩ := I.tuple hs
    exact max_rawT (I.ok.hd hc) (show s.heap.IsTuple a its.toArray from hl) rv.ints hne fun h' tk m t' hk h1 h2 => ⟨.int _, H, I.kept hk, ⟨_, rfl⟩, q m h1 h2⟩
def maxS : D → Option D := fun d => (seqInts d).bind fun ns => (lmax ns).map D.int
theorem ca_maxS : CaD X (rMaxS X.K) (f1 maxS) := ca1 fun S H d1 d v1 Q al r1 e q => by
  obtain ⟨ns, e1, e2⟩ := bindO (show (seqInts d1).bind _ = some d from e)
  obtain ⟨m, e3, rfl⟩ := mapO e2
  obtain ⟨p, rfl, h⟩ := seq_ints al r1 e1
  cases ns with
  | nil => cases e3
  | cons x r =>
    cases e3
    have sp := lmax_spec r x
    refine ⟨p, x :: r, rfl, h, by simp, fun m hm hy => ?_⟩
    have : m = r.foldl (fun m x => if x > m then x else m) x := Int.le_antisymm (sp.2 m hm) (hy _ sp.1)
    subst this
    exact q _ H (Grow.refl H) (.int _)
end
end TL

set_option maxHeartbeats 2000000
/-! plans, plain: walks over steps, least bounds -/
namespace PL
structure Stp where
  i : Nat
  j : Nat
  m : Int
  deriving DecidableEq
inductive Walk (S : List Stp) : Nat → Nat → Int → Prop
  | nil (a : Nat) : Walk S a a 0
  | cons {s : Stp} {c : Nat} {x : Int} : s ∈ S → Walk S s.j c x → Walk S s.i c (s.m + x)
def Dle (S : List Stp) (a b : Nat) (x : Int) : Prop := ∃ w, w ≤ x ∧ Walk S a b w
def Neg (S : List Stp) : Prop := ∃ a x, x < 0 ∧ Walk S a a x
theorem Walk.append {S : List Stp} {a b c : Nat} {x y : Int} (h : Walk S a b x) (k : Walk S b c y) : Walk S a c (x + y) := by
  induction h with
  | nil a => simpa using k
  | cons hs _ ih =>
    have := Walk.cons hs (ih k)
    rw [Int.add_assoc]; exact this
theorem Walk.mono {S T : List Stp} (h : ∀ s ∈ S, s ∈ T) {a b : Nat} {x : Int} (k : Walk S a b x) : Walk T a b x := by
  induction k with
  | nil a => exact .nil a
  | cons hs _ ih => exact .cons (h _ hs) ih
theorem Walk.one {S : List Stp} {s : Stp} (h : s ∈ S) : Walk S s.i s.j s.m := by
  have := Walk.cons h (.nil s.j)
  simpa using this
theorem Dle.mono {S : List Stp} {a b : Nat} {x y : Int} (h : Dle S a b x) (k : x ≤ y) : Dle S a b y := by
  obtain ⟨w, h1, h2⟩ := h
  exact ⟨w, by omega, h2⟩
theorem Dle.add {S : List Stp} {a b c : Nat} {x y : Int} (h : Dle S a b x) (k : Dle S b c y) : Dle S a c (x + y) := by
  obtain ⟨w, h1, h2⟩ := h
  obtain ⟨v, k1, k2⟩ := k
  exact ⟨w + v, by omega, h2.append k2⟩
theorem Dle.refl (S : List Stp) (a : Nat) : Dle S a a 0 := ⟨0, by omega, .nil a⟩
theorem Dle.sub {S T : List Stp} (h : ∀ s ∈ S, s ∈ T) {a b : Nat} {x : Int} (k : Dle S a b x) : Dle T a b x := by
  obtain ⟨w, h1, h2⟩ := k
  exact ⟨w, h1, h2.mono h⟩
theorem Dle.congr {S T : List Stp} (h : ∀ s, s ∈ S ↔ s ∈ T) {a b : Nat} {x : Int} : Dle S a b x ↔ Dle T a b x := ⟨.sub fun s => (h s).mp, .sub fun s => (h s).mpr⟩
theorem Neg.congr {S T : List Stp} (h : ∀ s, s ∈ S ↔ s ∈ T) : Neg S ↔ Neg T := by
  constructor
  · rintro ⟨a, x, h1, h2⟩; exact ⟨a, x, h1, h2.mono fun s => (h s).mp⟩
  · rintro ⟨a, x, h1, h2⟩; exact ⟨a, x, h1, h2.mono fun s => (h s).mpr⟩
theorem neg_of {S : List Stp} {a : Nat} {x : Int} (h : Dle S a a x) (hx : x < 0) : Neg S := by
  obtain ⟨w, h1, h2⟩ := h
  exact ⟨a, w, by omega, h2⟩
/-- one step more, with which no ring gets short -/
theorem dle_snoc {S : List Stp} {e : Stp} (hn : ¬ Neg S) (hb : ∀ y, Dle S e.j e.i y → 0 ≤ y + e.m) (a c : Nat) (x : Int) :
    Dle (S ++ [e]) a c x ↔ Dle S a c x ∨ ∃ f l, Dle S a e.i f ∧ Dle S e.j c l ∧ f + e.m + l ≤ x := by
  have up : ∀ s ∈ S, s ∈ S ++ [e] := fun s h => List.mem_append_left _ h
  constructor
  · rintro ⟨w, h1, h2⟩
    have key : ∀ {a c : Nat} {w : Int}, Walk (S ++ [e]) a c w → Dle S a c w ∨ ∃ f l, Dle S a e.i f ∧ Dle S e.j c l ∧ f + e.m + l ≤ w := by
      intro a c w h
      induction h with
      | nil a => exact .inl (.refl S a)
      | @cons s c x hs _ ih =>
        rcases List.mem_append.mp hs with hs | hs
        · have d : Dle S s.i s.j s.m := ⟨s.m, Int.le_refl _, .one hs⟩
          rcases ih with k | ⟨f, l, k1, k2, k3⟩
          · exact .inl (d.add k)
          · exact .inr ⟨s.m + f, l, d.add k1, k2, by omega⟩
        · have : s = e := by simpa using hs
          subst this
          rcases ih with k | ⟨f, l, k1, k2, k3⟩
          · exact .inr ⟨0, x, .refl S _, k, by omega⟩
          · have := hb f k1
            exact .inr ⟨0, l, .refl S _, k2, by omega⟩
    rcases key h2 with k | ⟨f, l, k1, k2, k3⟩
    · exact .inl (k.mono h1)
    · exact .inr ⟨f, l, k1, k2, by omega⟩
  · rintro (h | ⟨f, l, k1, k2, k3⟩)
    · exact h.sub up
    · have d : Dle (S ++ [e]) e.i e.j e.m := ⟨e.m, Int.le_refl _, .one (by simp)⟩
      exact (((k1.sub up).add d).add (k2.sub up)).mono k3
theorem neg_snoc {S : List Stp} {e : Stp} (hn : ¬ Neg S) (hb : ∀ y, Dle S e.j e.i y → 0 ≤ y + e.m) : ¬ Neg (S ++ [e]) := by
  rintro ⟨a, x, h1, h2⟩
  rcases (dle_snoc hn hb a a x).mp ⟨x, Int.le_refl _, h2⟩ with k | ⟨f, l, k1, k2, k3⟩
  · exact hn (neg_of k h1)
  · have := hb _ (k2.add k1)
    omega
theorem neg_snoc' {S : List Stp} {e : Stp} {y : Int} (h : Dle S e.j e.i y) (hy : y + e.m < 0) : Neg (S ++ [e]) := by
  have up : ∀ s ∈ S, s ∈ S ++ [e] := fun s h => List.mem_append_left _ h
  have d : Dle (S ++ [e]) e.i e.j e.m := ⟨e.m, Int.le_refl _, .one (by simp)⟩
  exact neg_of ((h.sub up).add d) hy
theorem neg_mono {S T : List Stp} (h : ∀ s ∈ S, s ∈ T) (k : Neg S) : Neg T := by
  obtain ⟨a, x, h1, h2⟩ := k
  exact ⟨a, x, h1, h2.mono h⟩
theorem walk_in {S : List Stp} {n : Nat} (hS : ∀ s ∈ S, s.i < n ∧ s.j < n) {a b : Nat} {x : Int} (h : Walk S a b x) : (a < n ↔ b < n) := by
  induction h with
  | nil a => exact Iff.rfl
  | cons hs _ ih =>
    have := hS _ hs
    exact ⟨fun _ => ih.mp this.2, fun _ => this.1⟩
theorem walk_out {S : List Stp} {n : Nat} (hS : ∀ s ∈ S, s.i < n ∧ s.j < n) {a b : Nat} {x : Int} (h : Walk S a b x) (ha : ¬ a < n) : a = b ∧ x = 0 := by
  cases h with
  | nil => exact ⟨rfl, rfl⟩
  | cons hs _ => exact absurd (hS _ hs).1 ha
/-! tables of pairs -/
abbrev AL (α : Type) := List ((Nat × Nat) × α)
def look {α : Type} (l : AL α) (k : Nat × Nat) : Option α := (l.find? fun p => decide (p.1 = k)).map (·.2)
def put {α : Type} (l : AL α) (k : Nat × Nat) (v : α) : AL α := if (l.any fun p => decide (p.1 = k)) = true then l.map (fun p => if p.1 = k then (p.1, v) else p) else l ++ [(k, v)]
theorem look_put {α : Type} (l : AL α) (k k' : Nat × Nat) (v : α) : look (put l k v) k' = if k' = k then some v else look l k' := by
  unfold look put
  by_cases h : (l.any fun p => decide (p.1 = k)) = true
  · rw [if_pos h]
    induction l with
    | nil => simp at h
    | cons p l ih =>
      simp only [List.map_cons, List.find?_cons]
      by_cases hp : p.1 = k
      · rw [if_pos hp]
        by_cases hk : k' = k
        · simp [hp, hk]
        · have n1 : ¬ p.1 = k' := fun z => hk (z.symm.trans hp)
          simp only [n1, decide_false, hk, if_false]
          by_cases hl : (l.any fun p => decide (p.1 = k)) = true
          · have := ih hl
            simpa [hk] using this
          · have : l.map (fun p => if p.1 = k then (p.1, v) else p) = l := by
              have hl' : ∀ q ∈ l, q.1 ≠ k := fun q hq z => hl (List.any_eq_true.mpr ⟨q, hq, by simp [z]⟩)
              conv => rhs; rw [← List.map_id l]
              exact List.map_congr_left fun q hq => by simp [hl' q hq]
            rw [this]
      · rw [if_neg hp]
        have hl : (l.any fun p => decide (p.1 = k)) = true := by simpa [hp] using h
        have := ih hl
        by_cases hk : p.1 = k'
        · have n2 : ¬ k' = k := fun z => hp (hk.trans z)
          simp [hk, n2]
        · simp only [hk, decide_false]
          exact this
  · rw [if_neg h]
    have h' : ∀ q ∈ l, q.1 ≠ k := fun q hq z => h (List.any_eq_true.mpr ⟨q, hq, by simp [z]⟩)
    rw [List.find?_append]
    by_cases hk : k' = k
    · subst hk
      have : l.find? (fun p => decide (p.1 = k')) = none := List.find?_eq_none.mpr fun q hq => by simpa using h' q hq
      simp [this]
    · have : (([(k, v)] : AL α).find? fun p => decide (p.1 = k')) = none := by
        have : ¬ k = k' := fun z => hk z.symm
        simp [this]
      rw [this]
      simp [hk]
theorem put_len {α : Type} (l : AL α) (k : Nat × Nat) (v : α) : (put l k v).length ≤ l.length + 1 := by
  unfold put
  split <;> simp
theorem put_len' {α : Type} (l : AL α) (k : Nat × Nat) (v : α) : l.length ≤ (put l k v).length := by
  unfold put
  split <;> simp
/-! what a table says: at most x -/
def Le (L : Nat → Nat → Option Int) (a b : Nat) (x : Int) : Prop := ∃ z, L a b = some z ∧ z ≤ x
theorem le_eq {L M : Nat → Nat → Option Int} {a b : Nat} (h : ∀ x, Le L a b x ↔ Le M a b x) : L a b = M a b := by
  cases e : L a b with
  | some z =>
    obtain ⟨y, e2, hy⟩ := (h z).mp ⟨z, e, Int.le_refl _⟩
    obtain ⟨z', e3, hz⟩ := (h y).mpr ⟨y, e2, Int.le_refl _⟩
    rw [e] at e3; cases e3
    rw [e2]; congr 1; omega
  | none =>
    cases e2 : M a b with
    | none => rfl
    | some y =>
      obtain ⟨z, e3, _⟩ := (h y).mpr ⟨y, e2, Int.le_refl _⟩
      rw [e] at e3; cases e3
end PL

set_option maxHeartbeats 2000000
/-! Bounds, plain -/
namespace PL
structure Bs where
  n : Nat
  L : AL Int
  W : AL (List Nat)
  ring : Option (List Nat)
def Bs.lk (b : Bs) (i j : Nat) : Option Int := look b.L (i, j)
def relax1 (m : Int) (i j a : Nat) (f : Int) (b : Bs) (p : Nat × Int) : Bs :=
  if a ≠ p.1 ∧ f + m + p.2 < (look b.L (a, p.1)).getD (f + m + p.2 + 1) then
    { b with L := put b.L (a, p.1) (f + m + p.2), W := put b.W (a, p.1) ((look b.W (a, i)).getD [] ++ (look b.W (j, p.1)).getD []) } else b
def ahead (b : Bs) (i : Nat) : List (Nat × Int) := (List.range b.n).filterMap fun a => (look b.L (a, i)).map fun f => (a, f)
def behind (b : Bs) (j : Nat) : List (Nat × Int) := (List.range b.n).filterMap fun c => (look b.L (j, c)).map fun l => (c, l)
def relaxA (m : Int) (i j : Nat) (B : List (Nat × Int)) (b : Bs) (p : Nat × Int) : Bs := B.foldl (relax1 m i j p.1 p.2) b
def relax (b : Bs) (i j : Nat) (m : Int) : Bs := (ahead b i).foldl (relaxA m i j (behind b j)) b
def isShort (b : Bs) (i j : Nat) (m : Int) : Bool := match look b.L (j, i) with
  | some y => decide (y + m < 0)
  | none => false
def add (b : Bs) (i j : Nat) (m : Int) : Bs := if b.ring.isSome then b else if isShort b i j m then { b with ring := some (i :: (look b.W (j, i)).getD []) } else relax b i j m
theorem mem_ahead {b : Bs} {i a : Nat} {f : Int} : (a, f) ∈ ahead b i ↔ a < b.n ∧ b.lk a i = some f := by
  unfold ahead Bs.lk
  simp only [List.mem_filterMap, List.mem_range, Option.map_eq_some_iff]
  constructor
  · rintro ⟨x, h1, y, h2, h3⟩
    cases h3; exact ⟨h1, h2⟩
  · rintro ⟨h1, h2⟩; exact ⟨a, h1, f, h2, rfl⟩
theorem mem_behind {b : Bs} {j c : Nat} {f : Int} : (c, f) ∈ behind b j ↔ c < b.n ∧ b.lk j c = some f := by
  unfold behind Bs.lk
  simp only [List.mem_filterMap, List.mem_range, Option.map_eq_some_iff]
  constructor
  · rintro ⟨x, h1, y, h2, h3⟩
    cases h3; exact ⟨h1, h2⟩
  · rintro ⟨h1, h2⟩; exact ⟨c, h1, f, h2, rfl⟩
/-- what stays: the number of events, no ring, the ways where the bounds are; the lengths -/
structure Same (b b' : Bs) (k : Nat) : Prop where
  n : b'.n = b.n
  ring : b'.ring = b.ring
  dom : (∀ k, (look b.W k).isSome = (look b.L k).isSome) → ∀ k, (look b'.W k).isSome = (look b'.L k).isSome
  lenL : b'.L.length ≤ b.L.length + k
  lenW : b'.W.length ≤ b.W.length + k
  up : ∀ k, (look b.L k).isSome = true → (look b'.L k).isSome = true
theorem Same.refl (b : Bs) : Same b b 0 := ⟨rfl, rfl, id, by omega, by omega, fun _ h => h⟩
theorem Same.trans {a b c : Bs} {k l : Nat} (h : Same a b k) (g : Same b c l) : Same a c (k + l) :=
  ⟨g.n.trans h.n, g.ring.trans h.ring, fun z => g.dom (h.dom z), by have := h.lenL; have := g.lenL; omega, by have := h.lenW; have := g.lenW; omega, fun k z => g.up k (h.up k z)⟩
theorem Same.weak {a b : Bs} {k l : Nat} (h : Same a b k) (hl : k ≤ l) : Same a b l := ⟨h.n, h.ring, h.dom, by have := h.lenL; omega, by have := h.lenW; omega, h.up⟩
theorem relax1_same (m : Int) (i j a : Nat) (f : Int) (b : Bs) (p : Nat × Int) : Same b (relax1 m i j a f b p) 1 := by
  unfold relax1
  split
  · refine ⟨rfl, rfl, fun z k => ?_, put_len _ _ _, put_len _ _ _, fun k z => ?_⟩
    · show (look (put b.W _ _) k).isSome = (look (put b.L _ _) k).isSome
      rw [look_put, look_put]
      split
      · rfl
      · exact z k
    · show (look (put b.L _ _) k).isSome = true
      rw [look_put]
      split
      · rfl
      · exact z
  · exact (Same.refl b).weak (by omega)
theorem relaxA_same (m : Int) (i j : Nat) : ∀ (B : List (Nat × Int)) (b : Bs) (p : Nat × Int), Same b (relaxA m i j B b p) B.length
  | [], b, p => Same.refl b
  | q :: B, b, p => by
    have := (relax1_same m i j p.1 p.2 b q).trans (relaxA_same m i j B (relax1 m i j p.1 p.2 b q) p)
    exact this.weak (by simp; omega)
theorem relaxF_same (m : Int) (i j : Nat) (B : List (Nat × Int)) : ∀ (A : List (Nat × Int)) (b : Bs), Same b (A.foldl (relaxA m i j B) b) (A.length * B.length)
  | [], b => (Same.refl b).weak (by simp)
  | q :: A, b => by
    have := (relaxA_same m i j B b q).trans (relaxF_same m i j B A (relaxA m i j B b q))
    refine this.weak ?_
    rw [List.length_cons, Nat.succ_mul]; omega
theorem ahead_len (b : Bs) (i : Nat) : (ahead b i).length ≤ b.n := by
  unfold ahead
  exact Nat.le_trans (List.length_filterMap_le _ _) (by simp)
theorem behind_len (b : Bs) (i : Nat) : (behind b i).length ≤ b.n := by
  unfold behind
  exact Nat.le_trans (List.length_filterMap_le _ _) (by simp)
theorem relax_same (b : Bs) (i j : Nat) (m : Int) : Same b (relax b i j m) (b.n * b.n) :=
  (relaxF_same m i j (behind b j) (ahead b i) b).weak (Nat.mul_le_mul (ahead_len b i) (behind_len b j))
theorem relax1_le (m : Int) (i j a : Nat) (f : Int) (b : Bs) (p : Nat × Int) (a' c : Nat) (x : Int) : Le (relax1 m i j a f b p).lk a' c x ↔ Le b.lk a' c x ∨ (a' = a ∧ c = p.1 ∧ a ≠ p.1 ∧ f + m + p.2 ≤ x) := by
  unfold relax1
  generalize f + m + p.2 = t
  by_cases h1 : a = p.1
  · rw [if_neg fun z => z.1 h1]
    exact ⟨.inl, fun h => h.elim id fun z => absurd h1 z.2.2.1⟩
  by_cases h2 : t < (look b.L (a, p.1)).getD (t + 1)
  · rw [if_pos ⟨h1, h2⟩]
    unfold Le Bs.lk
    simp only [look_put]
    by_cases hk : (a', c) = (a, p.1)
    · rw [if_pos hk]
      simp only [Prod.mk.injEq] at hk
      obtain ⟨rfl, rfl⟩ := hk
      constructor
      · rintro ⟨z, e, hz⟩; cases e; exact .inr ⟨rfl, rfl, h1, hz⟩
      · rintro (⟨z, e, hz⟩ | ⟨_, _, _, hz⟩)
        · rw [e] at h2
          simp only [Option.getD_some] at h2
          exact ⟨t, rfl, by omega⟩
        · exact ⟨t, rfl, hz⟩
    · rw [if_neg hk]
      constructor
      · exact .inl
      · rintro (h | ⟨rfl, rfl, _, _⟩)
        · exact h
        · exact absurd rfl hk
  · rw [if_neg fun z => h2 z.2]
    constructor
    · exact .inl
    · rintro (h | ⟨rfl, rfl, _, hz⟩)
      · exact h
      · cases e : look b.L (a', p.1) with
        | none => rw [e] at h2; simp only [Option.getD_none] at h2; omega
        | some z => rw [e] at h2; simp only [Option.getD_some] at h2; exact ⟨z, e, by omega⟩
theorem relaxA_le (m : Int) (i j : Nat) : ∀ (B : List (Nat × Int)) (b : Bs) (p : Nat × Int) (a c : Nat) (x : Int), Le (relaxA m i j B b p).lk a c x ↔ Le b.lk a c x ∨ (a = p.1 ∧ a ≠ c ∧ ∃ l, (c, l) ∈ B ∧ p.2 + m + l ≤ x)
  | [], b, p, a, c, x => by simp [relaxA]
  | q :: B, b, p, a, c, x => by
    have e : relaxA m i j (q :: B) b p = relaxA m i j B (relax1 m i j p.1 p.2 b q) p := rfl
    rw [e, relaxA_le m i j B _ p a c x, relax1_le]
    constructor
    · rintro ((h | ⟨rfl, rfl, h1, h2⟩) | ⟨h1, h2, l, h3, h4⟩)
      · exact .inl h
      · exact .inr ⟨rfl, h1, q.2, by simp, h2⟩
      · exact .inr ⟨h1, h2, l, by simp [h3], h4⟩
    · rintro (h | ⟨h1, h2, l, h3, h4⟩)
      · exact .inl (.inl h)
      · rcases List.mem_cons.mp h3 with z | z
        · subst h1
          have h5 : c = q.1 := congrArg Prod.fst z
          have h6 : l = q.2 := congrArg Prod.snd z
          subst h5; subst h6
          exact .inl (.inr ⟨rfl, rfl, h2, h4⟩)
        · exact .inr ⟨h1, h2, l, z, h4⟩
theorem relaxF_le (m : Int) (i j : Nat) (B : List (Nat × Int)) : ∀ (A : List (Nat × Int)) (b : Bs) (a c : Nat) (x : Int), Le (A.foldl (relaxA m i j B) b).lk a c x ↔ Le b.lk a c x ∨ (a ≠ c ∧ ∃ f l, (a, f) ∈ A ∧ (c, l) ∈ B ∧ f + m + l ≤ x)
  | [], b, a, c, x => by simp
  | q :: A, b, a, c, x => by
    rw [List.foldl_cons, relaxF_le m i j B A _ a c x, relaxA_le]
    constructor
    · rintro ((h | ⟨rfl, h1, l, h2, h3⟩) | ⟨h1, f, l, h2, h3, h4⟩)
      · exact .inl h
      · exact .inr ⟨h1, q.2, l, by simp, h2, h3⟩
      · exact .inr ⟨h1, f, l, by simp [h2], h3, h4⟩
    · rintro (h | ⟨h1, f, l, h2, h3, h4⟩)
      · exact .inl (.inl h)
      · rcases List.mem_cons.mp h2 with z | z
        · have h5 : a = q.1 := congrArg Prod.fst z
          have h6 : f = q.2 := congrArg Prod.snd z
          subst h5; subst h6
          exact .inl (.inr ⟨rfl, h1, l, h3, h4⟩)
        · exact .inr ⟨h1, f, l, z, h3, h4⟩
theorem relax_le (b : Bs) (i j : Nat) (m : Int) (a c : Nat) (x : Int) : Le (relax b i j m).lk a c x ↔ Le b.lk a c x ∨ (a ≠ c ∧ a < b.n ∧ c < b.n ∧ ∃ f l, b.lk a i = some f ∧ b.lk j c = some l ∧ f + m + l ≤ x) := by
  unfold relax
  rw [relaxF_le]
  constructor
  · rintro (h | ⟨h1, f, l, h2, h3, h4⟩)
    · exact .inl h
    · obtain ⟨g1, g2⟩ := mem_ahead.mp h2
      obtain ⟨g3, g4⟩ := mem_behind.mp h3
      exact .inr ⟨h1, g1, g3, f, l, g2, g4, h4⟩
  · rintro (h | ⟨h1, g1, g3, f, l, g2, g4, h4⟩)
    · exact .inl h
    · exact .inr ⟨h1, f, l, mem_ahead.mpr ⟨g1, g2⟩, mem_behind.mpr ⟨g3, g4⟩, h4⟩
/-- the bounds of the steps S -/
structure BInv (n : Nat) (S : List Stp) (b : Bs) (k : Nat) : Prop where
  nn : b.n = n
  dom : ∀ k, (look b.W k).isSome = (look b.L k).isSome
  lenL : b.L.length ≤ k
  lenW : b.W.length ≤ k
  ok : b.ring = none → ¬ Neg S ∧ ∀ i j, i < n → j < n → ∀ x, Le b.lk i j x ↔ Dle S i j x
  bad : b.ring ≠ none → Neg S
theorem inv_add {n : Nat} {S : List Stp} {b : Bs} {k i j : Nat} {m : Int} (I : BInv n S b k) (hi : i < n) (hj : j < n) : BInv n (S ++ [⟨i, j, m⟩]) (add b i j m) (k + n * n) := by
  have up : ∀ s ∈ S, s ∈ S ++ [⟨i, j, m⟩] := fun s h => List.mem_append_left _ h
  unfold add
  have hk : k ≤ k + n * n := Nat.le_add_right _ _
  cases hr : b.ring with
  | some r =>
    rw [if_pos (by simp)]
    exact ⟨I.nn, I.dom, Nat.le_trans I.lenL hk, Nat.le_trans I.lenW hk, fun z => (by rw [hr] at z; cases z), fun _ => neg_mono up (I.bad (by rw [hr]; simp))⟩
  | none =>
    rw [if_neg (by simp)]
    obtain ⟨ng, le⟩ := I.ok hr
    by_cases hs : isShort b i j m = true
    · rw [if_pos hs]
      refine ⟨I.nn, I.dom, Nat.le_trans I.lenL hk, Nat.le_trans I.lenW hk, fun z => (by cases z), fun _ => ?_⟩
      unfold isShort at hs
      cases e : look b.L (j, i) with
      | none => rw [e] at hs; cases hs
      | some y =>
        rw [e] at hs
        have hy : y + m < 0 := by simpa using hs
        exact neg_snoc' (e := ⟨i, j, m⟩) ((le j i hj hi y).mp ⟨y, e, Int.le_refl _⟩) hy
    · rw [if_neg hs]
      have hb : ∀ y, Dle S j i y → 0 ≤ y + m := fun y hy => by
        obtain ⟨z, e, hz⟩ := (le j i hj hi y).mpr hy
        unfold isShort at hs
        rw [show look b.L (j, i) = some z from e] at hs
        have : ¬ z + m < 0 := by simpa using hs
        omega
      have sm := relax_same b i j m
      rw [I.nn] at sm
      refine ⟨sm.n.trans I.nn, sm.dom I.dom, by have := sm.lenL; have := I.lenL; omega, by have := sm.lenW; have := I.lenW; omega, fun _ => ⟨neg_snoc (e := ⟨i, j, m⟩) ng hb, fun a c ha hc x => ?_⟩, fun z => absurd (sm.ring.trans hr) z⟩
      rw [relax_le, dle_snoc (e := ⟨i, j, m⟩) ng hb, le a c ha hc x, I.nn]
      constructor
      · rintro (h | ⟨_, _, _, f, l, h1, h2, h3⟩)
        · exact .inl h
        · exact .inr ⟨f, l, (le a i ha hi f).mp ⟨f, h1, Int.le_refl _⟩, (le j c hj hc l).mp ⟨l, h2, Int.le_refl _⟩, h3⟩
      · rintro (h | ⟨f, l, h1, h2, h3⟩)
        · exact .inl h
        · by_cases hac : a = c
          · subst hac
            have := hb _ (h2.add h1)
            have h3 : f + m + l ≤ x := h3
            exact .inl ((Dle.refl S a).mono (by omega))
          · obtain ⟨f', e1, g1⟩ := (le a i ha hi f).mpr h1
            obtain ⟨l', e2, g2⟩ := (le j c hj hc l).mpr h2
            have h3 : f + m + l ≤ x := h3
            exact .inr ⟨hac, ha, hc, f', l', e1, e2, by omega⟩
def addS (b : Bs) (s : Stp) : Bs := add b s.i s.j s.m
theorem inv_steps {n : Nat} : ∀ (T : List Stp) {S : List Stp} {b : Bs} {k : Nat}, BInv n S b k → (∀ s ∈ T, s.i < n ∧ s.j < n) → BInv n (S ++ T) (T.foldl addS b) (k + T.length * (n * n))
  | [], S, b, k, I, _ => by simpa using I
  | s :: T, S, b, k, I, h => by
    have h1 := h s (by simp)
    have := inv_steps T (inv_add (m := s.m) I h1.1 h1.2) fun s hs => h s (by simp [hs])
    rw [List.foldl_cons]
    have e : S ++ s :: T = S ++ [⟨s.i, s.j, s.m⟩] ++ T := by simp
    rw [e, List.length_cons, Nat.succ_mul, Nat.add_comm (T.length * (n * n)), ← Nat.add_assoc]
    exact this
def diag {α : Type} (f : Nat → α) (n : Nat) : AL α := (List.range n).map fun e => ((e, e), f e)
def new (n : Nat) : Bs := ⟨n, diag (fun _ => 0) n, diag (fun e => [e]) n, none⟩
def ofSteps (n : Nat) (T : List Stp) : Bs := T.foldl addS (new n)
theorem look_diag {α : Type} (f : Nat → α) (n a b : Nat) : look (diag f n) (a, b) = if a = b ∧ a < n then some (f a) else none := by
  unfold look diag
  induction n with
  | zero => simp
  | succ n ih =>
    rw [List.range_succ, List.map_append, List.find?_append]
    by_cases h : a = b ∧ a < n
    · rw [if_pos h] at ih
      rw [if_pos ⟨h.1, by omega⟩]
      cases e : ((List.range n).map fun e => ((e, e), f e)).find? (fun p => decide (p.1 = (a, b))) with
      | none => rw [e] at ih; cases ih
      | some p => rw [e] at ih; simpa using ih
    · rw [if_neg h] at ih
      cases e : ((List.range n).map fun e => ((e, e), f e)).find? (fun p => decide (p.1 = (a, b))) with
      | some p => rw [e] at ih; cases ih
      | none =>
        by_cases h2 : a = b ∧ a < n + 1
        · have : a = n := by omega
          obtain ⟨rfl, _⟩ := h2
          subst this
          simp
        · rw [if_neg h2]
          have : ¬ (n = a ∧ n = b) := fun z => h2 ⟨by omega, by omega⟩
          simp [this]
theorem inv_new (n : Nat) : BInv n [] (new n) n := by
  have nowalk : ∀ {a b : Nat} {x : Int}, Walk [] a b x → a = b ∧ x = 0 := fun h => by
    cases h with
    | nil => exact ⟨rfl, rfl⟩
    | cons hs _ => cases hs
  refine ⟨rfl, fun k => ?_, by simp [new, diag], by simp [new, diag], fun _ => ⟨?_, fun i j hi hj x => ?_⟩, fun z => absurd rfl z⟩
  · obtain ⟨a, b⟩ := k
    show (look (diag _ n) (a, b)).isSome = (look (diag _ n) (a, b)).isSome
    rw [look_diag, look_diag]
    split <;> rfl
  · rintro ⟨a, x, h1, h2⟩
    have := (nowalk h2).2
    omega
  · unfold Le Bs.lk new
    simp only [look_diag]
    constructor
    · rintro ⟨z, e, hz⟩
      by_cases h : i = j ∧ i < n
      · rw [if_pos h] at e; cases e
        obtain ⟨rfl, _⟩ := h
        exact ⟨0, hz, .nil i⟩
      · rw [if_neg h] at e; cases e
    · rintro ⟨w, h1, h2⟩
      obtain ⟨rfl, rfl⟩ := nowalk h2
      exact ⟨0, by rw [if_pos ⟨rfl, hi⟩], h1⟩
theorem inv_of (n : Nat) (T : List Stp) (h : ∀ s ∈ T, s.i < n ∧ s.j < n) : BInv n T (ofSteps n T) (n + T.length * (n * n)) := by
  have := inv_steps T (inv_new n) h
  simpa [ofSteps] using this
theorem ring_iff {n : Nat} {S : List Stp} {b : Bs} {k : Nat} (I : BInv n S b k) : b.ring = none ↔ ¬ Neg S := by
  constructor
  · exact fun h => (I.ok h).1
  · intro h
    cases e : b.ring with
    | none => rfl
    | some r => exact absurd (I.bad (by rw [e]; simp)) h
end PL

/-! Bounds as the program has them -/
namespace TL
open PySem PySem.Spec PyProof.Rows L2
/-! simp facts on objects -/
section
variable (ρ : Rho) (f f' : Ef) (g : Af) (i k : Nat)
@[simp] theorem v_eFld : eFld i k ρ = (fldD (ρ.getD i .non) k).bind fun d => some (.v d, ρ) := rfl
def fixOf (i : Nat) (o dd : D) (g : D → D → Option D) (q : Hd × Rho) : Option (Hd × Rho) := match q.1 with
  | .v dk => (g dd dk).bind fun d => some (.v d, q.2.set i o)
  | _ => none
@[simp] theorem v_fixOf (o dd dk : D) (g : D → D → Option D) : fixOf i o dd g (.v dk, ρ) = (g dd dk).bind fun d => some (.v d, ρ.set i o) := rfl
@[simp] theorem v_eFIx (g : D → D → Option D) : eFIx i k g f ρ = (fldD (ρ.getD i .non) k).bind fun dd => (f ρ).bind (fixOf i (ρ.getD i .non) dd g) := rfl
@[simp] theorem v_eFIn (g : D → D → Option D) : eFIn i k g f ρ = (f ρ).bind fun q => (fldD (q.2.getD i .non) k).bind fun dd => (g (q.1.res q.2) dd).bind fun d => some (.v d, q.2) := rfl
@[simp] theorem v_eFGet1 : eFGet1 i k f ρ = (fldD (ρ.getD i .non) k).bind fun dd => if isDctD dd then (f ρ).bind (fixOf i (ρ.getD i .non) dd dGet1) else none := rfl
def fg2Of (i : Nat) (o dd : D) (h : Hd) (r : Hd × Rho) : Option (Hd × Rho) := match h, r.1 with
  | .v dk, .v x => (dGet2 dd dk x).bind fun d => some (.v d, r.2.set i o)
  | _, _ => none
@[simp] theorem v_fg2Of (o dd dk x : D) : fg2Of i o dd (.v dk) (.v x, ρ) = (dGet2 dd dk x).bind fun d => some (.v d, ρ.set i o) := rfl
@[simp] theorem v_eFGet2 : eFGet2 i k f f' ρ = (fldD (ρ.getD i .non) k).bind fun dd => if isDctD dd then (f ρ).bind fun q => (f' q.2).bind (fg2Of i (ρ.getD i .non) dd q.1) else none := rfl
def fputOf (i k : Nat) (p q : Hd × Rho) : Option Out := match p.1, q.1 with
  | .v d, .v dk => (fldD (p.2.getD i .non) k).bind fun dd => (putD dk d dd).bind fun x => (setFld (p.2.getD i .non) k x).bind fun o => some (.nx (q.2.set i o))
  | _, _ => none
@[simp] theorem v_fputOf (ρ' : Rho) (d dk : D) : fputOf i k (.v d, ρ) (.v dk, ρ') = (fldD (ρ.getD i .non) k).bind fun dd => (putD dk d dd).bind fun x => (setFld (ρ.getD i .non) k x).bind fun o => some (.nx (ρ'.set i o)) := rfl
@[simp] theorem v_sFPut : sFPut i k f f' ρ = (f ρ).bind fun p => (f' p.2).bind (fputOf i k p) := rfl
def fsetOf (i k : Nat) (p : Hd × Rho) : Option Out := match p.1 with
  | .v d => (setFld (p.2.getD i .non) k d).bind fun o => some (.nx (p.2.set i o))
  | _ => none
@[simp] theorem v_fsetOf (d : D) : fsetOf i k (.v d, ρ) = (setFld (ρ.getD i .non) k d).bind fun o => some (.nx (ρ.set i o)) := rfl
@[simp] theorem v_sFldSet : sFldSet i k f ρ = (f ρ).bind (fsetOf i k) := rfl
@[simp] theorem v_sFldNew (nm : Str) (o : Of) : sFldNew i nm o ρ = (o ρ).bind fun p => (newFld (p.2.getD i .non) nm p.1).bind fun x => some (.nx (p.2.set i x)) := rfl
def mkOf (r : D × List D) (ρ : Rho) : Option (D × Rho) := match r.1 with
  | .non => some (r.2.getD 0 .non, ρ)
  | _ => none
@[simp] theorem v_mkOf (l : List D) : mkOf (.non, l) ρ = some (l.getD 0 .non, ρ) := rfl
@[simp] theorem v_oMake (c : Str) (F : Fm) (dfl : List D) : oMake c F dfl g ρ = (g ρ).bind fun p => (hvals p.1).bind fun ds => (F (.obj c [] :: (ds ++ dfl))).bind fun r => mkOf r p.2 := rfl
def atOf (c f : Str) (p : Hd × Rho) : Option (Hd × Rho) := match p.1 with
  | .v d => (attrD c f d).bind fun x => some (.v x, p.2)
  | _ => none
@[simp] theorem v_atOf (c f : Str) (d : D) : atOf c f (.v d, ρ) = (attrD c f d).bind fun x => some (.v x, ρ) := rfl
@[simp] theorem v_eAt (c nm : Str) : eAt c nm f ρ = (f ρ).bind (atOf c nm) := rfl
@[simp] theorem v_oDcT (own : List Nat) (it : Itf) (g : Gf) (tt : Tf) (fk fv : Ef) : oDcT own it g tt fk fv ρ = (it ρ).bind fun p => (dcF (stepDc own g tt fk fv) p.1 [] p.2).bind fun r => some (.dtt r.1, r.2) := rfl
@[simp] theorem v_sDrop : sDrop f ρ = (f ρ).bind fun p => some (.nx p.2) := rfl
end
/-- a loop that goes through, the rounds told by what lies behind them -/
theorem loop_pre {α σ : Type} {b : D → Rho → Option Out} {ks : List Nat} (emb : α → D) (st : σ → Rho) (f : σ → α → σ) (s0 : σ) (l : List α) (h : ∀ pre a post, l = pre ++ a :: post → (b (emb a) (st (pre.foldl f s0))).bind (nxOf ks) = some (st (f (pre.foldl f s0) a))) :
    loopF b ks (l.map emb) (st s0) = some (.nx (st (l.foldl f s0))) := by
  obtain ⟨s', e, h'⟩ := loop_inv (b := b) (ks := ks) emb st (fun pre s => s = pre.foldl f s0) l [] s0 rfl fun pre' a post e s hs => by
    subst hs
    exact ⟨_, h pre' a post (by simpa using e), by simp⟩
  rw [e, h']; rfl
end TL
namespace PL
open PySem PySem.Spec PyProof.Rows L2 TL
def t1__law_bound : Tf := (tAnd' (tBl (eBin dEq (eTup (aCons (eVar 4) (aCons (eVar 5) aNil))) (eTup (aCons (eVar 1) (aCons (eVar 2) aNil))))) (tBl (eBin dIsNot (eVar 7) (eC .non))))
def e2__law_bound : Of := (oE (eVar 7))
def t3__law_bound : Tf := (tBl (eBin dEq (eTup (aCons (eVar 4) (aCons (eVar 5) aNil))) (eTup (aCons (eVar 2) (aCons (eVar 1) aNil)))))
def e4__law_bound : Of := (oE (eBin dSub (eC (.int 0)) (eVar 6)))
def b__law_bound : Sf := (sSeq (sSetO 3 (oLc [4, 5, 6, 7] (iSeq (eVar 0)) (gTp (gsCons (gNm 4) (gsCons (gNm 5) (gsCons (gNm 6) (gsCons (gNm 7) gsNil))))) t1__law_bound e2__law_bound)) (sSeq (sAsg (eBin dAdd (eVar 3) (eF (oLc [4, 5, 6, 7] (iSeq (eVar 0)) (gTp (gsCons (gNm 4) (gsCons (gNm 5) (gsCons (gNm 6) (gsCons (gNm 7) gsNil))))) t3__law_bound e4__law_bound))) (gNm 3)) (sRet (eIf (tB (eVar 3)) (eCa (f1 minD) (aCons (eVar 3) aNil)) (eC .non)))))
def F__law_bound : Fm := runF b__law_bound 3 5
def q1__law_least : Sf := (sSeq (sAsg (eF (oCall F__law_bound (aCons (eVar 1) (aCons (eVar 3) (aCons (eVar 5) aNil))))) (gNm 6)) (sPut 2 (eIf (tBl (eBin dEq (eVar 3) (eVar 5))) (eC (.int 0)) (eIf (tBl (eBin dIs (eVar 6) (eC .non))) (eBin dPow (eC (.int 10)) (eC (.int 9))) (eVar 6))) (eTup (aCons (eVar 3) (aCons (eVar 5) aNil)))))
def q2__law_least : Sf := (sFor [5, 6] (TL.iRng1 (aCons (eVar 0) aNil)) (gNm 5) q1__law_least)
def q3__law_least : Sf := (sIf (tAnd' (tBl (eBin dLt (eBin dGet (eOwn 2) (eTup (aCons (eVar 3) (aCons (eVar 4) aNil)))) (eBin dPow (eC (.int 10)) (eC (.int 8))))) (tBl (eBin dLt (eBin dGet (eOwn 2) (eTup (aCons (eVar 4) (aCons (eVar 5) aNil)))) (eBin dPow (eC (.int 10)) (eC (.int 8)))))) (sPut 2 (eCa (f2 min2D) (aCons (eBin dGet (eOwn 2) (eTup (aCons (eVar 3) (aCons (eVar 5) aNil)))) (aCons (eBin dAdd (eBin dGet (eOwn 2) (eTup (aCons (eVar 3) (aCons (eVar 4) aNil)))) (eBin dGet (eOwn 2) (eTup (aCons (eVar 4) (aCons (eVar 5) aNil))))) aNil))) (eTup (aCons (eVar 3) (aCons (eVar 5) aNil)))) sNil)
def q4__law_least : Sf := (sFor [5] (TL.iRng1 (aCons (eVar 0) aNil)) (gNm 5) q3__law_least)
def q5__law_least : Sf := (sFor [3, 5] (TL.iRng1 (aCons (eVar 0) aNil)) (gNm 3) q4__law_least)
def e6__law_least : Of := (oE (eBin dLt (eBin dGet (eOwn 2) (eTup (aCons (eVar 3) (aCons (eVar 3) aNil)))) (eC (.int 0))))
def b__law_least : Sf := (sSeq (sSetO 2 oDctT) (sSeq (sFor [3, 5, 6] (TL.iRng1 (aCons (eVar 0) aNil)) (gNm 3) q2__law_least) (sSeq (sFor [3, 4, 5] (TL.iRng1 (aCons (eVar 0) aNil)) (gNm 4) q5__law_least) (sRetIf (tB (eCa (f1 anyD) (aCons (eF (oLc [3] (TL.iRng1 (aCons (eVar 0) aNil)) (gNm 3) tYesF e6__law_least)) aNil))) (sRetO oNon) (sRetX 2)))))
def F__law_least : Fm := runF b__law_least 2 5
def b__law_next : Sf := (sSeq (sIf (tBl (eBin dGt (eBin dIx (eOwn 0) (eC (.int 2))) (eC (.int 0)))) (sSeq (sAsg (eBin dMod (eCa (f1 intD) (aCons (eBin dIx (eOwn 0) (eC (.int 2))) aNil)) (eVar 1)) (gNm 2)) (sSeq (sSetIx 0 (eBin dDiv (eBin dIx (eOwn 0) (eC (.int 2))) (eVar 1)) (eC (.int 2))) (sRet (eVar 2)))) sNil) (sSeq (sIf (tBl (eBin dLt (eBin dIx (eOwn 0) (eC (.int 1))) (eCa (f1 lenD) (aCons (eBin dIx (eOwn 0) (eC (.int 0))) aNil)))) (sKl [3] (sSeq (sAsg (eCa (f1 absD) (aCons (eBin dIx (eBin dIx (eOwn 0) (eC (.int 0))) (eBin dIx (eOwn 0) (eC (.int 1)))) aNil)) (gNm 3)) (sSeq (sSetIx 0 (eBin dAdd (eBin dIx (eOwn 0) (eC (.int 1))) (eC (.int 1))) (eC (.int 1))) (sSeq (sIf (tBl (eBin dGe (eVar 3) (eBin dPow (eC (.int 10)) (eC (.int 18))))) (sSeq (sSetIx 0 (eBin dDiv (eVar 3) (eVar 1)) (eC (.int 2))) (sRet (eBin dMod (eCa (f1 intD) (aCons (eVar 3) aNil)) (eVar 1)))) sNil) (sSetIx 0 (eBin dMod (eCa (f1 intD) (aCons (eBin dAdd (eBin dAdd (eBin dMul (eBin dIx (eOwn 0) (eC (.int 3))) (eC (.int 48271))) (eVar 3)) (eC (.int 11))) aNil)) (eC (.int 2147483647))) (eC (.int 3))))))) (sSetIx 0 (eBin dMod (eCa (f1 intD) (aCons (eBin dAdd (eBin dMul (eBin dIx (eOwn 0) (eC (.int 3))) (eC (.int 48271))) (eC (.int 12345))) aNil)) (eC (.int 2147483647))) (eC (.int 3)))) (sRet (eBin dMod (eBin dDiv (eCa (f1 intD) (aCons (eBin dMod (eBin dMul (eBin dIx (eOwn 0) (eC (.int 3))) (eC (.int 69621))) (eC (.int 2147483629))) aNil)) (eC (.int 7))) (eVar 1)))))
def F__law_next : Fm := runF b__law_next 2 2
def e1__law_plan : Of := (oE (eBin dSub (eF (oCallI F__law_next 0 0 (aCons (eOwn 0) (aCons (eBin dMul (eC (.int 2)) (eVar 2)) aNil)))) (eBin dDiv (eVar 2) (eC (.int 2)))))
def q2__law_plan : Sf := (sIf (tAnd' (tBl (eBin dNe (eVar 6) (eVar 7))) (tAnd' (tBl (eBin dEq (eF (oCallI F__law_next 0 0 (aCons (eOwn 0) (aCons (eC (.int 3)) aNil)))) (eC (.int 0)))) (tBl (eBin dLt (eCa (f1 lenD) (aCons (eOwn 5) aNil)) (eC (.int 20)))))) (sKl [9, 10] (sSeq (sAsg (eBin dAdd (eBin dSub (eBin dSub (eBin dIx (eVar 4) (eVar 7)) (eBin dIx (eVar 4) (eVar 6))) (eF (oCallI F__law_next 0 0 (aCons (eOwn 0) (aCons (eC (.int 4)) aNil))))) (eIf (tBl (eBin dEq (eF (oCallI F__law_next 0 0 (aCons (eOwn 0) (aCons (eC (.int 9)) aNil)))) (eC (.int 0)))) (eC (.int 2)) (eC (.int 0)))) (gNm 9)) (sSeq (sAsg (eIf (tBl (eBin dEq (eF (oCallI F__law_next 0 0 (aCons (eOwn 0) (aCons (eC (.int 3)) aNil)))) (eC (.int 0)))) (eC .non) (eBin dAdd (eVar 9) (eF (oCallI F__law_next 0 0 (aCons (eOwn 0) (aCons (eC (.int 5)) aNil)))))) (gNm 10)) (sApp 5 (eTup (aCons (eVar 6) (aCons (eVar 7) (aCons (eVar 9) (aCons (eVar 10) aNil))))))))) sNil)
def q3__law_plan : Sf := (sFor [7, 9, 10] (TL.iRng1 (aCons (eVar 3) aNil)) (gNm 7) q2__law_plan)
def b__law_plan : Sf := (sSeq (sAsg (eBin dAdd (eC (.int 1)) (eF (oCallI F__law_next 0 0 (aCons (eOwn 0) (aCons (eVar 1) aNil))))) (gNm 3)) (sSeq (sAsg (eBin dAdd (eF (oLst (aCons (eC (.int 0)) aNil))) (eF (oLc [8] (TL.iRng1 (aCons (eBin dSub (eVar 3) (eC (.int 1))) aNil)) (gNm 8) tYesF e1__law_plan))) (gNm 4)) (sSeq (sSetO 5 (oLst aNil)) (sSeq (sFor [6, 7, 9, 10] (TL.iRng1 (aCons (eVar 3) aNil)) (gNm 6) q3__law_plan) (sRet (eTup (aCons (eVar 3) (aCons (eCa (f1 tupleD) (aCons (eOwn 5) aNil)) aNil))))))))
def F__law_plan : Fm := runF b__law_plan 3 8
def b__law_same : Sf := (sRet (eBin dEqS (eCa (f1 reprD) (aCons (eVar 0) aNil)) (eCa (f1 reprD) (aCons (eVar 1) aNil))))
def F__law_same : Fm := runF b__law_same 2 0
def b__law_reach : Sf := (sSeq (sPar 3 4 (lCons (oE (eBin dGet (eVar 0) (eTup (aCons (eVar 2) (aCons (eVar 1) aNil))))) (lCons (oE (eBin dGet (eVar 0) (eTup (aCons (eVar 1) (aCons (eVar 2) aNil))))) lNil))) (sRet (eTup (aCons (eIf (tBl (eBin dGt (eVar 3) (eBin dPow (eC (.int 10)) (eC (.int 8))))) (eC .non) (eBin dSub (eC (.int 0)) (eVar 3))) (aCons (eIf (tBl (eBin dGt (eVar 4) (eBin dPow (eC (.int 10)) (eC (.int 8))))) (eC .non) (eVar 4)) aNil)))))
def F__law_reach : Fm := runF b__law_reach 3 2
def q1__law_times : Sf := (sSeq (sAsg (eF (oCall F__law_reach (aCons (eF (oCallB (.oT .sh) F__law_least (aCons (eVar 0) (aCons (eOwn 3) aNil)))) (aCons (eC (.int 0)) (aCons (eVar 2) aNil))))) (gTp (gsCons (gNm 6) (gsCons (gNm 7) gsNil)))) (sSeq (sAsg (eIf (tBl (eBin dIsNot (eVar 6) (eC .non))) (eVar 6) (eIf (tBl (eBin dIsNot (eVar 7) (eC .non))) (eVar 7) (eC (.int 0)))) (gNm 5)) (sSeq (sApp 4 (eVar 5)) (sApp 3 (eTup (aCons (eC (.int 0)) (aCons (eVar 2) (aCons (eVar 5) (aCons (eVar 5) aNil)))))))))
def b__law_times : Sf := (sSeq (sPar 3 4 (lCons (oCa (f1L listD) (aCons (eVar 1) aNil)) (lCons (oLst (aCons (eC (.int 0)) aNil)) lNil))) (sSeq (sFor [2, 5, 6, 7] (TL.iRng2 (aCons (eC (.int 1)) (aCons (eVar 0) aNil))) (gNm 2) q1__law_times) (sRet (eCa (f1 tupleD) (aCons (eOwn 4) aNil)))))
def F__law_times : Fm := runF b__law_times 2 6
def b_Bounds_get : Sf := (sRet (eFGet1 0 1 (eTup (aCons (eVar 1) (aCons (eVar 2) aNil)))))
def F_Bounds_get : Fm := runF b_Bounds_get 3 0
def t1_Bounds_add : Tf := (tBl (eFIn 0 1 dInD (eTup (aCons (eVar 7) (aCons (eVar 1) aNil)))))
def e2_Bounds_add : Of := (oE (eTup (aCons (eVar 7) (aCons (eFIx 0 1 dGet (eTup (aCons (eVar 7) (aCons (eVar 1) aNil)))) aNil))))
def t3_Bounds_add : Tf := (tBl (eFIn 0 1 dInD (eTup (aCons (eVar 2) (aCons (eVar 9) aNil)))))
def e4_Bounds_add : Of := (oE (eTup (aCons (eVar 9) (aCons (eFIx 0 1 dGet (eTup (aCons (eVar 2) (aCons (eVar 9) aNil)))) aNil))))
def q5_Bounds_add : Sf := (sSeq (sAsg (eBin dAdd (eBin dAdd (eVar 8) (eVar 3)) (eVar 10)) (gNm 11)) (sIf (tAnd' (tBl (eBin dNe (eVar 7) (eVar 9))) (tBl (eBin dLt (eVar 11) (eFGet2 0 1 (eTup (aCons (eVar 7) (aCons (eVar 9) aNil))) (eBin dAdd (eVar 11) (eC (.int 1))))))) (sSeq (sFPut 0 1 (eVar 11) (eTup (aCons (eVar 7) (aCons (eVar 9) aNil)))) (sFPut 0 2 (eBin dAdd (eFIx 0 2 dGet (eTup (aCons (eVar 7) (aCons (eVar 1) aNil)))) (eFIx 0 2 dGet (eTup (aCons (eVar 2) (aCons (eVar 9) aNil))))) (eTup (aCons (eVar 7) (aCons (eVar 9) aNil))))) sNil))
def q6_Bounds_add : Sf := (sFor [9, 10, 11] (iSeq (eVar 6)) (gTp (gsCons (gNm 9) (gsCons (gNm 10) gsNil))) q5_Bounds_add)
def b_Bounds_add : Sf := (sSeq (sIf (tBl (eBin dIsNot (eFld 0 3) (eC .non))) sRetN sNil) (sSeq (sAsg (eFGet1 0 1 (eTup (aCons (eVar 2) (aCons (eVar 1) aNil)))) (gNm 4)) (sSeq (sIf (tAnd' (tBl (eBin dIsNot (eVar 4) (eC .non))) (tBl (eBin dLt (eBin dAdd (eVar 4) (eVar 3)) (eC (.int 0))))) (sSeq (sFldSet 0 3 (eBin dAdd (eTup (aCons (eVar 1) aNil)) (eFIx 0 2 dGet (eTup (aCons (eVar 2) (aCons (eVar 1) aNil)))))) sRetN) sNil) (sSeq (sSetO 5 (oLc [7] (TL.iRng1 (aCons (eFld 0 0) aNil)) (gNm 7) t1_Bounds_add e2_Bounds_add)) (sSeq (sSetO 6 (oLc [9] (TL.iRng1 (aCons (eFld 0 0) aNil)) (gNm 9) t3_Bounds_add e4_Bounds_add)) (sFor [7, 8, 9, 10, 11] (iSeq (eVar 5)) (gTp (gsCons (gNm 7) (gsCons (gNm 8) gsNil))) q6_Bounds_add))))))
def F_Bounds_add : Fm := runF b_Bounds_add 4 8
def e1_Bounds_init : Ef := (eTup (aCons (eVar 6) (aCons (eVar 6) aNil)))
def e2_Bounds_init : Ef := (eC (.int 0))
def e3_Bounds_init : Ef := (eTup (aCons (eVar 6) (aCons (eVar 6) aNil)))
def e4_Bounds_init : Ef := (eTup (aCons (eVar 6) aNil))
def q5_Bounds_init : Sf := (sDrop (eF (oCallI F_Bounds_add 0 0 (aCons (eOwn 0) (aCons (eVar 3) (aCons (eVar 4) (aCons (eVar 5) aNil)))))))
def b_Bounds_init : Sf := (sSeq (sFldNew 0 "events" (oE (eVar 1))) (sSeq (sFldNew 0 "least" (oDcT [6] (TL.iRng1 (aCons (eVar 1) aNil)) (gNm 6) tYesF e1_Bounds_init e2_Bounds_init)) (sSeq (sFldNew 0 "way" (oDcT [6] (TL.iRng1 (aCons (eVar 1) aNil)) (gNm 6) tYesF e3_Bounds_init e4_Bounds_init)) (sSeq (sFldNew 0 "ring" (oE (eC .non))) (sFor [3, 4, 5] (iSeq (eVar 2)) (gTp (gsCons (gNm 3) (gsCons (gNm 4) (gsCons (gNm 5) gsNil)))) q5_Bounds_init)))))
def F_Bounds_init : Fm := runF b_Bounds_init 3 4
def q1_steps_of : Sf := (sSeq (sApp 1 (eTup (aCons (eVar 3) (aCons (eVar 2) (aCons (eUn dNeg (eVar 4)) aNil))))) (sIf (tBl (eBin dIsNot (eVar 5) (eC .non))) (sApp 1 (eTup (aCons (eVar 2) (aCons (eVar 3) (aCons (eVar 5) aNil))))) sNil))
def b_steps_of : Sf := (sSeq (sSetO 1 (oLst aNil)) (sSeq (sFor [2, 3, 4, 5] (iSeq (eVar 0)) (gTp (gsCons (gNm 2) (gsCons (gNm 3) (gsCons (gNm 4) (gsCons (gNm 5) gsNil))))) q1_steps_of) (sRet (eVar 1))))
def F_steps_of : Fm := runF b_steps_of 1 5
def q1_times_by : Sf := (sSeq (sPar 3 4 (lCons (oE (eF (oCallI F_Bounds_get 0 0 (aCons (eOwn 0) (aCons (eVar 2) (aCons (eC (.int 0)) aNil)))))) (lCons (oE (eF (oCallI F_Bounds_get 0 0 (aCons (eOwn 0) (aCons (eC (.int 0)) (aCons (eVar 2) aNil)))))) lNil))) (sSeq (sIf (tBl (eBin dIsNot (eVar 3) (eC .non))) (sAsg (eUn dNeg (eVar 3)) (gNm 5)) (sAsg (eIf (tBl (eBin dIs (eVar 4) (eC .non))) (eC (.int 0)) (eVar 4)) (gNm 5))) (sSeq (sDrop (eF (oCallI F_Bounds_add 0 0 (aCons (eOwn 0) (aCons (eC (.int 0)) (aCons (eVar 2) (aCons (eVar 5) aNil))))))) (sSeq (sDrop (eF (oCallI F_Bounds_add 0 0 (aCons (eOwn 0) (aCons (eVar 2) (aCons (eC (.int 0)) (aCons (eUn dNeg (eVar 5)) aNil))))))) (sApp 1 (eVar 5))))))
def b_times_by : Sf := (sSeq (sSetO 1 (oLst (aCons (eC (.int 0)) aNil))) (sSeq (sFor [2, 3, 4, 5] (TL.iRng2 (aCons (eC (.int 1)) (aCons (eFld 0 0) aNil))) (gNm 2) q1_times_by) (sRet (eCa (f1 tupleD) (aCons (eOwn 1) aNil)))))
def F_times_by : Fm := runF b_times_by 1 5
/-! the data -/
def kD (k : Nat × Nat) : D := .tup [.int k.1, .int k.2]
def alD {α : Type} (em : α → D) (l : AL α) : D := .dtt (l.map fun p => (kD p.1, em p.2))
def evD (l : List Nat) : D := .tup (l.map fun e : Nat => .int (e : Int))
def opD {α : Type} (em : α → D) : Option α → D
  | none => .non
  | some a => em a
def bsD (b : Bs) : D := .obj "Bounds" [("events", .int b.n), ("least", alD .int b.L), ("way", alD evD b.W), ("ring", opD evD b.ring)]
theorem kq_k (k k' : Nat × Nat) : kq (kD k) (kD k') = decide (k = k') := by
  obtain ⟨a, b⟩ := k
  obtain ⟨c, d⟩ := k'
  simp only [kD, kq, kqs, kq1, Bool.and_true, Prod.mk.injEq, Bool.decide_and]
  congr 1 <;> simp <;> omega
theorem dLook_al {α : Type} (em : α → D) (l : AL α) (k : Nat × Nat) : dLook (l.map fun p => (kD p.1, em p.2)) (kD k) = (look l k).map em := by
  unfold dLook look
  induction l with
  | nil => rfl
  | cons p l ih =>
    rw [List.map_cons, List.find?_cons, List.find?_cons, kq_k]
    by_cases h : p.1 = k
    · simp [h]
    · simp only [h, decide_false]; exact ih
theorem dPut_al {α : Type} (em : α → D) (l : AL α) (k : Nat × Nat) (v : α) : dPutL (l.map fun p => (kD p.1, em p.2)) (kD k) (em v) = (put l k v).map fun p => (kD p.1, em p.2) := by
  unfold dPutL put
  have ha : (l.map fun p => (kD p.1, em p.2)).any (fun p => kq p.1 (kD k)) = l.any fun p => decide (p.1 = k) := by
    rw [List.any_map]; congr 1; funext p; simp [kq_k]
  rw [ha]
  split
  · rw [List.map_map, List.map_map]
    apply List.map_congr_left
    intro p _
    simp only [Function.comp, kq_k]
    by_cases h : p.1 = k
    · simp [h]
    · simp [h]
  · simp
@[simp] theorem get_al {α : Type} (em : α → D) (l : AL α) (a b : Nat) : dGetO (alD em l) (.tup [.int a, .int b]) = some ((look l (a, b)).map em) := by
  rw [← dLook_al]
  rfl
theorem put_al {α : Type} (em : α → D) (l : AL α) (a b : Nat) (v : α) (h : l.length < 16777216) : putD (.tup [.int a, .int b]) (em v) (alD em l) = some (alD em (put l (a, b) v)) := by
  have e : putD (.tup [.int a, .int b]) (em v) (alD em l) = if okLen ((l.map fun p => (kD p.1, em p.2)).length + 1) then some (.dtt (dPutL (l.map fun p => (kD p.1, em p.2)) (kD (a, b)) (em v))) else none := rfl
  rw [e, if_pos (okLen_of (by rw [List.length_map]; omega)), dPut_al]
  rfl
@[simp] theorem isD_al {α : Type} (em : α → D) (l : AL α) : isDctD (alD em l) = true := rfl
@[simp] theorem fld0 (b : Bs) : fldD (bsD b) 0 = some (.int b.n) := rfl
@[simp] theorem fld1 (b : Bs) : fldD (bsD b) 1 = some (alD .int b.L) := rfl
@[simp] theorem fld2 (b : Bs) : fldD (bsD b) 2 = some (alD evD b.W) := rfl
@[simp] theorem fld3 (b : Bs) : fldD (bsD b) 3 = some (opD evD b.ring) := rfl
@[simp] theorem set1 (b : Bs) (l : AL Int) : setFld (bsD b) 1 (alD .int l) = some (bsD { b with L := l }) := rfl
@[simp] theorem set2 (b : Bs) (l : AL (List Nat)) : setFld (bsD b) 2 (alD evD l) = some (bsD { b with W := l }) := rfl
@[simp] theorem set3 (b : Bs) (l : List Nat) : setFld (bsD b) 3 (evD l) = some (bsD { b with ring := some l }) := rfl
theorem get_ok (b : Bs) (i j : Nat) : F_Bounds_get [bsD b, .int i, .int j] = some (opD .int (b.lk i j), [bsD b, .int i, .int j]) := by
  unfold F_Bounds_get b_Bounds_get
  rw [v_run3]
  simp [okLen_of, dGet1, Bs.lk]
  cases look b.L (i, j) <;> rfl
end PL

namespace PL
open PySem PySem.Spec PyProof.Rows L2 TL
/-! Bounds.add -/
def pD (p : Nat × Int) : D := .tup [.int p.1, .int p.2]
theorem in_al {α : Type} (em : α → D) (l : AL α) (a b : Nat) : dInD (.tup [.int a, .int b]) (alD em l) = some (.bl (look l (a, b)).isSome) := by
  unfold dInD
  rw [get_al]
  cases look l (a, b) <;> rfl
theorem ix_al {α : Type} (em : α → D) (l : AL α) (a b : Nat) (v : α) (h : look l (a, b) = some v) : dGet (alD em l) (.tup [.int a, .int b]) = some (em v) := by
  unfold dGet
  rw [get_al, h]; rfl
theorem g2_al {α : Type} (em : α → D) (l : AL α) (a b : Nat) (x : D) : dGet2 (alD em l) (.tup [.int a, .int b]) x = some (((look l (a, b)).map em).getD x) := by
  unfold dGet2
  rw [get_al]; rfl
theorem fm_eq {α β : Type} (f : α → Option β) (em : β → D) (l : List α) : (l.filterMap fun a => (f a).map em) = (l.filterMap f).map em := by
  rw [List.map_filterMap]
theorem body5_ok (b : Bs) (i j a c : Nat) (m f l : Int) (bk ah bh z : D) (hL : b.L.length < 16777216) (hW : b.W.length < 16777216) (h1 : (look b.W (a, i)).isSome = true) (h2 : (look b.W (j, c)).isSome = true) (hw : ((look b.W (a, i)).getD []).length + ((look b.W (j, c)).getD []).length ≤ 16777216) :
    q5_Bounds_add [bsD b, .int i, .int j, .int m, bk, ah, bh, .int a, .int f, .int c, .int l, z] = some (.nx [bsD (relax1 m i j a f b (c, l)), .int i, .int j, .int m, bk, ah, bh, .int a, .int f, .int c, .int l, .int (f + m + l)]) := by
  obtain ⟨w1, e1⟩ := Option.isSome_iff_exists.mp h1
  obtain ⟨w2, e2⟩ := Option.isSome_iff_exists.mp h2
  rw [e1, e2] at hw
  simp only [Option.getD_some] at hw
  unfold q5_Bounds_add
  unfold relax1
  by_cases hac : a = c
  · subst hac
    simp
  · have hac' : ¬ ((a : Int) = (c : Int)) := by omega
    have key : (((look b.L (a, c)).map D.int).getD (.int (f + m + l + 1))) = .int ((look b.L (a, c)).getD (f + m + l + 1)) := by
      cases look b.L (a, c) <;> rfl
    by_cases ht : f + m + l < (look b.L (a, c)).getD (f + m + l + 1)
    · have p1 := put_al D.int b.L a c (f + m + l) hL
      have p2 := put_al evD b.W a c (w1 ++ w2) hW
      have a1 := ix_al evD b.W a i w1 e1
      have a2 := ix_al evD b.W j c w2 e2
      have cat : dAdd (evD w1) (evD w2) = some (evD (w1 ++ w2)) := by
        unfold evD
        rw [d_add_t, if_pos (okLen_of (by simpa using hw))]
        simp
      simp [hac, hac', okLen_of, g2_al, key, ht, p1, p2, a1, a2, cat, e1, e2]
    · simp [hac, hac', okLen_of, g2_al, key, ht]
theorem sm1 {α : Type} {o : Option α} (h : o.isSome = true) : ∃ a, o = some a := Option.isSome_iff_exists.mp h
end PL

/-! ways: no event twice -/
namespace PL
theorem nodup_len : ∀ (n : Nat) (l : List Nat), l.Nodup → (∀ v ∈ l, v < n) → l.length ≤ n
  | 0, l, _, h => by
    cases l with
    | nil => simp
    | cons a l => exact absurd (h a (by simp)) (by omega)
  | n + 1, l, nd, h => by
    have h1 := nodup_len n (l.filter (· ≠ n)) (nd.filter _) fun v hv => by
      have := List.mem_filter.mp hv
      have h2 := h v this.1
      have h3 : v ≠ n := by simpa using this.2
      omega
    have h2 : l.length ≤ (l.filter (· ≠ n)).length + 1 := by
      clear h h1
      induction l with
      | nil => simp
      | cons a l ih =>
        rw [List.nodup_cons] at nd
        by_cases ha : a = n
        · subst ha
          have : l.filter (· ≠ a) = l := List.filter_eq_self.mpr fun v hv => by
            have : v ≠ a := fun z => nd.1 (z ▸ hv)
            simpa using this
          rw [List.filter_cons_of_neg (by simp), this]; simp
        · rw [List.filter_cons_of_pos (by simpa using ha), List.length_cons, List.length_cons]
          have := ih nd.2
          omega
    omega
/-- how a state of the relaxing of b stands to b -/
def Rel (b : Bs) (i j : Nat) (m : Int) (b' : Bs) : Prop := ∀ a c, (look b'.L (a, c) = look b.L (a, c) ∧ look b'.W (a, c) = look b.W (a, c)) ∨
  ∃ f l w1 w2, look b.L (a, i) = some f ∧ look b.L (j, c) = some l ∧ look b.W (a, i) = some w1 ∧ look b.W (j, c) = some w2 ∧ look b'.L (a, c) = some (f + m + l) ∧ look b'.W (a, c) = some (w1 ++ w2) ∧ a ≠ c ∧ ∀ z, look b.L (a, c) = some z → f + m + l < z
theorem Rel.refl (b : Bs) (i j : Nat) (m : Int) : Rel b i j m b := fun _ _ => .inl ⟨rfl, rfl⟩
section
variable {b b' : Bs} {i j : Nat} {m : Int}
theorem Rel.left (R : Rel b i j m b') (hs : ∀ y, look b.L (j, i) = some y → 0 ≤ y + m) (a : Nat) : look b'.L (a, i) = look b.L (a, i) ∧ look b'.W (a, i) = look b.W (a, i) := by
  rcases R a i with h | ⟨f, l, w1, w2, h1, h2, _, _, _, _, _, h5⟩
  · exact h
  · have := hs l h2
    have := h5 f h1
    omega
theorem Rel.right (R : Rel b i j m b') (hs : ∀ y, look b.L (j, i) = some y → 0 ≤ y + m) (c : Nat) : look b'.L (j, c) = look b.L (j, c) ∧ look b'.W (j, c) = look b.W (j, c) := by
  rcases R j c with h | ⟨f, l, w1, w2, h1, h2, _, _, _, _, _, h5⟩
  · exact h
  · have := hs f h1
    have := h5 l h2
    omega
theorem Rel.step (R : Rel b i j m b') (dom : ∀ k, (look b.W k).isSome = (look b.L k).isSome) (hs : ∀ y, look b.L (j, i) = some y → 0 ≤ y + m) {a c : Nat} {f l : Int} (ha : look b.L (a, i) = some f) (hc : look b.L (j, c) = some l) : Rel b i j m (relax1 m i j a f b' (c, l)) := by
  obtain ⟨w1, e1⟩ := Option.isSome_iff_exists.mp ((dom (a, i)).trans (by rw [ha]; rfl))
  obtain ⟨w2, e2⟩ := Option.isSome_iff_exists.mp ((dom (j, c)).trans (by rw [hc]; rfl))
  unfold relax1
  by_cases h : a ≠ (c, l).1 ∧ f + m + (c, l).2 < (look b'.L (a, (c, l).1)).getD (f + m + (c, l).2 + 1)
  · rw [if_pos h]
    simp only at h
    intro a' c'
    simp only [look_put, (R.left hs a).2, (R.right hs c).2, e1, e2, Option.getD_some]
    by_cases hk : (a', c') = (a, c)
    · rw [if_pos hk, if_pos hk]
      simp only [Prod.mk.injEq] at hk
      obtain ⟨rfl, rfl⟩ := hk
      refine .inr ⟨f, l, w1, w2, ha, hc, e1, e2, rfl, rfl, h.1, fun z hz => ?_⟩
      rcases R a' c' with g | ⟨f', l', _, _, g1, g2, _, _, g3, _, _, g5⟩
      · have := h.2
        rw [g.1, hz] at this
        simpa using this
      · rw [ha] at g1; cases g1
        rw [hc] at g2; cases g2
        have := h.2
        rw [g3] at this
        simp only [Option.getD_some] at this
        omega
    · rw [if_neg hk, if_neg hk]
      exact R a' c'
  · rw [if_neg h]; exact R
theorem Rel.inner (dom : ∀ k, (look b.W k).isSome = (look b.L k).isSome) (hs : ∀ y, look b.L (j, i) = some y → 0 ≤ y + m) {a : Nat} {f : Int} (ha : look b.L (a, i) = some f) : ∀ (B : List (Nat × Int)) {b' : Bs}, Rel b i j m b' → (∀ p ∈ B, look b.L (j, p.1) = some p.2) → Rel b i j m (relaxA m i j B b' (a, f))
  | [], _, R, _ => R
  | q :: B, _, R, h => Rel.inner dom hs ha B (R.step dom hs ha (h q (by simp))) fun p hp => h p (by simp [hp])
theorem Rel.outer (dom : ∀ k, (look b.W k).isSome = (look b.L k).isSome) (hs : ∀ y, look b.L (j, i) = some y → 0 ≤ y + m) (B : List (Nat × Int)) (hB : ∀ p ∈ B, look b.L (j, p.1) = some p.2) : ∀ (A : List (Nat × Int)) {b' : Bs}, Rel b i j m b' → (∀ p ∈ A, look b.L (p.1, i) = some p.2) → Rel b i j m (A.foldl (relaxA m i j B) b')
  | [], _, R, _ => R
  | q :: A, _, R, h => Rel.outer dom hs B hB A (Rel.inner dom hs (h q (by simp)) B R hB) fun p hp => h p (by simp [hp])
end
def PInv (n : Nat) (S : List Stp) (b : Bs) : Prop := b.ring = none → ∀ a c w, a < n → c < n → look b.W (a, c) = some w → w.Nodup ∧ ∀ v ∈ w, v < n ∧ ∃ x y, Dle S a v x ∧ Dle S v c y ∧ ∀ z, look b.L (a, c) = some z → x + y ≤ z
theorem short_no {b : Bs} {i j : Nat} {m : Int} (h : isShort b i j m = false) : ∀ y, look b.L (j, i) = some y → 0 ≤ y + m := fun y e => by
  unfold isShort at h
  rw [e] at h
  have : ¬ y + m < 0 := by simpa using h
  omega
theorem relax_rel {b : Bs} {i j : Nat} {m : Int} (dom : ∀ k, (look b.W k).isSome = (look b.L k).isSome) (h : isShort b i j m = false) : Rel b i j m (relax b i j m) :=
  Rel.outer dom (short_no h) _ (fun p hp => (mem_behind.mp hp).2) _ (Rel.refl b i j m) fun p hp => (mem_ahead.mp hp).2
theorem pinv_add {n : Nat} {S : List Stp} {b : Bs} {k i j : Nat} {m : Int} (I : BInv n S b k) (Q : PInv n S b) (hi : i < n) (hj : j < n) : PInv n (S ++ [⟨i, j, m⟩]) (add b i j m) := by
  have up : ∀ s ∈ S, s ∈ S ++ [⟨i, j, m⟩] := fun s h => List.mem_append_left _ h
  have e : Dle (S ++ [⟨i, j, m⟩]) i j m := ⟨m, Int.le_refl _, Walk.one (s := ⟨i, j, m⟩) (by simp)⟩
  intro hr
  unfold add at hr ⊢
  cases hb : b.ring with
  | some r => rw [hb, if_pos (by simp)] at hr; rw [hb] at hr; cases hr
  | none =>
    rw [hb, if_neg (by simp)] at hr
    rw [if_neg (by simp)]
    by_cases hs : isShort b i j m = true
    · rw [if_pos hs] at hr; cases hr
    · rw [if_neg hs]
      have hs' : isShort b i j m = false := by simpa using hs
      obtain ⟨ng, le⟩ := I.ok hb
      have Q := Q hb
      intro a c w ha hc hw
      rcases relax_rel I.dom hs' a c with ⟨g1, g2⟩ | ⟨f, l, w1, w2, g1, g2, g3, g4, g5, g6, g7, g8⟩
      · rw [g2] at hw
        obtain ⟨q1, q2⟩ := Q a c w ha hc hw
        refine ⟨q1, fun v hv => ?_⟩
        obtain ⟨q3, x, y, q4, q5, q6⟩ := q2 v hv
        exact ⟨q3, x, y, q4.sub up, q5.sub up, fun z hz => q6 z (g1 ▸ hz)⟩
      · rw [g6] at hw; cases hw
        obtain ⟨p1, p2⟩ := Q a i w1 ha hi g3
        obtain ⟨r1, r2⟩ := Q j c w2 hj hc g4
        have df : Dle S a i f := (le a i ha hi f).mp ⟨f, g1, Int.le_refl _⟩
        have dl : Dle S j c l := (le j c hj hc l).mp ⟨l, g2, Int.le_refl _⟩
        refine ⟨List.nodup_append.mpr ⟨p1, r1, fun v hv u hu z => ?_⟩, fun v hv => ?_⟩
        · subst z
          obtain ⟨_, x, y, q4, q5, q6⟩ := p2 v hv
          obtain ⟨_, x', y', q4', q5', q6'⟩ := r2 v hu
          have h1 := q6 f g1
          have h2 := q6' l g2
          obtain ⟨y0, h3, h4⟩ := (le j i hj hi _).mpr (q4'.add q5)
          have h5 := short_no hs' y0 h3
          obtain ⟨z0, h6, h7⟩ := (le a c ha hc _).mpr (q4.add q5')
          have := g8 z0 h6
          omega
        · rcases List.mem_append.mp hv with hv | hv
          · obtain ⟨q3, x, y, q4, q5, q6⟩ := p2 v hv
            refine ⟨q3, x, y + m + l, q4.sub up, ((q5.sub up).add e).add (dl.sub up), fun z hz => ?_⟩
            rw [g5] at hz; cases hz
            have := q6 f g1
            omega
          · obtain ⟨q3, x, y, q4, q5, q6⟩ := r2 v hv
            refine ⟨q3, f + m + x, y, ((df.sub up).add e).add (q4.sub up), q5.sub up, fun z hz => ?_⟩
            rw [g5] at hz; cases hz
            have := q6 l g2
            omega
theorem pinv_new (n : Nat) : PInv n [] (new n) := fun _ a c w ha hc hw => by
  have hw : look (diag (fun e => [e]) n) (a, c) = some w := hw
  rw [look_diag] at hw
  by_cases h : a = c ∧ a < n
  · rw [if_pos h] at hw; cases hw
    obtain ⟨rfl, _⟩ := h
    refine ⟨by simp, fun v hv => ?_⟩
    have : v = a := by simpa using hv
    subst this
    refine ⟨ha, 0, 0, .refl _ _, .refl _ _, fun z hz => ?_⟩
    have hz : look (diag (fun _ => 0) n) (v, v) = some z := hz
    rw [look_diag, if_pos ⟨rfl, ha⟩] at hz
    cases hz; omega
  · rw [if_neg h] at hw; cases hw
/-- both -/
structure BP (n : Nat) (S : List Stp) (b : Bs) (k : Nat) : Prop where
  I : BInv n S b k
  P : PInv n S b
theorem BP.add {n : Nat} {S : List Stp} {b : Bs} {k i j : Nat} {m : Int} (B : BP n S b k) (hi : i < n) (hj : j < n) : BP n (S ++ [⟨i, j, m⟩]) (PL.add b i j m) (k + n * n) := ⟨inv_add B.I hi hj, pinv_add B.I B.P hi hj⟩
theorem BP.steps {n : Nat} : ∀ (T : List Stp) {S : List Stp} {b : Bs} {k : Nat}, BP n S b k → (∀ s ∈ T, s.i < n ∧ s.j < n) → BP n (S ++ T) (T.foldl addS b) (k + T.length * (n * n))
  | [], S, b, k, I, _ => by simpa using I
  | s :: T, S, b, k, I, h => by
    have h1 := h s (by simp)
    have := BP.steps T (I.add (m := s.m) h1.1 h1.2) fun s hs => h s (by simp [hs])
    rw [List.foldl_cons]
    have e : S ++ s :: T = S ++ [⟨s.i, s.j, s.m⟩] ++ T := by simp
    rw [e, List.length_cons, Nat.succ_mul, Nat.add_comm (T.length * (n * n)), ← Nat.add_assoc]
    exact this
theorem BP.new (n : Nat) : BP n [] (new n) n := ⟨inv_new n, pinv_new n⟩
theorem BP.of (n : Nat) (T : List Stp) (h : ∀ s ∈ T, s.i < n ∧ s.j < n) : BP n T (ofSteps n T) (n + T.length * (n * n)) := by
  have := (BP.new n).steps T h
  simpa [ofSteps] using this
theorem BP.wlen {n : Nat} {S : List Stp} {b : Bs} {k : Nat} (B : BP n S b k) (hr : b.ring = none) {a c : Nat} {w : List Nat} (ha : a < n) (hc : c < n) (h : look b.W (a, c) = some w) : w.length ≤ n := by
  obtain ⟨h1, h2⟩ := B.P hr a c w ha hc h
  exact nodup_len n w h1 fun v hv => (h2 v hv).1
end PL

/-! Bounds.add, Bounds(..), as the program has them -/
namespace PL
open PySem PySem.Spec PyProof.Rows L2 TL
theorem relaxA_pre (m : Int) (i j : Nat) (B : List (Nat × Int)) (b : Bs) (p : Nat × Int) : relaxA m i j B b p = B.foldl (relax1 m i j p.1 p.2) b := rfl
/-- the inner loop -/
theorem inner_ok {b b' : Bs} {i j a n : Nat} {m f : Int} (bk ah : D) (B : List (Nat × Int)) (dom : ∀ k, (look b.W k).isSome = (look b.L k).isSome) (hs : ∀ y, look b.L (j, i) = some y → 0 ≤ y + m) (ha : look b.L (a, i) = some f) (R : Rel b i j m b') (hB : ∀ p ∈ B, look b.L (j, p.1) = some p.2)
    (hL : b'.L.length + B.length < 16777216) (hW : b'.W.length + B.length < 16777216) (hn : n ≤ 1000) (w1 : ∀ w, look b.W (a, i) = some w → w.length ≤ n) (w2 : ∀ c w, (∃ l, (c, l) ∈ B) → look b.W (j, c) = some w → w.length ≤ n) :
    loopF (stepB (gTp (gsCons (gNm 9) (gsCons (gNm 10) gsNil))) q5_Bounds_add) [9, 10, 11] (B.map pD) [bsD b', .int i, .int j, .int m, bk, ah, .lst (B.map pD), .int a, .int f, .non, .non, .non] = some (.nx [bsD (relaxA m i j B b' (a, f)), .int i, .int j, .int m, bk, ah, .lst (B.map pD), .int a, .int f, .non, .non, .non]) := by
  refine loop_pre (σ := Bs) pD (fun b' => [bsD b', .int i, .int j, .int m, bk, ah, .lst (B.map pD), .int a, .int f, .non, .non, .non]) (relax1 m i j a f) b' B fun pre q post eq => ?_
  have sm := relaxA_same m i j pre b' (a, f)
  have R2 : Rel b i j m (relaxA m i j pre b' (a, f)) := Rel.inner dom hs ha pre R fun p hp => hB p (by rw [eq]; simp [hp])
  rw [relaxA_pre] at sm R2
  simp only at sm R2
  generalize pre.foldl (relax1 m i j a f) b' = s at sm R2
  have hlen : pre.length < B.length := by rw [eq]; simp
  have hq := hB q (by rw [eq]; simp)
  obtain ⟨u1, e1⟩ := Option.isSome_iff_exists.mp ((dom (a, i)).trans (by rw [ha]; rfl))
  obtain ⟨u2, e2⟩ := Option.isSome_iff_exists.mp ((dom (j, q.1)).trans (by rw [hq]; rfl))
  have f1 := (R2.left hs a).2
  have f2 := (R2.right hs q.1).2
  have l1 := w1 u1 e1
  have l2 := w2 q.1 u2 ⟨q.2, by rw [eq]; simp⟩ e2
  have body := body5_ok s i j a q.1 m f q.2 bk ah (.lst (B.map pD)) .non (by have := sm.lenL; omega) (by have := sm.lenW; omega) (by rw [f1, e1]; rfl) (by rw [f2, e2]; rfl) (by rw [f1, e1, f2, e2]; simp only [Option.getD_some]; omega)
  simp only [v_stepB, pD, v_gTp, v_gsCons, v_gNm, v_gsNil, Option.bind_some, List.set, body, v_nxOf, v_kill1, v_kill0]
theorem outer_ok {b : Bs} {i j n : Nat} {m : Int} (bk : D) (dom : ∀ k, (look b.W k).isSome = (look b.L k).isSome) (hs : ∀ y, look b.L (j, i) = some y → 0 ≤ y + m) (hbn : b.n = n) (hi : i < n) (hj : j < n)
    (hL : b.L.length + n * n < 16777216) (hW : b.W.length + n * n < 16777216) (hn : n ≤ 1000) (wl : ∀ a c w, a < n → c < n → look b.W (a, c) = some w → w.length ≤ n) :
    loopF (stepB (gTp (gsCons (gNm 7) (gsCons (gNm 8) gsNil))) q6_Bounds_add) [7, 8, 9, 10, 11] ((ahead b i).map pD) [bsD b, .int i, .int j, .int m, bk, .lst ((ahead b i).map pD), .lst ((behind b j).map pD), .non, .non, .non, .non, .non] = some (.nx [bsD (relax b i j m), .int i, .int j, .int m, bk, .lst ((ahead b i).map pD), .lst ((behind b j).map pD), .non, .non, .non, .non, .non]) := by
  refine loop_pre (σ := Bs) pD (fun b' => [bsD b', .int i, .int j, .int m, bk, .lst ((ahead b i).map pD), .lst ((behind b j).map pD), .non, .non, .non, .non, .non]) (relaxA m i j (behind b j)) b (ahead b i) fun pre q post eq => ?_
  have sm := relaxF_same m i j (behind b j) pre b
  have hB : ∀ p ∈ behind b j, look b.L (j, p.1) = some p.2 := fun p hp => (mem_behind.mp hp).2
  have R2 : Rel b i j m (pre.foldl (relaxA m i j (behind b j)) b) := Rel.outer dom hs _ hB pre (Rel.refl b i j m) fun p hp => (mem_ahead.mp (show (p.1, p.2) ∈ ahead b i by rw [eq]; simp [hp])).2
  generalize pre.foldl (relaxA m i j (behind b j)) b = s at sm R2
  obtain ⟨qa, qf⟩ := q
  have hq := mem_ahead.mp (show (qa, qf) ∈ ahead b i by rw [eq]; simp)
  have al := ahead_len b i
  have bl := behind_len b j
  have hpre : pre.length + 1 ≤ n := by
    rw [eq] at al
    simp at al
    omega
  have hmul : pre.length * (behind b j).length + (behind b j).length ≤ n * n := by
    have : (pre.length + 1) * (behind b j).length ≤ n * n := Nat.mul_le_mul hpre (by omega)
    rw [Nat.succ_mul] at this; exact this
  have := inner_ok (b := b) (b' := s) (i := i) (j := j) (a := qa) (n := n) (m := m) (f := qf) bk (.lst ((ahead b i).map pD)) (behind b j) dom hs hq.2 R2 hB (by have := sm.lenL; omega) (by have := sm.lenW; omega) hn (fun w hw => wl qa i w (by omega) hi hw) (fun c w ⟨l, hl⟩ hw => wl j c w hj (by have := (mem_behind.mp hl).1; omega) hw)
  unfold q6_Bounds_add
  simp only [v_stepB, pD, v_gTp, v_gsCons, v_gNm, v_gsNil, Option.bind_some, List.set, v_sFor, v_iSeq, v_eVar, List.getD_cons_succ, List.getD_cons_zero, v_seqL, v_kill1, v_kill0]
  rw [this]
  simp only [Option.bind_some, v_nxOf, v_kill1, v_kill0, List.set]
theorem lc_ahead (b : Bs) (i : Nat) (j m : D) (bk : D) : lcF (stepLc [7] (gNm 7) t1_Bounds_add e2_Bounds_add) (intsD 0 b.n) [bsD b, .int i, j, m, bk, .non, .non, .non, .non, .non, .non, .non] = some ((ahead b i).map pD, [bsD b, .int i, j, m, bk, .non, .non, .non, .non, .non, .non, .non]) := by
  rw [intsD0, lc_map (fun a : Nat => D.int (a : Int)) (fun a => ((look b.L (a, i)).map fun f => (a, f)).map pD)]
  · unfold ahead
    rw [fm_eq]
  · intro a ha
    unfold t1_Bounds_add e2_Bounds_add
    have h1 := in_al D.int b.L a i
    cases e : look b.L (a, i) with
    | none =>
      rw [e] at h1
      simp [okLen_of, h1]
    | some f =>
      rw [e] at h1
      have h2 := ix_al D.int b.L a i f e
      simp [okLen_of, h1, h2, pD]
theorem lc_behind (b : Bs) (j : Nat) (i m : D) (bk ah : D) : lcF (stepLc [9] (gNm 9) t3_Bounds_add e4_Bounds_add) (intsD 0 b.n) [bsD b, i, .int j, m, bk, ah, .non, .non, .non, .non, .non, .non] = some ((behind b j).map pD, [bsD b, i, .int j, m, bk, ah, .non, .non, .non, .non, .non, .non]) := by
  rw [intsD0, lc_map (fun a : Nat => D.int (a : Int)) (fun a => ((look b.L (j, a)).map fun f => (a, f)).map pD)]
  · unfold behind
    rw [fm_eq]
  · intro a ha
    unfold t3_Bounds_add e4_Bounds_add
    have h1 := in_al D.int b.L j a
    cases e : look b.L (j, a) with
    | none =>
      rw [e] at h1
      simp [okLen_of, h1]
    | some f =>
      rw [e] at h1
      have h2 := ix_al D.int b.L j a f e
      simp [okLen_of, h1, h2, pD]
theorem add_ok {b : Bs} {i j n : Nat} {m : Int} (hbn : b.n = n) (hi : i < n) (hj : j < n) (dom : ∀ k, (look b.W k).isSome = (look b.L k).isSome) (hL : b.L.length + n * n < 16777216) (hW : b.W.length + n * n < 16777216) (hn : n ≤ 1000)
    (wl : b.ring = none → ∀ a c w, a < n → c < n → look b.W (a, c) = some w → w.length ≤ n) :
    F_Bounds_add [bsD b, .int i, .int j, .int m] = some (.non, [bsD (add b i j m), .int i, .int j, .int m]) := by
  unfold F_Bounds_add b_Bounds_add
  rw [v_run4]
  unfold add
  cases hr : b.ring with
  | some r => simp [hr, opD, evD]
  | none =>
    rw [if_neg (by simp)]
    have wl := wl hr
    have out := fun bk hs => outer_ok (b := b) (i := i) (j := j) (n := n) (m := m) bk dom hs hbn hi hj hL hW hn wl
    have s62 : small62 (b.n : Int) = true := s62_of (by omega) (by omega)
    have okn : okLen (intsD 0 b.n).length = true := okLen_of (by rw [intsD_len]; omega)
    cases e : look b.L (j, i) with
    | none =>
      have hs : isShort b i j m = false := by unfold isShort; rw [e]
      rw [hs, if_neg (by simp)]
      have g1 : dGet1 (alD D.int b.L) (.tup [.int j, .int i]) = some .non := by unfold dGet1; rw [get_al, e]; rfl
      simp only [List.cons_append, List.nil_append, List.replicate, v_sSeq, v_sIf, v_tBl, v_eBin, v_eFld, v_eC, List.getD_cons_zero, fld3, hr, opD, Option.bind_some, TL.v_res, d_isNot0, d_nn, v_blOf, Bool.not_true, Bool.false_eq_true, if_false, v_sNil, v_then_nx, v_sAsg, v_eFGet1, fld1, isD_al, if_true,
        v_eTup, v_aCons, v_aNil, v_eVar, List.getD_cons_succ, v_hv1, v_hv0, List.length_cons, List.length_nil, okLen_of (show 0 + 1 + 1 ≤ 16777216 by omega), v_fixOf, g1, v_asgOf, v_gNm, List.set, v_tAnd, v_sSetO, v_oLc, v_iRng1, fld0, v_rng1Of _ _ s62, Int.toNat_natCast, okn, lc_ahead, lc_behind, v_sFor, v_iSeq, v_seqL, v_kill1, v_kill0]
      rw [out .non (short_no hs)]
      rfl
    | some y =>
      have g1 : dGet1 (alD D.int b.L) (.tup [.int j, .int i]) = some (.int y) := by unfold dGet1; rw [get_al, e]; rfl
      by_cases hy : y + m < 0
      · have hs : isShort b i j m = true := by unfold isShort; rw [e]; simpa using hy
        rw [hs, if_pos rfl]
        obtain ⟨w, ew⟩ := Option.isSome_iff_exists.mp ((dom (j, i)).trans (by rw [e]; rfl))
        have wlen := wl j i w hj hi ew
        have g2 := ix_al evD b.W j i w ew
        have cat : dAdd (.tup [.int i]) (evD w) = some (evD (i :: w)) := by
          unfold evD
          rw [d_add_t, if_pos (okLen_of (by simp; omega))]
          simp
        simp [hr, opD, okLen_of, g1, hy, g2, cat, ew]
      · have hs : isShort b i j m = false := by unfold isShort; rw [e]; simpa using hy
        rw [hs, if_neg (by simp)]
        have hd : decide (y + m < 0) = false := by simpa using hy
        simp only [List.cons_append, List.nil_append, List.replicate, v_sSeq, v_sIf, v_tBl, v_eBin, v_eFld, v_eC, List.getD_cons_zero, fld3, hr, opD, Option.bind_some, TL.v_res, d_isNot0, d_nn, d_ni, v_blOf, Bool.not_true, Bool.not_false, Bool.false_eq_true, if_false, v_sNil, v_then_nx, v_sAsg, v_eFGet1, fld1, isD_al, if_true,
          v_eTup, v_aCons, v_aNil, v_eVar, List.getD_cons_succ, v_hv1, v_hv0, List.length_cons, List.length_nil, okLen_of (show 0 + 1 + 1 ≤ 16777216 by omega), v_fixOf, g1, v_asgOf, v_gNm, List.set, v_tAnd, d_add, d_lt, hd, v_sSetO, v_oLc, v_iRng1, fld0, v_rng1Of _ _ s62, Int.toNat_natCast, okn, lc_ahead, lc_behind, v_sFor, v_iSeq, v_seqL, v_kill1, v_kill0]
        rw [out (.int y) (short_no hs)]
        rfl
end PL

namespace PL
open PySem PySem.Spec PyProof.Rows L2 TL
def sD (s : Stp) : D := .tup [.int s.i, .int s.j, .int s.m]
structure Link where
  i : Nat
  j : Nat
  low : Int
  high : Option Int
  deriving DecidableEq, Inhabited
def linkD (l : Link) : D := .tup [.int l.i, .int l.j, .int l.low, opD .int l.high]
def stepsOf1 (l : Link) : List Stp := ⟨l.j, l.i, -l.low⟩ :: match l.high with
  | none => []
  | some h => [⟨l.i, l.j, h⟩]
def stepsOf (ls : List Link) : List Stp := ls.flatMap stepsOf1
theorem stepsOf1_len (l : Link) : (stepsOf1 l).length ≤ 2 := by
  unfold stepsOf1
  cases l.high <;> simp
theorem stepsOf_len (ls : List Link) : (stepsOf ls).length ≤ ls.length * 2 := len_flat stepsOf1 2 ls fun l _ => stepsOf1_len l
theorem mem_stepsOf {ls : List Link} {s : Stp} : s ∈ stepsOf ls ↔ ∃ l ∈ ls, s = ⟨l.j, l.i, -l.low⟩ ∨ ∃ h, l.high = some h ∧ s = ⟨l.i, l.j, h⟩ := by
  unfold stepsOf
  rw [List.mem_flatMap]
  constructor
  · rintro ⟨l, h1, h2⟩
    refine ⟨l, h1, ?_⟩
    unfold stepsOf1 at h2
    cases e : l.high with
    | none => rw [e] at h2; simp at h2; exact .inl h2
    | some h => rw [e] at h2; simp at h2; exact h2.imp id fun z => ⟨h, rfl, z⟩
  · rintro ⟨l, h1, h2⟩
    refine ⟨l, h1, ?_⟩
    unfold stepsOf1
    rcases h2 with rfl | ⟨h, e, rfl⟩
    · simp
    · rw [e]; simp
theorem stepsOf_in {n : Nat} {ls : List Link} (h : ∀ l ∈ ls, l.i < n ∧ l.j < n) : ∀ s ∈ stepsOf ls, s.i < n ∧ s.j < n := fun s hs => by
  obtain ⟨l, h1, h2⟩ := mem_stepsOf.mp hs
  have := h l h1
  rcases h2 with rfl | ⟨_, _, rfl⟩
  · exact ⟨this.2, this.1⟩
  · exact this
theorem steps_ok (ls : List Link) (w : D) (hw : seqD (.v w) = some (ls.map linkD)) (hl : ls.length ≤ 1000) : F_steps_of [w] = some (.lst ((stepsOf ls).map sD), [w]) := by
  unfold F_steps_of b_steps_of
  rw [v_run1]
  have := loop_ext (b := stepB (gTp (gsCons (gNm 2) (gsCons (gNm 3) (gsCons (gNm 4) (gsCons (gNm 5) gsNil))))) q1_steps_of) (ks := [2, 3, 4, 5]) linkD (fun acc : List Stp => [w, .lst (acc.map sD), .non, .non, .non, .non]) stepsOf1 2 10000 ls [] (fun l _ => stepsOf1_len l) (by simp; omega) fun l hl' acc ha => by
    unfold q1_steps_of stepsOf1
    cases e : l.high with
    | none => simp [linkD, e, opD, okLen_of, v_appOf, sD, okLen_of (n := acc.length + 1) (by omega)]
    | some h => simp [linkD, e, opD, okLen_of, v_appOf, sD, okLen_of (n := acc.length + 1) (by omega), okLen_of (n := acc.length + 1 + 1) (by omega)]
  simp only [List.map_nil, List.nil_append] at this
  simp [okLen_of, hw, this, stepsOf]
/-! new Bounds -/
theorem put_new {α : Type} (f : Nat → α) (k : Nat) : put (diag f k) (k, k) (f k) = diag f (k + 1) := by
  unfold put
  rw [if_neg]
  · unfold diag
    rw [List.range_succ]; simp
  · intro z
    obtain ⟨p, h1, h2⟩ := List.any_eq_true.mp z
    unfold diag at h1
    obtain ⟨e, h3, rfl⟩ := List.mem_map.mp h1
    have h3 := List.mem_range.mp h3
    simp only [decide_eq_true_eq, Prod.mk.injEq] at h2
    omega
theorem dc_diag {α : Type} (em : α → D) (f : Nat → α) (own : List Nat) (g : Gf) (fk fv : Ef) (ρ : Rho) (n : Nat) (hn : n ≤ 1000) (hs : ∀ k, k < n → stepDc own g tYesF fk fv (.int k) ρ = some (some ([.int k, .int k], em (f k)), ρ)) : ∀ (m k : Nat), k + m = n →
    dcF (stepDc own g tYesF fk fv) ((List.range' k m).map fun i : Nat => D.int (i : Int)) ((diag f k).map fun p => (kD p.1, em p.2)) ρ = some ((diag f n).map fun p => (kD p.1, em p.2), ρ)
  | 0, k, e => by
    have : k = n := by omega
    subst this; rfl
  | m + 1, k, e => by
    rw [List.range'_succ, List.map_cons]
    have h1 := hs k (by omega)
    have hl : ((diag f k).map fun p => (kD p.1, em p.2)).length = k := by simp [diag]
    show ((stepDc own g tYesF fk fv (.int k) ρ).bind _) = _
    rw [h1]
    simp only [Option.bind_some]
    rw [hl, if_pos (okLen_of (by omega))]
    have h2 := dPut_al em (diag f k) (k, k) (f k)
    rw [put_new] at h2
    rw [show (D.tup [D.int (k : Int), D.int (k : Int)]) = kD (k, k) from rfl, h2]
    exact dc_diag em f own g fk fv ρ n hn hs m (k + 1) (by omega)
theorem init_ok (n : Nat) (T : List Stp) (w : D) (hw : seqD (.v w) = some (T.map sD)) (hT : ∀ s ∈ T, s.i < n ∧ s.j < n) (hn : n ≤ 100) (hl : T.length ≤ 1000) : F_Bounds_init [.obj "Bounds" [], .int n, w] = some (.non, [bsD (ofSteps n T), .int n, w]) := by
  unfold F_Bounds_init b_Bounds_init
  rw [v_run3]
  have s62 : small62 (n : Int) = true := s62_of (by omega) (by omega)
  have d1 := dc_diag (α := Int) D.int (fun _ => 0) [6] (gNm 6) e1_Bounds_init e2_Bounds_init [.obj "Bounds" [("events", .int n)], .int n, w, .non, .non, .non, .non] n (by omega) (fun k hk => by simp [stepDc, e1_Bounds_init, e2_Bounds_init, tYesF, okLen_of, keysN, keyN]) n 0 (by omega)
  have d2 := dc_diag (α := List Nat) evD (fun e => [e]) [6] (gNm 6) e3_Bounds_init e4_Bounds_init [.obj "Bounds" [("events", .int n), ("least", alD .int (diag (fun _ => 0) n))], .int n, w, .non, .non, .non, .non] n (by omega) (fun k hk => by simp [stepDc, e3_Bounds_init, e4_Bounds_init, tYesF, okLen_of, keysN, keyN, evD]) n 0 (by omega)
  have hr : (List.range' 0 n).map (fun i : Nat => D.int (i : Int)) = intsD 0 n := by rw [intsD0, List.range_eq_range']
  rw [hr] at d1 d2
  have dd : ∀ {α : Type} (f : Nat → α), diag f 0 = [] := fun f => rfl
  rw [dd] at d1 d2
  have lp := loop_pre (b := stepB (gTp (gsCons (gNm 3) (gsCons (gNm 4) (gsCons (gNm 5) gsNil)))) q5_Bounds_init) (ks := [3, 4, 5]) sD (fun b : Bs => [bsD b, .int n, w, .non, .non, .non, .non]) addS (new n) T fun pre s post eq => by
    have B := (BP.new n).steps pre fun s hs => hT s (by rw [eq]; simp [hs])
    have h1 := hT s (by rw [eq]; simp)
    have hp : pre.length ≤ 1000 := by
      have : pre.length ≤ T.length := by rw [eq]; simp
      omega
    generalize pre.foldl addS (new n) = b at B
    have hnn : n * n ≤ 10000 := Nat.mul_le_mul hn hn
    have hmul : pre.length * (n * n) ≤ 1000 * 10000 := Nat.mul_le_mul hp hnn
    have a := add_ok (b := b) (i := s.i) (j := s.j) (n := n) (m := s.m) B.I.nn h1.1 h1.2 B.I.dom (by have := B.I.lenL; omega) (by have := B.I.lenW; omega) (by omega) fun hr a c w ha hc hw => B.wlen hr ha hc hw
    unfold q5_Bounds_init
    simp [sD, a, addS]
  have newD : bsD (new n) = .obj "Bounds" [("events", .int n), ("least", alD .int (diag (fun _ => 0) n)), ("way", alD evD (diag (fun e => [e]) n)), ("ring", .non)] := rfl
  rw [newD] at lp
  simp only [List.map_nil] at d1 d2
  have n1 : ∀ d : D, newFld (.obj "Bounds" []) "events" d = some (.obj "Bounds" [("events", d)]) := fun d => rfl
  have n2 : ∀ a d : D, newFld (.obj "Bounds" [("events", a)]) "least" d = some (.obj "Bounds" [("events", a), ("least", d)]) := fun a d => rfl
  have n3 : ∀ a b d : D, newFld (.obj "Bounds" [("events", a), ("least", b)]) "way" d = some (.obj "Bounds" [("events", a), ("least", b), ("way", d)]) := fun a b d => rfl
  have n4 : ∀ a b c d : D, newFld (.obj "Bounds" [("events", a), ("least", b), ("way", c)]) "ring" d = some (.obj "Bounds" [("events", a), ("least", b), ("way", c), ("ring", d)]) := fun a b c d => rfl
  have al1 : (D.dtt ((diag (fun _ => (0 : Int)) n).map fun p => (kD p.1, D.int p.2))) = alD .int (diag (fun _ => 0) n) := rfl
  have al2 : (D.dtt ((diag (fun e => [e]) n).map fun p => (kD p.1, evD p.2))) = alD evD (diag (fun e => [e]) n) := rfl
  simp [n1, s62, d1, al1, n2, d2, al2, n3, n4, hw, lp, ofSteps]
theorem make_ok (n : Nat) (T : List Stp) (w : D) (hw : seqD (.v w) = some (T.map sD)) (hT : ∀ s ∈ T, s.i < n ∧ s.j < n) (hn : n ≤ 100) (hl : T.length ≤ 1000) (ρ : Rho) : ((F_Bounds_init (.obj "Bounds" [] :: ([.int n, w] ++ []))).bind fun r => mkOf r ρ) = some (bsD (ofSteps n T), ρ) := by
  rw [List.append_nil, init_ok n T w hw hT hn hl]
  rfl
theorem ring_at (b : Bs) : attrD "Bounds" "ring" (bsD b) = some (opD evD b.ring) := rfl
end PL

/-! the law's own least bounds, plain -/
namespace PL
def gt (l : AL Int) (a b : Nat) : Int := (look l (a, b)).getD 0
def fw1 (k i : Nat) (l : AL Int) (j : Nat) : AL Int := if gt l i k < 100000000 ∧ gt l k j < 100000000 then put l (i, j) (min (gt l i j) (gt l i k + gt l k j)) else l
def fwI (n k : Nat) (l : AL Int) (i : Nat) : AL Int := (List.range n).foldl (fw1 k i) l
def fwK (n : Nat) (l : AL Int) (k : Nat) : AL Int := (List.range n).foldl (fwI n k) l
def fw (n : Nat) (l : AL Int) : AL Int := (List.range n).foldl (fwK n) l
theorem gt_put (l : AL Int) (k : Nat × Nat) (v : Int) (a b : Nat) : gt (put l k v) a b = if (a, b) = k then v else gt l a b := by
  unfold gt
  rw [look_put]
  split <;> rfl
def Lb (l : AL Int) (a b : Nat) (x : Int) : Prop := gt l a b < 100000000 ∧ gt l a b ≤ x
/-- what holds always -/
structure G (n : Nat) (S : List Stp) (U : Int) (l : AL Int) : Prop where
  dom : ∀ a b, a < n → b < n → (look l (a, b)).isSome = true
  up : ∀ a b, a < n → b < n → gt l a b = 1000000000 ∨ gt l a b ≤ U
  sound : ∀ a b, a < n → b < n → gt l a b < 100000000 → Walk S a b (gt l a b)
/-- within the round of k -/
structure Hk (n : Nat) (S : List Stp) (U : Int) (k : Nat) (l0 l : AL Int) (m : Nat) : Prop where
  g : G n S (2 * U) l
  row : ∀ a b, a < n → b < n → (a = k ∨ b = k) → gt l a b = 1000000000 ∨ gt l a b ≤ U
  le : ∀ a b, a < n → b < n → gt l a b ≤ gt l0 a b
  len : l.length ≤ l0.length + m
  fix : gt l0 k k = 0 → ∀ a, a < n → gt l a k = gt l0 a k ∧ gt l k a = gt l0 k a
  rel : gt l0 k k = 0 → ∀ a b x, a < n → b < n → Lb l a b x → Lb l0 a b x ∨ ∃ f g, Lb l0 a k f ∧ Lb l0 k b g ∧ f + g ≤ x
theorem Hk.start {n : Nat} {S : List Stp} {U : Int} {k : Nat} {l : AL Int} (hU : 0 ≤ U) (h : G n S U l) : Hk n S U k l l 0 :=
  ⟨⟨h.dom, fun a b ha hb => (h.up a b ha hb).imp id fun z => by omega, h.sound⟩, fun a b ha hb _ => h.up a b ha hb, fun _ _ _ _ => Int.le_refl _, by omega, fun _ _ _ => ⟨rfl, rfl⟩, fun _ _ _ _ _ _ z => .inl z⟩
theorem Hk.step {n : Nat} {S : List Stp} {U : Int} {k : Nat} {l0 l : AL Int} {m : Nat} (H : Hk n S U k l0 l m) (hk : k < n) (hU : 0 ≤ U) (hU2 : U < 50000000) {i j : Nat} (hi : i < n) (hj : j < n) :
    Hk n S U k l0 (fw1 k i l j) (m + 1) ∧ (gt l0 k k = 0 → ∀ f g, Lb l0 i k f → Lb l0 k j g → gt (fw1 k i l j) i j ≤ f + g) := by
  unfold fw1
  by_cases h : gt l i k < 100000000 ∧ gt l k j < 100000000
  · rw [if_pos h]
    have r1 := H.row i k hi hk (.inr rfl)
    have r2 := H.row k j hk hj (.inl rfl)
    have b1 : gt l i k ≤ U := r1.elim (fun z => by omega) id
    have b2 : gt l k j ≤ U := r2.elim (fun z => by omega) id
    have w1 := H.g.sound i k hi hk h.1
    have w2 := H.g.sound k j hk hj h.2
    refine ⟨⟨⟨fun a b ha hb => ?_, fun a b ha hb => ?_, fun a b ha hb hx => ?_⟩, fun a b ha hb hab => ?_, fun a b ha hb => ?_, ?_, fun hz a ha => ?_, fun hz a b x ha hb hx => ?_⟩, fun hz f g hf hg => ?_⟩
    · rw [look_put]
      split
      · rfl
      · exact H.g.dom a b ha hb
    · rw [gt_put]
      split
      · exact .inr (by omega)
      · exact H.g.up a b ha hb
    · rw [gt_put] at hx ⊢
      by_cases he : (a, b) = (i, j)
      · rw [if_pos he] at hx ⊢
        simp only [Prod.mk.injEq] at he
        obtain ⟨rfl, rfl⟩ := he
        by_cases hm : gt l a b ≤ gt l a k + gt l k b
        · rw [Int.min_eq_left hm] at hx ⊢
          exact H.g.sound a b ha hb hx
        · rw [Int.min_eq_right (by omega)]
          exact w1.append w2
      · rw [if_neg he] at hx ⊢
        exact H.g.sound a b ha hb hx
    · rw [gt_put]
      by_cases he : (a, b) = (i, j)
      · rw [if_pos he]
        simp only [Prod.mk.injEq] at he
        obtain ⟨rfl, rfl⟩ := he
        refine .inr ?_
        rcases hab with rfl | rfl <;> omega
      · rw [if_neg he]
        exact H.row a b ha hb hab
    · rw [gt_put]
      by_cases he : (a, b) = (i, j)
      · rw [if_pos he]
        simp only [Prod.mk.injEq] at he
        obtain ⟨rfl, rfl⟩ := he
        have := H.le a b ha hb
        omega
      · rw [if_neg he]
        exact H.le a b ha hb
    · have := put_len l (i, j) (min (gt l i j) (gt l i k + gt l k j))
      have := H.len
      omega
    · have fk := H.fix hz k hk
      have kk : gt l k k = 0 := by rw [fk.1, hz]
      have fa := H.fix hz a ha
      rw [gt_put, gt_put]
      constructor
      · by_cases he : (a, k) = (i, j)
        · rw [if_pos he]
          simp only [Prod.mk.injEq] at he
          obtain ⟨rfl, rfl⟩ := he
          rw [kk]
          have := fa.1
          omega
        · rw [if_neg he]; exact fa.1
      · by_cases he : (k, a) = (i, j)
        · rw [if_pos he]
          simp only [Prod.mk.injEq] at he
          obtain ⟨rfl, rfl⟩ := he
          rw [kk]
          have := fa.2
          omega
        · rw [if_neg he]; exact fa.2
    · unfold Lb at hx
      rw [gt_put] at hx
      by_cases he : (a, b) = (i, j)
      · rw [if_pos he] at hx
        simp only [Prod.mk.injEq] at he
        obtain ⟨rfl, rfl⟩ := he
        by_cases hm : gt l a b ≤ gt l a k + gt l k b
        · rw [Int.min_eq_left hm] at hx
          exact H.rel hz a b x ha hb hx
        · rw [Int.min_eq_right (by omega)] at hx
          have f1 := (H.fix hz a ha).1
          have f2 := (H.fix hz b hb).2
          exact .inr ⟨gt l a k, gt l k b, ⟨by omega, by omega⟩, ⟨by omega, by omega⟩, hx.2⟩
      · rw [if_neg he] at hx
        exact H.rel hz a b x ha hb hx
    · rw [gt_put, if_pos rfl]
      have f1 := (H.fix hz i hi).1
      have f2 := (H.fix hz j hj).2
      have := hf.2
      have := hg.2
      omega
  · rw [if_neg h]
    refine ⟨⟨H.g, H.row, H.le, by have := H.len; omega, H.fix, H.rel⟩, fun hz f g hf hg => ?_⟩
    have f1 := (H.fix hz i hi).1
    have f2 := (H.fix hz j hj).2
    exact absurd ⟨by have := hf.1; omega, by have := hg.1; omega⟩ h
theorem fw1_le {n : Nat} {S : List Stp} {U : Int} {k : Nat} {l : AL Int} {i j a b : Nat} : gt (fw1 k i l j) a b ≤ gt l a b := by
  unfold fw1
  split
  · rw [gt_put]
    split
    · rename_i h
      simp only [Prod.mk.injEq] at h
      obtain ⟨rfl, rfl⟩ := h
      omega
    · exact Int.le_refl _
  · exact Int.le_refl _
theorem foldl_range {α : Type} (f : α → Nat → α) (P : Nat → α → Prop) (n : Nat) : ∀ (m k : Nat) (s : α), k + m = n → P k s → (∀ j s, j < n → P j s → P (j + 1) (f s j)) → P n ((List.range' k m).foldl f s)
  | 0, k, s, e, h, _ => by
    have : k = n := by omega
    subst this; exact h
  | m + 1, k, s, e, h, st => by
    rw [List.range'_succ, List.foldl_cons]
    exact foldl_range f P n m (k + 1) _ (by omega) (st k s (by omega) h) st
theorem foldl_range0 {α : Type} (f : α → Nat → α) (P : Nat → α → Prop) (n : Nat) (s : α) (h : P 0 s) (st : ∀ j s, j < n → P j s → P (j + 1) (f s j)) : P n ((List.range n).foldl f s) := by
  rw [List.range_eq_range']
  exact foldl_range f P n n 0 s (by omega) h st
/-- the round of k -/
theorem round_k {n : Nat} {S : List Stp} {U : Int} {k : Nat} {l : AL Int} (hk : k < n) (hU : 0 ≤ U) (hU2 : U < 50000000) (h : G n S U l) :
    Hk n S U k l (fwK n l k) (n * n) ∧ (gt l k k = 0 → ∀ a b f g, a < n → b < n → Lb l a k f → Lb l k b g → gt (fwK n l k) a b ≤ f + g) := by
  unfold fwK
  have := foldl_range0 (fwI n k) (fun i s => Hk n S U k l s (i * n) ∧ (gt l k k = 0 → ∀ a b f g, a < i → b < n → Lb l a k f → Lb l k b g → gt s a b ≤ f + g)) n l ⟨by simpa using Hk.start hU h, fun _ a b f g ha => by omega⟩ fun i s hi ⟨H, T⟩ => by
    unfold fwI
    have := foldl_range0 (fw1 k i) (fun j s' => Hk n S U k l s' (i * n + j) ∧ (gt l k k = 0 → ∀ a b f g, (a < i ∨ (a = i ∧ b < j)) → a < n → b < n → Lb l a k f → Lb l k b g → gt s' a b ≤ f + g)) n s ⟨by simpa using H, fun hz a b f g ha ha2 hb hf hg => (ha.elim (fun z => T hz a b f g z hb hf hg) fun z => by omega)⟩ fun j s' hj ⟨H', T'⟩ => by
      obtain ⟨q1, q2⟩ := H'.step hk hU hU2 hi hj
      refine ⟨by have := q1; rwa [Nat.add_assoc] at this, fun hz a b f g ha ha2 hb hf hg => ?_⟩
      by_cases he : a = i ∧ b = j
      · obtain ⟨rfl, rfl⟩ := he
        exact q2 hz f g hf hg
      · have h1 := T' hz a b f g (by omega) ha2 hb hf hg
        have h2 := fw1_le (n := n) (S := S) (U := U) (k := k) (l := s') (i := i) (j := j) (a := a) (b := b)
        omega
    refine ⟨by have := this.1; rwa [← Nat.succ_mul] at this, fun hz a b f g ha hb hf hg => this.2 hz a b f g (by omega) (by omega) hb hf hg⟩
  exact ⟨this.1, fun hz a b f g ha hb hf hg => this.2 hz a b f g ha hb hf hg⟩
/-- after the rounds ahead of k -/
structure Rk (n : Nat) (S : List Stp) (U : Int) (l0 : AL Int) (k : Nat) (l : AL Int) : Prop where
  g : G n S (2 ^ k * U) l
  le : ∀ a b, a < n → b < n → gt l a b ≤ gt l0 a b
  len : l.length ≤ l0.length + k * (n * n)
  tri : (∀ a, a < n → 0 ≤ gt l a a) → ∀ m, m < k → ∀ a b f g, a < n → b < n → Lb l a m f → Lb l m b g → Lb l a b (f + g)
theorem pow_small {k : Nat} (hk : k ≤ 6) : (2 : Int) ^ k ≤ 64 ∧ 1 ≤ (2 : Int) ^ k := by
  match k, hk with
  | 0, _ | 1, _ | 2, _ | 3, _ | 4, _ | 5, _ | 6, _ => decide
theorem pow_small5 {k : Nat} (hk : k ≤ 5) : (2 : Int) ^ k ≤ 32 := by
  match k, hk with
  | 0, _ | 1, _ | 2, _ | 3, _ | 4, _ | 5, _ => decide
theorem fw_rk {n : Nat} {S : List Stp} {U : Int} {l0 : AL Int} (hn : n ≤ 6) (hU : 0 ≤ U) (hU2 : U ≤ 1000000) (h : G n S U l0) (h0 : ∀ a, a < n → gt l0 a a = 0) : Rk n S U l0 n (fw n l0) := by
  unfold fw
  refine foldl_range0 (fwK n) (Rk n S U l0) n l0 ⟨by simpa using h, fun _ _ _ _ => Int.le_refl _, by omega, fun _ m hm => by omega⟩ fun k l hk R => ?_
  have pw := pow_small (k := k) (by omega)
  have hUk : 0 ≤ 2 ^ k * U := Int.mul_nonneg (by omega) hU
  have hUk2 : 2 ^ k * U < 50000000 := by
    have : 2 ^ k * U ≤ 32 * 1000000 := Int.mul_le_mul (pow_small5 (by omega)) hU2 hU (by omega)
    omega
  obtain ⟨H, T⟩ := round_k hk hUk hUk2 R.g
  refine ⟨?_, fun a b ha hb => Int.le_trans (H.le a b ha hb) (R.le a b ha hb), by have := H.len; have := R.len; rw [Nat.succ_mul]; omega, fun hz m hm a b f g ha hb hf hg => ?_⟩
  · have e : (2 : Int) ^ (k + 1) * U = 2 * (2 ^ k * U) := by rw [Int.pow_succ, Int.mul_comm (2 ^ k) 2, Int.mul_assoc]
    rw [e]; exact H.g
  · have diag : ∀ a, a < n → gt l a a = 0 := fun a ha => by
      have h1 := hz a ha
      have h2 := H.le a a ha ha
      have h3 := R.le a a ha ha
      rw [h0 a ha] at h3
      omega
    have kk := diag k hk
    have fin : ∀ {a b : Nat} {x : Int}, a < n → b < n → Lb l a b x → Lb (fwK n l k) a b x := fun {a b x} ha hb hx => by
      have := H.le a b ha hb
      exact ⟨by have := hx.1; omega, by have := hx.2; omega⟩
    have viaK : ∀ {a b : Nat} {f g : Int}, a < n → b < n → Lb l a k f → Lb l k b g → Lb (fwK n l k) a b (f + g) := fun {a b f g} ha hb hf hg => by
      have h1 := T kk a b (gt l a k) (gt l k b) ha hb ⟨hf.1, Int.le_refl _⟩ ⟨hg.1, Int.le_refl _⟩
      have u1 := (R.g.up a k ha hk).elim (fun z => by have := hf.1; omega) id
      have u2 := (R.g.up k b hk hb).elim (fun z => by have := hg.1; omega) id
      exact ⟨by omega, by have := hf.2; have := hg.2; omega⟩
    have tri0 := R.tri (fun a ha => by rw [diag a ha]; omega)
    by_cases hmk : m = k
    · subst hmk
      have fx := H.fix kk
      refine viaK ha hb ?_ ?_
      · have := (fx a ha).1
        exact ⟨by have := hf.1; omega, by have := hf.2; omega⟩
      · have := (fx b hb).2
        exact ⟨by have := hg.1; omega, by have := hg.2; omega⟩
    · have hm' : m < k := by omega
      have hmn : m < n := by omega
      have wk : ∀ {a b : Nat} {x y : Int}, Lb (fwK n l k) a b x → x ≤ y → Lb (fwK n l k) a b y := fun h k => ⟨h.1, by have := h.2; omega⟩
      rcases H.rel kk a m f ha hmn hf with h1 | ⟨f1, g1, h1, h2, h3⟩
      · rcases H.rel kk m b g hmn hb hg with k1 | ⟨f2, g2, k1, k2, k3⟩
        · exact fin ha hb (tri0 m hm' a b f g ha hb h1 k1)
        · exact wk (viaK ha hb (tri0 m hm' a k f f2 ha hk h1 k1) k2) (by omega)
      · rcases H.rel kk m b g hmn hb hg with k1 | ⟨f2, g2, k1, k2, k3⟩
        · exact wk (viaK ha hb h1 (tri0 m hm' k b g1 g hk hb h2 k1)) (by omega)
        · have h4 := (tri0 m hm' k k g1 f2 hk hk h2 k1).2
          rw [kk] at h4
          exact wk (viaK ha hb h1 k2) (by omega)
/-- what the law's own bounds tell -/
theorem fw_ok {n : Nat} {S : List Stp} {U : Int} {l0 : AL Int} (hn : n ≤ 6) (hU : 0 ≤ U) (hU2 : U ≤ 1000000) (h : G n S U l0) (h0 : ∀ a, a < n → gt l0 a a = 0) (hS : ∀ s ∈ S, s.i < n ∧ s.j < n) (hin : ∀ s ∈ S, gt l0 s.i s.j ≤ s.m ∧ gt l0 s.i s.j < 100000000) :
    ((∃ a, a < n ∧ gt (fw n l0) a a < 0) ↔ Neg S) ∧ (¬ Neg S → ∀ a b, a < n → b < n → ∀ x, Lb (fw n l0) a b x ↔ Dle S a b x) ∧ (∀ a b, a < n → b < n → gt (fw n l0) a b = 1000000000 ∨ gt (fw n l0) a b < 100000000) ∧
      (∀ a b, a < n → b < n → (look (fw n l0) (a, b)).isSome = true) ∧ (fw n l0).length ≤ l0.length + n * (n * n) := by
  have R := fw_rk hn hU hU2 h h0
  have pw := pow_small (k := n) hn
  have hUn : 2 ^ n * U ≤ 64 * 1000000 := Int.mul_le_mul pw.1 hU2 hU (by omega)
  have compl : (∀ a, a < n → 0 ≤ gt (fw n l0) a a) → ∀ {a b : Nat} {w : Int}, Walk S a b w → a < n → Lb (fw n l0) a b w := fun hz {a b w} hw => by
    induction hw with
    | nil a =>
      intro ha
      have h1 := R.le a a ha ha
      rw [h0 a ha] at h1
      exact ⟨by omega, h1⟩
    | @cons s c x hs hw ih =>
      intro ha
      have hj := (hS s hs).2
      have hc := (walk_in hS hw).mp hj
      have h1 := hin s hs
      have h2 := R.le s.i s.j ha hj
      exact R.tri hz s.j hj s.i c s.m x ha hc ⟨by omega, by omega⟩ (ih hj)
  refine ⟨⟨?_, fun ⟨a, x, hx, hw⟩ => ?_⟩, fun hN a b ha hb x => ⟨fun hx => ?_, fun ⟨w, h1, h2⟩ => ?_⟩, fun a b ha hb => ?_, R.g.dom, R.len⟩
  · rintro ⟨a, ha, hx⟩
    exact ⟨a, _, hx, R.g.sound a a ha ha (by omega)⟩
  · apply Classical.byContradiction
    intro hn'
    have hz : ∀ a, a < n → 0 ≤ gt (fw n l0) a a := fun a ha => by
      apply Classical.byContradiction
      intro z
      exact hn' ⟨a, ha, by omega⟩
    by_cases ha : a < n
    · have := (compl hz hw ha).2
      have := hz a ha
      omega
    · have := (walk_out hS hw ha).2
      omega
  · exact ⟨_, hx.2, R.g.sound a b ha hb hx.1⟩
  · have hz : ∀ a, a < n → 0 ≤ gt (fw n l0) a a := fun a ha => by
      apply Classical.byContradiction
      intro z
      exact hN ⟨a, _, by omega, R.g.sound a a ha ha (by omega)⟩
    have := compl hz h2 ha
    exact ⟨this.1, by have := this.2; omega⟩
  · rcases R.g.up a b ha hb with z | z
    · exact .inl z
    · exact .inr (by omega)
end PL

/-! the law's own least bounds, as the law has them -/
namespace TL
open PySem PySem.Spec PyProof.Rows L2
def putOf (i : Nat) (p q : Hd × Rho) : Option Out := match p.1, q.1 with
  | .v d, .v k => (putD k d (q.2.getD i .non)).bind fun x => some (.nx (q.2.set i x))
  | _, _ => none
@[simp] theorem v_putOf (i : Nat) (ρ ρ' : Rho) (d k : D) : putOf i (.v d, ρ) (.v k, ρ') = (putD k d (ρ'.getD i .non)).bind fun x => some (.nx (ρ'.set i x)) := rfl
@[simp] theorem v_sPut (i : Nat) (f fk : Ef) (ρ : Rho) : sPut i f fk ρ = (f ρ).bind fun p => (fk p.2).bind (putOf i p) := rfl
@[simp] theorem v_oDctT (ρ : Rho) : oDctT ρ = some (.dtt [], ρ) := rfl
theorem d_eq2 (a b c d : Int) : dEq (.tup [.int a, .int b]) (.tup [.int c, .int d]) = some (.bl (a == c && b == d)) := by
  simp [dEq, pyOk, dq, dqs]
theorem pow9 : dPow (.int 10) (.int 9) = some (.int 1000000000) := by kernel_rfl
theorem pow8 : dPow (.int 10) (.int 8) = some (.int 100000000) := by kernel_rfl
end TL
namespace PL
open PySem PySem.Spec PyProof.Rows L2 TL
def bnds (ls : List Link) (i j : Nat) : List Int := (ls.filterMap fun l => if l.i = i ∧ l.j = j then l.high else none) ++ ls.filterMap fun l => if l.i = j ∧ l.j = i then some (0 - l.low) else none
theorem mem_bnds {ls : List Link} {i j : Nat} {m : Int} : m ∈ bnds ls i j ↔ ⟨i, j, m⟩ ∈ stepsOf ls := by
  rw [mem_stepsOf]
  unfold bnds
  simp only [List.mem_append, List.mem_filterMap]
  constructor
  · rintro (⟨l, h1, h2⟩ | ⟨l, h1, h2⟩)
    · by_cases h : l.i = i ∧ l.j = j
      · rw [if_pos h] at h2
        exact ⟨l, h1, .inr ⟨m, h2, by rw [h.1, h.2]⟩⟩
      · rw [if_neg h] at h2; cases h2
    · by_cases h : l.i = j ∧ l.j = i
      · rw [if_pos h] at h2; cases h2
        exact ⟨l, h1, .inl (by rw [h.1, h.2]; simp)⟩
      · rw [if_neg h] at h2; cases h2
  · rintro ⟨l, h1, h2 | ⟨h, e, h2⟩⟩
    · cases h2
      exact .inr ⟨l, h1, by rw [if_pos ⟨rfl, rfl⟩]; simp⟩
    · cases h2
      exact .inl ⟨l, h1, by rw [if_pos ⟨rfl, rfl⟩]; exact e⟩
theorem lmin_none {l : List Int} : lmin l = none ↔ l = [] := by
  cases l <;> simp [lmin]
theorem lmin_some {l : List Int} {m : Int} (h : lmin l = some m) : m ∈ l ∧ ∀ y ∈ l, m ≤ y := by
  cases l with
  | nil => simp [lmin] at h
  | cons a r =>
    have : m = r.foldl (fun m x => if x < m then x else m) a := by
      unfold lmin at h
      exact (Option.some.inj h).symm
    subst this
    exact lmin_spec r a
theorem bound_ok (ls : List Link) (w : D) (hw : seqD (.v w) = some (ls.map linkD)) (hl : ls.length ≤ 1000) (i j : Nat) : F__law_bound [w, .int i, .int j] = some (opD .int (lmin (bnds ls i j)), [w, .int i, .int j]) := by
  unfold F__law_bound b__law_bound
  rw [v_run3]
  have l1 := lc_map (step := stepLc [4, 5, 6, 7] (gTp (gsCons (gNm 4) (gsCons (gNm 5) (gsCons (gNm 6) (gsCons (gNm 7) gsNil))))) t1__law_bound e2__law_bound) linkD (fun l => (if l.i = i ∧ l.j = j then l.high else none).map D.int) [w, .int i, .int j, .non, .non, .non, .non, .non] ls fun l _ => by
    unfold t1__law_bound e2__law_bound
    by_cases h : l.i = i ∧ l.j = j
    · obtain ⟨h1, h2⟩ := h
      subst h1; subst h2
      cases e : l.high with
      | none => simp [linkD, e, opD, okLen_of, d_eq2]
      | some x => simp [linkD, e, opD, okLen_of, d_eq2]
    · have : ((l.i : Int) == (i : Int) && (l.j : Int) == (j : Int)) = false := by
        rw [Bool.eq_false_iff]
        intro z
        simp only [Bool.and_eq_true, beq_iff_eq] at z
        exact h ⟨by omega, by omega⟩
      simp [linkD, opD, okLen_of, d_eq2, this, h]
  have l2 := fun (a : D) => lc_map (step := stepLc [4, 5, 6, 7] (gTp (gsCons (gNm 4) (gsCons (gNm 5) (gsCons (gNm 6) (gsCons (gNm 7) gsNil))))) t3__law_bound e4__law_bound) linkD (fun l => (if l.i = j ∧ l.j = i then some (0 - l.low) else none).map D.int) [w, .int i, .int j, a, .non, .non, .non, .non] ls fun l _ => by
    unfold t3__law_bound e4__law_bound
    by_cases h : l.i = j ∧ l.j = i
    · obtain ⟨h1, h2⟩ := h
      subst h1; subst h2
      simp [linkD, opD, okLen_of, d_eq2]
    · have : ((l.i : Int) == (j : Int) && (l.j : Int) == (i : Int)) = false := by
        rw [Bool.eq_false_iff]
        intro z
        simp only [Bool.and_eq_true, beq_iff_eq] at z
        exact h ⟨by omega, by omega⟩
      simp [linkD, opD, okLen_of, d_eq2, this, h]
  rw [fm_eq] at l1
  simp only [fm_eq] at l2
  have k1 : (ls.filterMap fun l => if l.i = i ∧ l.j = j then l.high else none).length ≤ 1000 := Nat.le_trans (List.length_filterMap_le _ _) hl
  have k2 : (ls.filterMap fun l => if l.i = j ∧ l.j = i then some (0 - l.low) else none).length ≤ 1000 := Nat.le_trans (List.length_filterMap_le _ _) hl
  unfold bnds
  generalize (ls.filterMap fun l => if l.i = i ∧ l.j = j then l.high else none) = A at l1 k1
  generalize (ls.filterMap fun l => if l.i = j ∧ l.j = i then some (0 - l.low) else none) = B at l2 k2
  have okl : okLen ls.length = true := okLen_of (by omega)
  have cat : dAdd (.lst (A.map D.int)) (.lst (B.map D.int)) = some (.lst ((A ++ B).map D.int)) := by
    rw [d_add_l, if_pos (okLen_of (by simp; omega))]; simp
  have mn : minD (.lst ((A ++ B).map D.int)) = (lmin (A ++ B)).map D.int := by
    show (getInts ((A ++ B).map D.int)).bind _ = _
    rw [getInts_of]; rfl
  generalize A ++ B = C at cat mn
  cases h : C with
  | nil =>
    subst h
    simp only [List.map_nil] at cat
    simp [-d_add_l, hw, l1, l2, okl, cat, lmin, opD]
  | cons x r =>
    obtain ⟨m, hm⟩ : ∃ m, lmin (x :: r) = some m := ⟨_, rfl⟩
    subst h
    rw [hm] at mn
    simp only [List.map_cons, Option.map_some] at cat mn
    simp [-d_add_l, hw, l1, l2, okl, cat, mn, hm, opD]
def wOf (ls : List Link) (i j : Nat) : Int := if i = j then 0 else (lmin (bnds ls i j)).getD 1000000000
def iniJ (n : Nat) (w : Nat → Nat → Int) (l : AL Int) (i : Nat) : AL Int := (List.range n).foldl (fun l j => put l (i, j) (w i j)) l
def ini (n : Nat) (w : Nat → Nat → Int) : AL Int := (List.range n).foldl (iniJ n w) []
theorem ini_ok (n : Nat) (w : Nat → Nat → Int) : ∀ a b, a < n → b < n → look (ini n w) (a, b) = some (w a b) := by
  unfold ini
  have := foldl_range0 (iniJ n w) (fun i s => ∀ a b, a < i → b < n → look s (a, b) = some (w a b)) n [] (fun a b h => by omega) fun i s hi H => by
    unfold iniJ
    have := foldl_range0 (fun l j => put l (i, j) (w i j)) (fun j s => ∀ a b, (a < i ∧ b < n) ∨ (a = i ∧ b < j) → look s (a, b) = some (w a b)) n s (fun a b h => H a b (by omega) (by omega)) fun j s hj H2 a b h => by
      rw [look_put]
      by_cases he : (a, b) = (i, j)
      · rw [if_pos he]
        simp only [Prod.mk.injEq] at he
        rw [he.1, he.2]
      · rw [if_neg he]
        refine H2 a b ?_
        simp only [Prod.mk.injEq] at he
        omega
    exact fun a b ha hb => this a b (by omega)
  exact fun a b ha hb => this a b ha hb
theorem len_fold {α β : Type} (f : AL α → β → AL α) (c : Nat) (h : ∀ s a, (f s a).length ≤ s.length + c) : ∀ (l : List β) (s : AL α), (l.foldl f s).length ≤ s.length + l.length * c
  | [], s => by simp
  | a :: l, s => by
    have h1 := len_fold f c h l (f s a)
    have h2 := h s a
    rw [List.foldl_cons, List.length_cons, Nat.succ_mul]
    omega
theorem iniJ_len (n : Nat) (w : Nat → Nat → Int) (l : AL Int) (i : Nat) : (iniJ n w l i).length ≤ l.length + n := by
  have := len_fold (fun l j => put l (i, j) (w i j)) 1 (fun s a => put_len _ _ _) (List.range n) l
  simpa [iniJ] using this
theorem ini_len (n : Nat) (w : Nat → Nat → Int) : (ini n w).length ≤ n * n := by
  have := len_fold (iniJ n w) n (iniJ_len n w) (List.range n) []
  simpa [ini] using this
theorem fw1_len (k i : Nat) (l : AL Int) (j : Nat) : (fw1 k i l j).length ≤ l.length + 1 := by
  unfold fw1
  split
  · exact put_len _ _ _
  · omega
theorem fwI_len (n k : Nat) (l : AL Int) (i : Nat) : (fwI n k l i).length ≤ l.length + n := by
  have := len_fold (fw1 k i) 1 (fw1_len k i) (List.range n) l
  simpa [fwI] using this
theorem fwK_len (n : Nat) (l : AL Int) (k : Nat) : (fwK n l k).length ≤ l.length + n * n := by
  have := len_fold (fwI n k) n (fwI_len n k) (List.range n) l
  simpa [fwK] using this
theorem fw1_dom {n k i : Nat} {l : AL Int} {j : Nat} (h : ∀ a b, a < n → b < n → (look l (a, b)).isSome = true) : ∀ a b, a < n → b < n → (look (fw1 k i l j) (a, b)).isSome = true := fun a b ha hb => by
  unfold fw1
  split
  · rw [look_put]
    split
    · rfl
    · exact h a b ha hb
  · exact h a b ha hb
theorem fwI_dom {n k i : Nat} (m : List Nat) {l : AL Int} (h : ∀ a b, a < n → b < n → (look l (a, b)).isSome = true) : ∀ a b, a < n → b < n → (look (m.foldl (fw1 k i) l) (a, b)).isSome = true := by
  induction m generalizing l with
  | nil => exact h
  | cons j m ih => exact ih (fw1_dom h)
theorem fwK_dom {n k : Nat} (m : List Nat) {l : AL Int} (h : ∀ a b, a < n → b < n → (look l (a, b)).isSome = true) : ∀ a b, a < n → b < n → (look (m.foldl (fwI n k) l) (a, b)).isSome = true := by
  induction m generalizing l with
  | nil => exact h
  | cons j m ih => exact ih (fwI_dom _ h)
theorem fw_dom {n : Nat} (m : List Nat) {l : AL Int} (h : ∀ a b, a < n → b < n → (look l (a, b)).isSome = true) : ∀ a b, a < n → b < n → (look (m.foldl (fwK n) l) (a, b)).isSome = true := by
  induction m generalizing l with
  | nil => exact h
  | cons j m ih => exact ih (fwK_dom _ h)
theorem ix_gt {l : AL Int} {a b : Nat} (h : (look l (a, b)).isSome = true) : dGet (alD D.int l) (.tup [.int a, .int b]) = some (.int (gt l a b)) := by
  obtain ⟨x, e⟩ := Option.isSome_iff_exists.mp h
  rw [ix_al D.int l a b x e]
  unfold gt
  rw [e]; rfl
end PL

namespace PL
open PySem PySem.Spec PyProof.Rows L2 TL
theorem pre_range {n : Nat} {pre post : List Nat} {a : Nat} (e : List.range n = pre ++ a :: post) : a < n ∧ pre.length < n := by
  have h1 : a ∈ List.range n := by rw [e]; simp
  have h2 := congrArg List.length e
  simp at h2
  exact ⟨List.mem_range.mp h1, by omega⟩
def nD (i : Nat) : D := .int (i : Int)
theorem ints_nD (n : Nat) : intsD 0 n = (List.range n).map nD := intsD0 n
section
variable {n : Nat} {ls : List Link} {w : D}
theorem fill_in (hw : seqD (.v w) = some (ls.map linkD)) (hl : ls.length ≤ 1000) (hn : n ≤ 100) (l : AL Int) (i : Nat) (hlen : l.length ≤ 100000) :
    loopF (stepB (gNm 5) q1__law_least) [5, 6] ((List.range n).map nD) [.int n, w, alD .int l, .int i, .non, .non, .non] = some (.nx [.int n, w, alD .int (iniJ n (wOf ls) l i), .int i, .non, .non, .non]) := by
  refine loop_pre (σ := AL Int) nD (fun l => [.int n, w, alD .int l, .int i, .non, .non, .non]) (fun l j => put l (i, j) (wOf ls i j)) l (List.range n) fun pre j post eq => ?_
  obtain ⟨hj, hp⟩ := pre_range eq
  have len := len_fold (fun l j => put l (i, j) (wOf ls i j)) 1 (fun s a => put_len _ _ _) pre l
  generalize pre.foldl (fun l j => put l (i, j) (wOf ls i j)) l = s at len
  have pt := put_al D.int s i j (wOf ls i j) (by omega)
  have bd := bound_ok ls w hw hl i j
  unfold q1__law_least
  unfold wOf at pt ⊢
  by_cases hij : i = j
  · subst hij
    simp only [if_true] at pt ⊢
    cases e : lmin (bnds ls i i) with
    | none => rw [e] at bd; simp [nD, okLen_of, bd, pt, opD]
    | some m => rw [e] at bd; simp [nD, okLen_of, bd, pt, opD]
  · rw [if_neg hij] at pt ⊢
    have hij' : ((i : Int) == (j : Int)) = false := by
      rw [Bool.eq_false_iff]
      intro z
      have := eq_of_beq z
      omega
    cases e : lmin (bnds ls i j) with
    | none => rw [e] at bd pt; simp only [Option.getD_none] at pt; simp [nD, okLen_of, bd, pt, opD, hij', pow9]
    | some m => rw [e] at bd pt; simp only [Option.getD_some] at pt; simp [nD, okLen_of, bd, pt, opD, hij']
theorem fill_ok (hw : seqD (.v w) = some (ls.map linkD)) (hl : ls.length ≤ 1000) (hn : n ≤ 100) :
    loopF (stepB (gNm 3) q2__law_least) [3, 5, 6] ((List.range n).map nD) [.int n, w, alD .int [], .non, .non, .non, .non] = some (.nx [.int n, w, alD .int (ini n (wOf ls)), .non, .non, .non, .non]) := by
  refine loop_pre (σ := AL Int) nD (fun l => [.int n, w, alD .int l, .non, .non, .non, .non]) (iniJ n (wOf ls)) [] (List.range n) fun pre i post eq => ?_
  obtain ⟨hi, hp⟩ := pre_range eq
  have len := len_fold (iniJ n (wOf ls)) n (iniJ_len n _) pre []
  generalize pre.foldl (iniJ n (wOf ls)) [] = s at len
  have hm : pre.length * n ≤ 100 * 100 := Nat.mul_le_mul (by omega) hn
  have f := fill_in (n := n) hw hl hn s i (by simp at len; omega)
  have s62 : small62 (n : Int) = true := s62_of (by omega) (by omega)
  unfold q2__law_least
  simp [nD, s62]
  rw [ints_nD, f]
  simp
theorem rnd1 (hn : n ≤ 100) (l : AL Int) (k i : Nat) (hk : k < n) (hi : i < n) (hlen : l.length ≤ 10000000) (dom : ∀ a b, a < n → b < n → (look l (a, b)).isSome = true) :
    loopF (stepB (gNm 5) q3__law_least) [5] ((List.range n).map nD) [.int n, w, alD .int l, .int i, .int k, .non, .non] = some (.nx [.int n, w, alD .int (fwI n k l i), .int i, .int k, .non, .non]) := by
  refine loop_pre (σ := AL Int) nD (fun l => [.int n, w, alD .int l, .int i, .int k, .non, .non]) (fw1 k i) l (List.range n) fun pre j post eq => ?_
  obtain ⟨hj, hp⟩ := pre_range eq
  have len := len_fold (fw1 k i) 1 (fw1_len k i) pre l
  have dm := fwI_dom (k := k) (i := i) pre dom
  generalize pre.foldl (fw1 k i) l = s at len dm
  have a1 := ix_gt (dm i k hi hk)
  have a2 := ix_gt (dm k j hk hj)
  have a3 := ix_gt (dm i j hi hj)
  have pt := put_al D.int s i j (min (gt s i j) (gt s i k + gt s k j)) (by omega)
  unfold q3__law_least fw1
  by_cases h1 : gt s i k < 100000000
  · by_cases h2 : gt s k j < 100000000
    · rw [if_pos ⟨h1, h2⟩]
      have mn : (if gt s i k + gt s k j < gt s i j then gt s i k + gt s k j else gt s i j) = min (gt s i j) (gt s i k + gt s k j) := by
        split <;> omega
      simp [nD, okLen_of, a1, a2, a3, pow8, h1, h2, mn, pt]
    · rw [if_neg fun z => h2 z.2]
      simp [nD, okLen_of, a1, a2, a3, pow8, h1, h2]
  · rw [if_neg fun z => h1 z.1]
    simp [nD, okLen_of, a1, a2, a3, pow8, h1]
theorem rnd2 (hn : n ≤ 100) (l : AL Int) (k : Nat) (hk : k < n) (hlen : l.length ≤ 5000000) (dom : ∀ a b, a < n → b < n → (look l (a, b)).isSome = true) :
    loopF (stepB (gNm 3) q4__law_least) [3, 5] ((List.range n).map nD) [.int n, w, alD .int l, .non, .int k, .non, .non] = some (.nx [.int n, w, alD .int (fwK n l k), .non, .int k, .non, .non]) := by
  refine loop_pre (σ := AL Int) nD (fun l => [.int n, w, alD .int l, .non, .int k, .non, .non]) (fwI n k) l (List.range n) fun pre i post eq => ?_
  obtain ⟨hi, hp⟩ := pre_range eq
  have len := len_fold (fwI n k) n (fwI_len n k) pre l
  have dm := fwK_dom (n := n) (k := k) pre dom
  generalize pre.foldl (fwI n k) l = s at len dm
  have hm : pre.length * n ≤ 100 * 100 := Nat.mul_le_mul (by omega) hn
  have f := rnd1 (w := w) hn s k i hk hi (by omega) dm
  have s62 : small62 (n : Int) = true := s62_of (by omega) (by omega)
  unfold q4__law_least
  simp [nD, s62]
  rw [ints_nD, f]
  simp
theorem rnd3 (hn : n ≤ 100) (l : AL Int) (hlen : l.length ≤ 20000) (dom : ∀ a b, a < n → b < n → (look l (a, b)).isSome = true) :
    loopF (stepB (gNm 4) q5__law_least) [3, 4, 5] ((List.range n).map nD) [.int n, w, alD .int l, .non, .non, .non, .non] = some (.nx [.int n, w, alD .int (fw n l), .non, .non, .non, .non]) := by
  refine loop_pre (σ := AL Int) nD (fun l => [.int n, w, alD .int l, .non, .non, .non, .non]) (fwK n) l (List.range n) fun pre k post eq => ?_
  obtain ⟨hk, hp⟩ := pre_range eq
  have len := len_fold (fwK n) (n * n) (fwK_len n) pre l
  have dm := fw_dom (n := n) pre dom
  generalize pre.foldl (fwK n) l = s at len dm
  have hnn : n * n ≤ 100 * 100 := Nat.mul_le_mul hn hn
  have hm : pre.length * (n * n) ≤ 100 * (100 * 100) := Nat.mul_le_mul (by omega) hnn
  have f := rnd2 (w := w) hn s k hk (by omega) dm
  have s62 : small62 (n : Int) = true := s62_of (by omega) (by omega)
  unfold q5__law_least
  simp [nD, s62]
  rw [ints_nD, f]
  simp
/-- the law's least bounds: None if a ring is short -/
def leastL (n : Nat) (ls : List Link) : AL Int := fw n (ini n (wOf ls))
def bad (n : Nat) (l : AL Int) : Bool := (List.range n).any fun a => decide (gt l a a < 0)
def least (n : Nat) (ls : List Link) : Option (AL Int) := if bad n (leastL n ls) then none else some (leastL n ls)
theorem least_ok (hw : seqD (.v w) = some (ls.map linkD)) (hl : ls.length ≤ 1000) (hn : n ≤ 100) : F__law_least [.int n, w] = some (opD (alD .int) (least n ls), [.int n, w]) := by
  unfold F__law_least b__law_least
  rw [v_run2]
  have s62 : small62 (n : Int) = true := s62_of (by omega) (by omega)
  have hnn : n * n ≤ 100 * 100 := Nat.mul_le_mul hn hn
  have dom : ∀ a b, a < n → b < n → (look (ini n (wOf ls)) (a, b)).isSome = true := fun a b ha hb => by rw [ini_ok n _ a b ha hb]; rfl
  have f1 := fill_ok (n := n) hw hl hn
  have f2 := rnd3 (w := w) hn (ini n (wOf ls)) (by have := ini_len n (wOf ls); omega) dom
  have dm2 := fw_dom (n := n) (List.range n) dom
  have e0 : D.dtt [] = alD D.int ([] : AL Int) := rfl
  rw [← ints_nD] at f1 f2
  have lc := lc_all (step := stepLc [3] (gNm 3) tYesF e6__law_least) nD (fun a => D.bl (decide (gt (leastL n ls) a a < 0))) [.int n, w, alD .int (leastL n ls), .non, .non, .non, .non] (List.range n) fun a ha => by
    have ha := List.mem_range.mp ha
    have := ix_gt (show (look (leastL n ls) (a, a)).isSome = true from dm2 a a ha ha)
    unfold e6__law_least
    simp [nD, tYesF, okLen_of, this]
  rw [← ints_nD] at lc
  have eL : fw n (ini n (wOf ls)) = leastL n ls := rfl
  rw [eL] at f2
  have okn : okLen (intsD 0 n).length = true := okLen_of (by rw [intsD_len]; omega)
  have an := any_m (fun a => decide (gt (leastL n ls) a a < 0)) (List.range n)
  unfold least bad
  cases hb : (List.range n).any (fun a => decide (gt (leastL n ls) a a < 0)) with
  | true =>
    rw [hb] at an
    simp [e0, s62, f1, f2, okn, lc, an, opD, okLen_of (n := n) (by omega)]
  | false =>
    rw [hb] at an
    simp [e0, s62, f1, f2, okn, lc, an, opD, okLen_of (n := n) (by omega)]
theorem reach_ok {l : AL Int} {i j : Nat} (h1 : (look l (j, i)).isSome = true) (h2 : (look l (i, j)).isSome = true) :
    F__law_reach [alD .int l, .int i, .int j] = some (.tup [if 100000000 < gt l j i then .non else .int (0 - gt l j i), if 100000000 < gt l i j then .non else .int (gt l i j)], [alD .int l, .int i, .int j]) := by
  unfold F__law_reach b__law_reach
  rw [v_run3]
  have a1 := ix_gt h1
  have a2 := ix_gt h2
  by_cases c1 : 100000000 < gt l j i <;> by_cases c2 : 100000000 < gt l i j <;> simp [okLen_of, a1, a2, pow8, c1, c2]
end
/-! the law's bounds and the program's -/
def SOk (n : Nat) (U : Int) (ls : List Link) : Prop := ∀ l ∈ ls, l.i < n ∧ l.j < n ∧ l.i ≠ l.j ∧ (-U ≤ l.low ∧ l.low ≤ U) ∧ ∀ h, l.high = some h → -U ≤ h ∧ h ≤ U
theorem SOk.steps {n : Nat} {U : Int} {ls : List Link} (h : SOk n U ls) : ∀ s ∈ stepsOf ls, s.i < n ∧ s.j < n ∧ s.i ≠ s.j ∧ s.m ≤ U := fun s hs => by
  obtain ⟨l, h1, h2⟩ := mem_stepsOf.mp hs
  obtain ⟨k1, k2, k3, k4, k5⟩ := h l h1
  rcases h2 with rfl | ⟨x, e, rfl⟩
  · exact ⟨k2, k1, fun z => k3 z.symm, by simp only; omega⟩
  · exact ⟨k1, k2, k3, (k5 x e).2⟩
theorem least_fw {n : Nat} {U : Int} {ls : List Link} (hn : n ≤ 6) (hU : 0 ≤ U ∧ U ≤ 1000000) (h : SOk n U ls) :
    (least n ls = none ↔ Neg (stepsOf ls)) ∧ (¬ Neg (stepsOf ls) → ∀ a b, a < n → b < n → ∀ x, Lb (leastL n ls) a b x ↔ Dle (stepsOf ls) a b x) ∧ (∀ a b, a < n → b < n → gt (leastL n ls) a b = 1000000000 ∨ gt (leastL n ls) a b < 100000000) ∧ (∀ a b, a < n → b < n → (look (leastL n ls) (a, b)).isSome = true) := by
  have hs := h.steps
  have gi : ∀ a b, a < n → b < n → gt (ini n (wOf ls)) a b = wOf ls a b := fun a b ha hb => by
    unfold gt
    rw [ini_ok n _ a b ha hb]; rfl
  have hG : G n (stepsOf ls) U (ini n (wOf ls)) := by
    refine ⟨fun a b ha hb => by rw [ini_ok n _ a b ha hb]; rfl, fun a b ha hb => ?_, fun a b ha hb hx => ?_⟩
    · rw [gi a b ha hb]
      unfold wOf
      split
      · exact .inr hU.1
      · cases e : lmin (bnds ls a b) with
        | none => exact .inl rfl
        | some m => exact .inr (hs _ (mem_bnds.mp (lmin_some e).1)).2.2.2
    · rw [gi a b ha hb] at hx ⊢
      unfold wOf at hx ⊢
      split
      · rename_i e; subst e; exact .nil a
      · rename_i e
        rw [if_neg e] at hx
        cases e2 : lmin (bnds ls a b) with
        | none => rw [e2] at hx; simp at hx
        | some m => exact Walk.one (mem_bnds.mp (lmin_some e2).1)
  obtain ⟨q1, q2, q3, q4, q5⟩ := fw_ok (n := n) (S := stepsOf ls) (U := U) (l0 := ini n (wOf ls)) hn hU.1 hU.2 hG (fun a ha => by rw [gi a a ha ha]; simp [wOf]) (fun s hs' => ⟨(hs s hs').1, (hs s hs').2.1⟩) fun s hs' => by
    obtain ⟨k1, k2, k3, k4⟩ := hs s hs'
    rw [gi s.i s.j k1 k2]
    unfold wOf
    rw [if_neg k3]
    have hm : s.m ∈ bnds ls s.i s.j := mem_bnds.mpr hs'
    cases e : lmin (bnds ls s.i s.j) with
    | none => rw [lmin_none.mp e] at hm; cases hm
    | some m =>
      have := (lmin_some e).2 _ hm
      simp only [Option.getD_some]
      exact ⟨this, by omega⟩
  refine ⟨?_, q2, q3, q4⟩
  rw [← q1]
  unfold least bad
  constructor
  · intro z
    by_cases hb : ((List.range n).any fun a => decide (gt (leastL n ls) a a < 0)) = true
    · obtain ⟨a, h1, h2⟩ := List.any_eq_true.mp hb
      exact ⟨a, List.mem_range.mp h1, of_decide_eq_true h2⟩
    · rw [if_neg hb] at z; cases z
  · rintro ⟨a, h1, h2⟩
    rw [if_pos (List.any_eq_true.mpr ⟨a, List.mem_range.mpr h1, decide_eq_true h2⟩)]
/-- the least bound from an event to another one, by all walks -/
theorem dist_eq {n : Nat} {U : Int} {ls : List Link} {b : Bs} {k : Nat} {S : List Stp} (hn : n ≤ 6) (hU : 0 ≤ U ∧ U ≤ 1000000) (h : SOk n U ls) (hS : ∀ s, s ∈ S ↔ s ∈ stepsOf ls) (I : BInv n S b k) (hN : ¬ Neg S) {i j : Nat} (hi : i < n) (hj : j < n) :
    (if 100000000 < gt (leastL n ls) i j then none else some (gt (leastL n ls) i j)) = b.lk i j := by
  obtain ⟨_, q2, q3, _⟩ := least_fw hn hU h
  have hN' : ¬ Neg (stepsOf ls) := fun z => hN ((Neg.congr hS).mpr z)
  have := le_eq (L := fun i j => if 100000000 < gt (leastL n ls) i j then none else some (gt (leastL n ls) i j)) (M := b.lk) (a := i) (b := j) fun x => by
    rw [(I.ok ((ring_iff I).mpr hN)).2 i j hi hj x, Dle.congr hS, ← q2 hN' i j hi hj x]
    unfold Le Lb
    rcases q3 i j hi hj with e | e
    · simp only [e]
      constructor
      · rintro ⟨z, h1, _⟩; rw [if_pos (by omega)] at h1; cases h1
      · rintro ⟨h1, _⟩; omega
    · simp only [show ¬ 100000000 < gt (leastL n ls) i j by omega, if_false]
      constructor
      · rintro ⟨z, h1, h2⟩; cases h1; exact ⟨e, h2⟩
      · rintro ⟨_, h2⟩; exact ⟨_, rfl, h2⟩
  exact this
end PL

/-! ways tell their weights -/
namespace PL
inductive Pth (S : List Stp) : Nat → Nat → List Nat → Int → Prop
  | one (a : Nat) : Pth S a a [a] 0
  | cons {s : Stp} {c : Nat} {w : List Nat} {x : Int} : s ∈ S → Pth S s.j c w x → Pth S s.i c (s.i :: w) (s.m + x)
theorem Pth.mono {S T : List Stp} (h : ∀ s ∈ S, s ∈ T) {a b : Nat} {w : List Nat} {x : Int} (k : Pth S a b w x) : Pth T a b w x := by
  induction k with
  | one a => exact .one a
  | cons hs _ ih => exact .cons (h _ hs) ih
theorem Pth.walk {S : List Stp} {a b : Nat} {w : List Nat} {x : Int} (k : Pth S a b w x) : Walk S a b x := by
  induction k with
  | one a => exact .nil a
  | cons hs _ ih => exact .cons hs ih
theorem Pth.join {S : List Stp} {a i j c : Nat} {m : Int} {w1 w2 : List Nat} {x y : Int} (h : Pth S a i w1 x) (e : ⟨i, j, m⟩ ∈ S) (k : Pth S j c w2 y) : Pth S a c (w1 ++ w2) (x + m + y) := by
  induction h with
  | one a =>
    have := Pth.cons e k
    simpa using this
  | cons hs _ ih =>
    have := Pth.cons hs (ih e)
    rw [List.cons_append, Int.add_assoc, Int.add_assoc, ← Int.add_assoc _ m y]
    exact this
theorem Pth.bound {S : List Stp} {U : Int} (hU : ∀ s ∈ S, -U ≤ s.m ∧ s.m ≤ U) {a b : Nat} {w : List Nat} {x : Int} (k : Pth S a b w x) : 1 ≤ w.length ∧ -(((w.length : Int) - 1) * U) ≤ x ∧ x ≤ ((w.length : Int) - 1) * U := by
  induction k with
  | one a => simp
  | @cons s c w x hs _ ih =>
    obtain ⟨h1, h2, h3⟩ := ih
    have h4 := hU s hs
    have e : (((s.i :: w).length : Nat) : Int) - 1 = ((w.length : Int) - 1) + 1 := by rw [List.length_cons]; omega
    rw [e, Int.add_mul, Int.one_mul]
    exact ⟨by simp, by omega, by omega⟩
structure QInv (n : Nat) (S : List Stp) (b : Bs) : Prop where
  way : b.ring = none → ∀ a c w z, look b.W (a, c) = some w → look b.L (a, c) = some z → Pth S a c w z
  ring : ∀ r, b.ring = some r → ∃ i x, x < 0 ∧ Pth S i i r x
theorem qinv_add {n : Nat} {S : List Stp} {b : Bs} {k i j : Nat} {m : Int} (I : BInv n S b k) (Q : QInv n S b) (hi : i < n) (hj : j < n) : QInv n (S ++ [⟨i, j, m⟩]) (add b i j m) := by
  have up : ∀ s ∈ S, s ∈ S ++ [⟨i, j, m⟩] := fun s h => List.mem_append_left _ h
  have ein : (⟨i, j, m⟩ : Stp) ∈ S ++ [⟨i, j, m⟩] := by simp
  unfold add
  cases hb : b.ring with
  | some r =>
    rw [if_pos (by simp)]
    refine ⟨fun h => (by rw [hb] at h; cases h), fun r' h => ?_⟩
    obtain ⟨i, x, h1, h2⟩ := Q.ring r' h
    exact ⟨i, x, h1, h2.mono up⟩
  | none =>
    rw [if_neg (by simp)]
    have way := Q.way hb
    by_cases hs : isShort b i j m = true
    · rw [if_pos hs]
      refine ⟨fun h => (by cases h), fun r h => ?_⟩
      unfold isShort at hs
      cases e : look b.L (j, i) with
      | none => rw [e] at hs; cases hs
      | some y =>
        rw [e] at hs
        have hy : y + m < 0 := by simpa using hs
        obtain ⟨w, ew⟩ := Option.isSome_iff_exists.mp ((I.dom (j, i)).trans (by rw [e]; rfl))
        have hr : (some (i :: (look b.W (j, i)).getD []) : Option (List Nat)) = some r := h
        rw [ew] at hr
        cases hr
        exact ⟨i, m + y, by omega, Pth.cons ein ((way j i w y ew e).mono up)⟩
    · rw [if_neg hs]
      have hs' : isShort b i j m = false := by simpa using hs
      refine ⟨fun _ a c w z hw hz => ?_, fun r h => ?_⟩
      · rcases relax_rel I.dom hs' a c with ⟨g1, g2⟩ | ⟨f, l, w1, w2, g1, g2, g3, g4, g5, g6, g7, g8⟩
        · rw [g1] at hz; rw [g2] at hw
          exact (way a c w z hw hz).mono up
        · rw [g5] at hz; rw [g6] at hw
          cases hz; cases hw
          exact ((way a i w1 f g3 g1).mono up).join ein ((way j c w2 l g4 g2).mono up)
      · have := (relax_same b i j m).ring
        rw [this, hb] at h; cases h
theorem qinv_new (n : Nat) : QInv n [] (new n) := by
  refine ⟨fun _ a c w z hw hz => ?_, fun r h => by cases h⟩
  have hw : look (diag (fun e => [e]) n) (a, c) = some w := hw
  have hz : look (diag (fun _ => 0) n) (a, c) = some z := hz
  rw [look_diag] at hw hz
  by_cases h : a = c ∧ a < n
  · rw [if_pos h] at hw hz; cases hw; cases hz
    rw [h.1]; exact .one c
  · rw [if_neg h] at hw; cases hw
structure BQ (n : Nat) (S : List Stp) (b : Bs) (k : Nat) : Prop where
  p : BP n S b k
  q : QInv n S b
theorem BQ.add {n : Nat} {S : List Stp} {b : Bs} {k i j : Nat} {m : Int} (B : BQ n S b k) (hi : i < n) (hj : j < n) : BQ n (S ++ [⟨i, j, m⟩]) (PL.add b i j m) (k + n * n) := ⟨B.p.add hi hj, qinv_add B.p.I B.q hi hj⟩
theorem BQ.steps {n : Nat} : ∀ (T : List Stp) {S : List Stp} {b : Bs} {k : Nat}, BQ n S b k → (∀ s ∈ T, s.i < n ∧ s.j < n) → BQ n (S ++ T) (T.foldl addS b) (k + T.length * (n * n))
  | [], S, b, k, I, _ => by simpa using I
  | s :: T, S, b, k, I, h => by
    have h1 := h s (by simp)
    have := BQ.steps T (I.add (m := s.m) h1.1 h1.2) fun s hs => h s (by simp [hs])
    rw [List.foldl_cons]
    have e : S ++ s :: T = S ++ [⟨s.i, s.j, s.m⟩] ++ T := by simp
    rw [e, List.length_cons, Nat.succ_mul, Nat.add_comm (T.length * (n * n)), ← Nat.add_assoc]
    exact this
theorem BQ.of (n : Nat) (T : List Stp) (h : ∀ s ∈ T, s.i < n ∧ s.j < n) : BQ n T (ofSteps n T) (n + T.length * (n * n)) := by
  have := BQ.steps (n := n) T (⟨BP.new n, qinv_new n⟩ : BQ n [] (new n) n) h
  simpa [ofSteps] using this
/-- least bounds are not large -/
theorem BQ.small {n : Nat} {S : List Stp} {b : Bs} {k : Nat} (B : BQ n S b k) (hr : b.ring = none) {U : Int} (hU0 : 0 ≤ U) (hU : ∀ s ∈ S, -U ≤ s.m ∧ s.m ≤ U) (hn : n ≤ 6) {a c : Nat} (ha : a < n) (hc : c < n) {z : Int} (hz : b.lk a c = some z) : -(5 * U) ≤ z ∧ z ≤ 5 * U := by
  have hz : look b.L (a, c) = some z := hz
  obtain ⟨w, ew⟩ := Option.isSome_iff_exists.mp ((B.p.I.dom (a, c)).trans (by rw [hz]; rfl))
  obtain ⟨h1, h2, h3⟩ := (B.q.way hr a c w z ew hz).bound hU
  have hl := B.p.wlen hr ha hc ew
  have : ((w.length : Int) - 1) * U ≤ 5 * U := Int.mul_le_mul_of_nonneg_right (by omega) hU0
  omega
end PL

/-! told times -/
namespace PL
open PySem PySem.Spec PyProof.Rows L2 TL
def timeOf (back ahead : Option Int) : Int := match back with
  | some y => -y
  | none => ahead.getD 0
def tB (s : Bs × List Int) (e : Nat) : Bs × List Int := (add (add s.1 0 e (timeOf (s.1.lk e 0) (s.1.lk 0 e))) e 0 (-(timeOf (s.1.lk e 0) (s.1.lk 0 e))), s.2 ++ [timeOf (s.1.lk e 0) (s.1.lk 0 e)])
def dist (n : Nat) (ls : List Link) (i j : Nat) : Option Int := if 100000000 < gt (leastL n ls) i j then none else some (gt (leastL n ls) i j)
def tL (n : Nat) (s : List Link × List Int) (e : Nat) : List Link × List Int := (s.1 ++ [⟨0, e, timeOf (dist n s.1 e 0) (dist n s.1 0 e), some (timeOf (dist n s.1 e 0) (dist n s.1 0 e))⟩], s.2 ++ [timeOf (dist n s.1 e 0) (dist n s.1 0 e)])
structure TT (n : Nat) (U : Int) (b : Bs) (ls : List Link) (k : Nat) : Prop where
  ex : ∃ S, BQ n S b k ∧ ∀ s, s ∈ S ↔ s ∈ stepsOf ls
  ring : b.ring = none
  ok : SOk n U ls
theorem sok_m {n : Nat} {U : Int} {ls : List Link} (h : SOk n U ls) : ∀ s ∈ stepsOf ls, -U ≤ s.m ∧ s.m ≤ U := fun s hs => by
  obtain ⟨l, h1, h2⟩ := mem_stepsOf.mp hs
  obtain ⟨_, _, _, k4, k5⟩ := h l h1
  rcases h2 with rfl | ⟨x, e, rfl⟩
  · simp only; omega
  · exact k5 x e
theorem TT.neg {n : Nat} {U : Int} {b : Bs} {ls : List Link} {k : Nat} (T : TT n U b ls k) : ¬ Neg (stepsOf ls) := by
  obtain ⟨S, B, hS⟩ := T.ex
  exact fun z => (B.p.I.ok T.ring).1 ((Neg.congr hS).mpr z)
theorem TT.dist {n : Nat} {U : Int} {b : Bs} {ls : List Link} {k : Nat} (T : TT n U b ls k) (hn : n ≤ 6) (hU : 0 ≤ U ∧ U ≤ 1000000) {i j : Nat} (hi : i < n) (hj : j < n) : PL.dist n ls i j = b.lk i j := by
  obtain ⟨S, B, hS⟩ := T.ex
  exact dist_eq hn hU T.ok hS B.p.I (B.p.I.ok T.ring).1 hi hj
theorem TT.step {n : Nat} {U : Int} {b : Bs} {ls : List Link} {k : Nat} {ts : List Int} (T : TT n U b ls k) (hn : n ≤ 6) (hU : 0 ≤ U ∧ U ≤ 1000000) {e : Nat} (he : e < n) (he1 : 1 ≤ e) :
    TT n (5 * U) (tB (b, ts) e).1 (tL n (ls, ts) e).1 (k + 2 * (n * n)) ∧ (tB (b, ts) e).2 = (tL n (ls, ts) e).2 ∧ -(5 * U) ≤ timeOf (b.lk e 0) (b.lk 0 e) ∧ timeOf (b.lk e 0) (b.lk 0 e) ≤ 5 * U := by
  obtain ⟨S, B, hS⟩ := T.ex
  have h0 : 0 < n := by omega
  obtain ⟨ng, le⟩ := B.p.I.ok T.ring
  have hm : ∀ s ∈ S, -U ≤ s.m ∧ s.m ≤ U := fun s hs => sok_m T.ok s ((hS s).mp hs)
  have d1 := T.dist hn hU he h0
  have d2 := T.dist hn hU h0 he
  have low : ∀ y, b.lk e 0 = some y → -(5 * U) ≤ y ∧ y ≤ 5 * U := fun y hy => B.small T.ring hU.1 hm hn he h0 hy
  have high : ∀ y, b.lk 0 e = some y → -(5 * U) ≤ y ∧ y ≤ 5 * U := fun y hy => B.small T.ring hU.1 hm hn h0 he hy
  generalize ht : timeOf (b.lk e 0) (b.lk 0 e) = t
  have tb : -(5 * U) ≤ t ∧ t ≤ 5 * U := by
    unfold timeOf at ht
    cases h1 : b.lk e 0 with
    | some y => rw [h1] at ht; have := low y h1; simp only at ht; omega
    | none =>
      rw [h1] at ht
      cases h2 : b.lk 0 e with
      | some y => rw [h2] at ht; have := high y h2; simp only [Option.getD_some] at ht; omega
      | none => rw [h2] at ht; simp only [Option.getD_none] at ht; have := hU.1; omega
  have pos : ∀ {a : Nat} {x : Int}, Dle S a a x → 0 ≤ x := fun {a x} h => by
    apply Classical.byContradiction
    intro z
    exact ng (neg_of h (by omega))
  have n1 : ¬ Neg (S ++ [⟨0, e, t⟩]) := neg_snoc (e := ⟨0, e, t⟩) ng fun y hy => by
    obtain ⟨y0, h1, h2⟩ := (le e 0 he h0 y).mpr hy
    unfold timeOf at ht
    rw [h1] at ht
    simp only at ht ⊢
    omega
  have n2 : ¬ Neg (S ++ [⟨0, e, t⟩] ++ [⟨e, 0, -t⟩]) := neg_snoc (e := ⟨e, 0, -t⟩) n1 fun y hy => by
    have hy : Dle (S ++ [⟨0, e, t⟩]) 0 e y := hy
    have hb0 : ∀ y, Dle S e 0 y → 0 ≤ y + t := fun y hy => by
      obtain ⟨y0, h1, h2⟩ := (le e 0 he h0 y).mpr hy
      unfold timeOf at ht
      rw [h1] at ht
      simp only at ht
      omega
    rcases (dle_snoc (e := ⟨0, e, t⟩) ng hb0 0 e y).mp hy with h | ⟨f, l, h1, h2, h3⟩
    · simp only
      cases h1 : b.lk e 0 with
      | some y0 =>
        have : Dle S e 0 y0 := (le e 0 he h0 y0).mp ⟨y0, h1, Int.le_refl _⟩
        have := pos (h.add this)
        unfold timeOf at ht
        rw [h1] at ht
        simp only at ht
        omega
      | none =>
        obtain ⟨z0, g1, g2⟩ := (le 0 e h0 he y).mpr h
        unfold timeOf at ht
        rw [h1, g1] at ht
        simp only [Option.getD_some] at ht
        omega
    · have h1 : Dle S 0 0 f := h1
      have h2 : Dle S e e l := h2
      have := pos h1
      have := pos h2
      simp only at h3 ⊢
      omega
  have B2 := (B.add (m := t) h0 he).add (m := -t) he h0
  have e1 : (tB (b, ts) e).1 = add (add b 0 e t) e 0 (-t) := by unfold tB; simp only [ht]
  have e2 : (tL n (ls, ts) e).1 = ls ++ [⟨0, e, t, some t⟩] := by unfold tL; simp only [d1, d2, ht]
  refine ⟨⟨⟨S ++ [⟨0, e, t⟩] ++ [⟨e, 0, -t⟩], ?_, fun s => ?_⟩, ?_, ?_⟩, ?_, tb.1, tb.2⟩
  · rw [e1]
    have : k + 2 * (n * n) = k + n * n + n * n := by omega
    rw [this]; exact B2
  · rw [e2]
    unfold stepsOf
    rw [List.flatMap_append]
    have hS' := hS s
    unfold stepsOf at hS'
    simp only [List.mem_append, ← hS', List.mem_singleton, List.flatMap_cons, List.flatMap_nil, List.append_nil, stepsOf1, List.mem_cons, List.not_mem_nil, or_false]
    constructor
    · rintro ((h | h) | h)
      · exact .inl h
      · exact .inr (.inr h)
      · exact .inr (.inl h)
    · rintro (h | h | h)
      · exact .inl (.inl h)
      · exact .inr h
      · exact .inl (.inr h)
  · rw [e1]; exact (ring_iff B2.p.I).mpr n2
  · rw [e2]
    intro l hl
    rcases List.mem_append.mp hl with hl | hl
    · obtain ⟨k1, k2, k3, k4, k5⟩ := T.ok l hl
      have := hU.1
      exact ⟨k1, k2, k3, by omega, fun h hh => by have := k5 h hh; omega⟩
    · have : l = ⟨0, e, t, some t⟩ := by simpa using hl
      subst this
      exact ⟨h0, he, by simp only; omega, tb, fun h hh => by cases hh; exact tb⟩
  · unfold tB tL; simp only [d1, d2]
theorem TT.many {n : Nat} (hn : n ≤ 6) : ∀ (l : List Nat) {U : Int} {b : Bs} {ls : List Link} {k : Nat} {ts : List Int}, TT n U b ls k → 0 ≤ U → 5 ^ l.length * U ≤ 1000000 → (∀ e ∈ l, 1 ≤ e ∧ e < n) →
    TT n (5 ^ l.length * U) (l.foldl tB (b, ts)).1 (l.foldl (tL n) (ls, ts)).1 (k + l.length * (2 * (n * n))) ∧ (l.foldl tB (b, ts)).2 = (l.foldl (tL n) (ls, ts)).2 ∧ (l.foldl tB (b, ts)).2.length = ts.length + l.length
  | [], U, b, ls, k, ts, T, _, _, _ => by simpa using T
  | e :: l, U, b, ls, k, ts, T, h0, h, hl => by
    have he := hl e (by simp)
    have ep : (5 : Int) ^ (e :: l).length * U = 5 ^ l.length * (5 * U) := by
      rw [List.length_cons, Int.pow_succ, Int.mul_assoc]
    rw [ep] at h ⊢
    have one : (1 : Int) ≤ 5 ^ l.length := by
      have : (0 : Int) < 5 ^ l.length := Int.pow_pos (by omega)
      omega
    have hU : U ≤ 1000000 := by
      have : 1 * (5 * U) ≤ 5 ^ l.length * (5 * U) := Int.mul_le_mul_of_nonneg_right one (by omega)
      omega
    obtain ⟨T2, h2, _⟩ := T.step (ts := ts) hn ⟨h0, hU⟩ he.2 he.1
    rw [List.foldl_cons, List.foldl_cons]
    have hp : tL n (ls, ts) e = ((tL n (ls, ts) e).1, (tB (b, ts) e).2) := by rw [h2]
    have hq : tB (b, ts) e = ((tB (b, ts) e).1, (tB (b, ts) e).2) := rfl
    rw [hp, hq]
    have := TT.many hn l (ts := (tB (b, ts) e).2) T2 (by omega) h fun e he => hl e (by simp [he])
    have hk : k + (e :: l).length * (2 * (n * n)) = k + 2 * (n * n) + l.length * (2 * (n * n)) := by rw [List.length_cons, Nat.succ_mul]; omega
    rw [hk]
    refine ⟨this.1, this.2.1, ?_⟩
    rw [this.2.2]
    have : (tB (b, ts) e).2.length = ts.length + 1 := by simp [tB]
    rw [this, List.length_cons]; omega
def events (n : Nat) : List Nat := List.range' 1 (n - 1)
def timesB (n : Nat) (b : Bs) : List Int := ((events n).foldl tB (b, [0])).2
def timesL (n : Nat) (ls : List Link) : List Int := ((events n).foldl (tL n) (ls, [0])).2
theorem mem_events {n e : Nat} (h : e ∈ events n) : 1 ≤ e ∧ e < n := by
  unfold events at h
  have := List.mem_range'_1.mp h
  omega
theorem ints1 (n : Nat) : intsD 1 n = (List.range' 1 n).map nD := by
  unfold intsD
  rw [List.range'_eq_map_range, List.map_map]
  apply List.map_congr_left
  intro a _
  simp [nD]
theorem times_ok {n : Nat} {U : Int} {b : Bs} {ls : List Link} {k : Nat} (T : TT n U b ls k) (hn : n ≤ 6) (hU : 0 ≤ U ∧ U ≤ 320) (hk : k ≤ 100000) : F_times_by [bsD b] = some (.tup ((timesB n b).map D.int), [bsD ((events n).foldl tB (b, [0])).1]) := by
  unfold F_times_by b_times_by
  rw [v_run1]
  have hbn : b.n = n := by obtain ⟨S, B, _⟩ := T.ex; exact B.p.I.nn
  have s1 : small62 (1 : Int) = true := s62_of (by omega) (by omega)
  have s2 : small62 (n : Int) = true := s62_of (by omega) (by omega)
  have lp := loop_pre (b := stepB (gNm 2) q1_times_by) (ks := [2, 3, 4, 5]) nD (fun s : Bs × List Int => [bsD s.1, .lst (s.2.map D.int), .non, .non, .non, .non]) tB (b, [0]) (events n) fun pre e post eq => by
    have mem : ∀ x ∈ pre ++ [e], 1 ≤ x ∧ x < n := fun x hx => mem_events (by rw [eq]; simp at hx ⊢; rcases hx with h | h <;> simp [h])
    have lenp : pre.length ≤ 5 := by
      have := congrArg List.length eq
      simp [events] at this
      omega
    have pw : (5 : Int) ^ pre.length * U ≤ 1000000 := by
      have : (5 : Int) ^ pre.length ≤ 3125 := by
        match pre.length, lenp with
        | 0, _ | 1, _ | 2, _ | 3, _ | 4, _ | 5, _ => decide
      have := Int.mul_le_mul this hU.2 hU.1 (by omega)
      omega
    obtain ⟨T2, h2, h3⟩ := TT.many (ts := [0]) hn pre T hU.1 pw fun x hx => mem x (by simp [hx])
    generalize hs : pre.foldl tB (b, [0]) = s at T2 h2 h3
    obtain ⟨s1', s2'⟩ := s
    simp only at T2 h3
    have he := mem e (by simp)
    obtain ⟨S, B, hS⟩ := T2.ex
    have hnn : n * n ≤ 6 * 6 := Nat.mul_le_mul hn hn
    have hmul : pre.length * (2 * (n * n)) ≤ 5 * (2 * 36) := Nat.mul_le_mul lenp (by omega)
    have h0 : 0 < n := by omega
    generalize ht : timeOf (s1'.lk e 0) (s1'.lk 0 e) = t
    have a1 := add_ok (b := s1') (i := 0) (j := e) (n := n) (m := t) B.p.I.nn h0 he.2 B.p.I.dom (by have := B.p.I.lenL; omega) (by have := B.p.I.lenW; omega) (by omega) fun hr a c w ha hc hw => B.p.wlen hr ha hc hw
    have B1 := B.add (m := t) h0 he.2
    have a2 := add_ok (b := add s1' 0 e t) (i := e) (j := 0) (n := n) (m := -t) B1.p.I.nn he.2 h0 B1.p.I.dom (by have := B1.p.I.lenL; omega) (by have := B1.p.I.lenW; omega) (by omega) fun hr a c w ha hc hw => B1.p.wlen hr ha hc hw
    have g1 := get_ok s1' e 0
    have g2 := get_ok s1' 0 e
    have z0 : ((0 : Nat) : Int) = 0 := rfl
    rw [z0] at g1 g2 a1 a2
    have len2 : okLen (s2'.length + 1) = true := okLen_of (by rw [h3]; simp; omega)
    unfold q1_times_by tB
    simp only [ht]
    unfold timeOf at ht
    cases h1 : s1'.lk e 0 with
    | some y =>
      rw [h1] at ht g1
      simp only at ht
      simp only [opD] at g1
      subst ht
      have h9 : -(-y) = y := by omega
      rw [h9] at a2 ⊢
      simp [nD, g1, g2, a1, v_appOf, len2, opD]
      have hneg : dNeg (.int (-y)) = some (.int y) := by rw [d_neg, h9]
      simp [a2, v_appOf, len2]
    | none =>
      rw [h1] at ht g1
      simp only [opD] at g1
      cases h4 : s1'.lk 0 e with
      | some z =>
        rw [h4] at ht g2
        simp only [Option.getD_some] at ht
        simp only [opD] at g2
        subst ht
        simp [nD, g1, g2, a1, v_appOf, len2, opD, a2]
      | none =>
        rw [h4] at ht g2
        simp only [Option.getD_none] at ht
        simp only [opD] at g2
        subst ht
        simp [nD, g1, g2, a1, v_appOf, len2, opD]
        have hz : (-(0 : Int)) = 0 := rfl
        rw [hz] at a2
        simp [a2, v_appOf, len2]
  have hm : (n - 1 : Int).toNat = n - 1 := by omega
  have e1 : ((n : Int) - 1).toNat = n - 1 := by omega
  have lst0 : D.lst [D.int 0] = .lst (([0] : List Int).map D.int) := rfl
  simp only [List.map_cons, List.map_nil] at lp
  simp [okLen_of, hbn, s1, s2, e1]
  rw [ints1]
  unfold events at lp
  rw [lp]
  simp [timesB, events]
end PL

/-! the law's told times; plans drawn -/
namespace PL
open PySem PySem.Spec PyProof.Rows L2 TL
theorem imms_ints (l : AL Int) : imms (((l.map fun p => (kD p.1, D.int p.2))).map (·.2)) = true := by
  induction l with
  | nil => rfl
  | cons p l ih => simpa [imms, imm] using ih
theorem immR_al (l : AL Int) : immR (.oT .sh) (alD D.int l) = true := imms_ints l
theorem pow5 {k : Nat} (hk : k ≤ 5) : (5 : Int) ^ k ≤ 3125 := by
  match k, hk with
  | 0, _ | 1, _ | 2, _ | 3, _ | 4, _ | 5, _ => decide
theorem pw5 {k : Nat} {U : Int} (hk : k ≤ 5) (hU : 0 ≤ U ∧ U ≤ 320) : (5 : Int) ^ k * U ≤ 1000000 := by
  have := Int.mul_le_mul (pow5 hk) hU.2 hU.1 (by omega)
  omega
theorem tL_len (n : Nat) : ∀ (l : List Nat) (s : List Link × List Int), (l.foldl (tL n) s).1.length = s.1.length + l.length
  | [], s => by simp
  | e :: l, s => by
    rw [List.foldl_cons, tL_len n l]
    simp [tL]; omega
theorem ltimes_ok {n : Nat} {U : Int} {b : Bs} {ls : List Link} {k : Nat} {w : D} (T : TT n U b ls k) (hn : n ≤ 6) (hU : 0 ≤ U ∧ U ≤ 320) (hw : listD w = some (ls.map linkD)) (hl : ls.length ≤ 500) :
    F__law_times [.int n, w] = some (.tup ((timesB n b).map D.int), [.int n, w]) := by
  unfold F__law_times b__law_times
  rw [v_run2]
  have s1 : small62 (1 : Int) = true := s62_of (by omega) (by omega)
  have s2 : small62 (n : Int) = true := s62_of (by omega) (by omega)
  have lp := loop_pre (b := stepB (gNm 2) q1__law_times) (ks := [2, 5, 6, 7]) nD (fun s : List Link × List Int => [.int n, w, .non, .lst (s.1.map linkD), .lst (s.2.map D.int), .non, .non, .non]) (tL n) (ls, [0]) (events n) fun pre e post eq => by
    have mem : ∀ x ∈ pre ++ [e], 1 ≤ x ∧ x < n := fun x hx => mem_events (by rw [eq]; simp at hx ⊢; rcases hx with h | h <;> simp [h])
    have lenp : pre.length ≤ 5 := by
      have := congrArg List.length eq
      simp [events] at this
      omega
    obtain ⟨T2, h2, h3⟩ := TT.many (ts := [0]) hn pre T hU.1 (pw5 lenp hU) fun x hx => mem x (by simp [hx])
    have h4 := tL_len n pre (ls, [0])
    rw [h2] at h3
    generalize pre.foldl tB (b, [0]) = s0 at T2 h2
    generalize hs : pre.foldl (tL n) (ls, [0]) = s at T2 h2 h3 h4
    obtain ⟨ls', ts'⟩ := s
    simp only at T2 h3 h4
    have he := mem e (by simp)
    have h0 : 0 < n := by omega
    have U0 : (0 : Int) ≤ 5 ^ pre.length * U := Int.mul_nonneg (Int.pow_nonneg (by omega)) hU.1
    have nn : least n ls' = some (leastL n ls') := by
      have := (least_fw hn ⟨U0, pw5 lenp hU⟩ T2.ok).1
      unfold least at this ⊢
      split
      · rename_i hb
        rw [if_pos hb] at this
        exact absurd (this.mp rfl) T2.neg
      · rfl
    have lo := least_ok (n := n) (ls := ls') (w := .lst (ls'.map linkD)) rfl (by omega) (by omega)
    rw [nn] at lo
    obtain ⟨_, _, _, dm⟩ := least_fw hn ⟨U0, pw5 lenp hU⟩ T2.ok
    have ro := reach_ok (l := leastL n ls') (i := 0) (j := e) (dm e 0 he.2 h0) (dm 0 e h0 he.2)
    have z0 : ((0 : Nat) : Int) = 0 := rfl
    rw [z0] at ro
    have im := immR_al (leastL n ls')
    have l1 : okLen (ts'.length + 1) = true := okLen_of (by rw [h3]; simp; omega)
    have l2 : okLen (ls'.length + 1) = true := okLen_of (by rw [h4]; omega)
    unfold q1__law_times tL dist
    simp only [opD] at lo
    by_cases c1 : 100000000 < gt (leastL n ls') e 0
    · by_cases c2 : 100000000 < gt (leastL n ls') 0 e
      · simp only [c1, c2, if_true] at ro ⊢
        simp [nD, lo, im, ro, v_appOf, l1, l2, okLen_of, timeOf, linkD, opD]
      · simp only [c1, c2, if_true, if_false] at ro ⊢
        simp [nD, lo, im, ro, v_appOf, l1, l2, okLen_of, timeOf, linkD, opD]
    · simp only [c1, if_false] at ro ⊢
      rw [Int.zero_sub] at ro
      by_cases c2 : 100000000 < gt (leastL n ls') 0 e <;>
      simp [nD, lo, im, ro, v_appOf, l1, l2, okLen_of, timeOf, linkD, opD]
  have e1 : ((n : Int) - 1).toNat = n - 1 := by omega
  simp only [List.map_cons, List.map_nil] at lp
  have fin := TT.many (ts := [0]) hn (events n) T hU.1 (pw5 (by simp [events]; omega) hU) fun x hx => mem_events hx
  simp [okLen_of, hw, s1, s2, e1]
  rw [ints1]
  unfold events at lp
  rw [lp]
  have : timesB n b = ((events n).foldl (tL n) (ls, [0])).2 := fin.2.1
  simp [this, events]
/-! plans drawn -/
def planD (n : Nat) (ls : List Link) : D := .tup [.int n, .tup (ls.map linkD)]
/-- what is drawn: links between events, none twice, in ascending order -/
structure POk (n : Nat) (U : Int) (ls : List Link) : Prop where
  ok : SOk n U ls
  len : ls.length ≤ 20
  asc : ls.Pairwise fun a b => a.i < b.i ∨ (a.i = b.i ∧ a.j < b.j)
  hi : ∀ l ∈ ls, ∀ h, l.high = some h → l.low ≤ h
/-- ahead of (i, j) -/
def Bef (i j : Nat) (l : Link) : Prop := l.i < i ∨ (l.i = i ∧ l.j < j)
theorem next_eq (ns : List Int) (s : Dr) (h : s.ok) (m : Int) (h0 : 0 < m) (hm : m ≤ 1000000000000000000) : ∃ (v : Nat) (s' : Dr), s'.ok ∧ (v : Int) < m ∧ F__law_next [drD ns s, .int m] = some (.int (v : Int), [drD ns s', .int m]) := by
  obtain ⟨v, s', h1, h2, h3⟩ := next_nat ns s h m h0 hm
  exact ⟨v, s', h1, h2, h3⟩
end PL

namespace PL
open PySem PySem.Spec PyProof.Rows L2 TL
theorem range_split {n : Nat} {pre post : List Nat} {a : Nat} (e : List.range n = pre ++ a :: post) : a = pre.length ∧ a < n := by
  have h1 : (List.range n)[pre.length]? = some a := by rw [e]; simp
  rw [List.getElem?_eq_some_iff] at h1
  obtain ⟨h2, h3⟩ := h1
  simp at h2 h3
  omega
/-- the links so far, all ahead of (i, j) -/
structure LOk (n : Nat) (i j : Nat) (ls : List Link) : Prop where
  ok : SOk n 60 ls
  len : ls.length ≤ 20
  asc : ls.Pairwise fun a b => a.i < b.i ∨ (a.i = b.i ∧ a.j < b.j)
  hi : ∀ l ∈ ls, ∀ h, l.high = some h → l.low ≤ h
  bef : ∀ l ∈ ls, Bef i j l
theorem LOk.next {n i j j' i' : Nat} {ls : List Link} (h : LOk n i j ls) (k : i < i' ∨ (i = i' ∧ j ≤ j')) : LOk n i' j' ls := ⟨h.ok, h.len, h.asc, h.hi, fun l hl => by
  have := h.bef l hl
  unfold Bef at this ⊢
  omega⟩
theorem LOk.snoc {n i j : Nat} {ls : List Link} {low : Int} {high : Option Int} (h : LOk n i j ls) (hl : ls.length < 20) (hi : i < n) (hj : j < n) (hij : i ≠ j) (l1 : -60 ≤ low ∧ low ≤ 60) (l2 : ∀ x, high = some x → -60 ≤ x ∧ x ≤ 60 ∧ low ≤ x) : LOk n i (j + 1) (ls ++ [⟨i, j, low, high⟩]) := by
  refine ⟨fun l hl' => ?_, by simp; omega, ?_, fun l hl' => ?_, fun l hl' => ?_⟩
  · rcases List.mem_append.mp hl' with z | z
    · exact h.ok l z
    · have : l = ⟨i, j, low, high⟩ := by simpa using z
      subst this
      exact ⟨hi, hj, hij, l1, fun x hx => ⟨(l2 x hx).1, (l2 x hx).2.1⟩⟩
  · rw [List.pairwise_append]
    refine ⟨h.asc, by simp, fun a ha b hb => ?_⟩
    have : b = ⟨i, j, low, high⟩ := by simpa using hb
    subst this
    exact h.bef a ha
  · rcases List.mem_append.mp hl' with z | z
    · exact h.hi l z
    · have : l = ⟨i, j, low, high⟩ := by simpa using z
      subst this
      exact fun x hx => (l2 x hx).2.2
  · rcases List.mem_append.mp hl' with z | z
    · have := h.bef l z
      unfold Bef at this ⊢
      omega
    · have : l = ⟨i, j, low, high⟩ := by simpa using z
      subst this
      exact .inr ⟨rfl, by simp⟩
theorem plan_in (ns : List Int) (most wide : Int) {n i : Nat} (ts : List Int) (hts : ts.length = n) (tb : ∀ t ∈ ts, -24 ≤ t ∧ t ≤ 24) (hn : n ≤ 100) (hi : i < n) (s : Dr) (ls : List Link) (hs : s.ok) (H : LOk n i 0 ls) :
    ∃ s' ls', s'.ok ∧ LOk n i n ls' ∧ loopF (stepB (gNm 7) q2__law_plan) [7, 9, 10] ((List.range n).map nD) [drD ns s, .int most, .int wide, .int n, .lst (ts.map D.int), .lst (ls.map linkD), .int i, .non, .non, .non, .non] =
      some (.nx [drD ns s', .int most, .int wide, .int n, .lst (ts.map D.int), .lst (ls'.map linkD), .int i, .non, .non, .non, .non]) := by
  have key := loop_inv (b := stepB (gNm 7) q2__law_plan) (ks := [7, 9, 10]) nD (fun s : Dr × List Link => [drD ns s.1, .int most, .int wide, .int n, .lst (ts.map D.int), .lst (s.2.map linkD), .int i, .non, .non, .non, .non]) (fun pre s => s.1.ok ∧ LOk n i pre.length s.2) (List.range n) [] (s, ls) ⟨hs, H⟩ fun pre j post eq s ⟨h1, h2⟩ => by
    obtain ⟨ej, hj⟩ := range_split (by simpa using eq)
    obtain ⟨s, ls⟩ := s
    simp only at h1 h2
    rw [← ej] at h2
    have lp : (pre ++ [j]).length = j + 1 := by simp; omega
    have hij' : ∀ h : ¬ i = j, (((i : Int) == (j : Int)) = false) := fun h => by
      rw [Bool.eq_false_iff]; intro z; have := eq_of_beq z; omega
    have a1 : atI (ts.map D.int) (i : Int) = some (.int (ts.getD i 0)) := by
      have := ix_s D.int ts (i : Int) ⟨by omega, by omega⟩
      simpa using this
    have a2 : atI (ts.map D.int) (j : Int) = some (.int (ts.getD j 0)) := by
      have := ix_s D.int ts (j : Int) ⟨by omega, by omega⟩
      simpa using this
    have b1 : -24 ≤ ts.getD i 0 ∧ ts.getD i 0 ≤ 24 := tb _ (by rw [List.getD_eq_getElem?_getD, List.getElem?_eq_getElem (by omega)]; simp)
    have b2 : -24 ≤ ts.getD j 0 ∧ ts.getD j 0 ≤ 24 := tb _ (by rw [List.getD_eq_getElem?_getD, List.getElem?_eq_getElem (by omega)]; simp)
    generalize ts.getD i 0 = ti at a1 b1
    generalize ts.getD j 0 = tj at a2 b2
    by_cases hij : i = j
    · subst hij
      refine ⟨(s, ls), ?_, h1, by rw [lp]; exact h2.next (by omega)⟩
      unfold q2__law_plan
      simp [nD]
    · obtain ⟨v1, s1, ok1, lt1, e1⟩ := next_eq ns s h1 3 (by omega) (by omega)
      by_cases hv : v1 = 0
      · by_cases hl : ls.length < 20
        · obtain ⟨v2, s2, ok2, lt2, e2⟩ := next_eq ns s1 ok1 4 (by omega) (by omega)
          obtain ⟨v3, s3, ok3, lt3, e3⟩ := next_eq ns s2 ok2 9 (by omega) (by omega)
          obtain ⟨v4, s4, ok4, lt4, e4⟩ := next_eq ns s3 ok3 3 (by omega) (by omega)
          have okl : okLen (ls.length + 1) = true := okLen_of (by omega)
          have hl' : (ls.length : Int) < 20 := by omega
          subst hv
          have lowb : ∀ c : Int, (c = 2 ∨ c = 0) → -60 ≤ tj - ti - (v2 : Int) + c ∧ tj - ti - (v2 : Int) + c ≤ 55 := fun c hc => by omega
          by_cases h4 : v4 = 0
          · subst h4
            by_cases h3 : v3 = 0
            · subst h3
              have lb := lowb 2 (.inl rfl)
              refine ⟨(s4, ls ++ [⟨i, j, tj - ti - v2 + 2, none⟩]), ?_, ok4, by rw [lp]; exact h2.snoc hl hi hj hij ⟨lb.1, by omega⟩ fun x hx => by cases hx⟩
              unfold q2__law_plan
              simp [nD, hij' hij, e1, e2, e3, e4, hl', a1, a2, okLen_of, v_appOf, okl, linkD, opD]
            · have h3' : ((v3 : Int) == 0) = false := by rw [Bool.eq_false_iff]; intro z; have := eq_of_beq z; omega
              have lb := lowb 0 (.inr rfl)
              refine ⟨(s4, ls ++ [⟨i, j, tj - ti - v2 + 0, none⟩]), ?_, ok4, by rw [lp]; exact h2.snoc hl hi hj hij ⟨lb.1, by omega⟩ fun x hx => by cases hx⟩
              unfold q2__law_plan
              simp [nD, hij' hij, e1, e2, e3, e4, hl', a1, a2, okLen_of, v_appOf, okl, linkD, opD, h3']
          · have h4' : ((v4 : Int) == 0) = false := by rw [Bool.eq_false_iff]; intro z; have := eq_of_beq z; omega
            obtain ⟨v5, s5, ok5, lt5, e5⟩ := next_eq ns s4 ok4 5 (by omega) (by omega)
            by_cases h3 : v3 = 0
            · subst h3
              have lb := lowb 2 (.inl rfl)
              refine ⟨(s5, ls ++ [⟨i, j, tj - ti - v2 + 2, some (tj - ti - v2 + 2 + v5)⟩]), ?_, ok5, by rw [lp]; exact h2.snoc hl hi hj hij ⟨lb.1, by omega⟩ fun x hx => by cases hx; omega⟩
              unfold q2__law_plan
              simp [nD, hij' hij, e1, e2, e3, e4, e5, hl', a1, a2, okLen_of, v_appOf, okl, linkD, opD, h4']
            · have h3' : ((v3 : Int) == 0) = false := by rw [Bool.eq_false_iff]; intro z; have := eq_of_beq z; omega
              have lb := lowb 0 (.inr rfl)
              refine ⟨(s5, ls ++ [⟨i, j, tj - ti - v2 + 0, some (tj - ti - v2 + 0 + v5)⟩]), ?_, ok5, by rw [lp]; exact h2.snoc hl hi hj hij ⟨lb.1, by omega⟩ fun x hx => by cases hx; omega⟩
              unfold q2__law_plan
              simp [nD, hij' hij, e1, e2, e3, e4, e5, hl', a1, a2, okLen_of, v_appOf, okl, linkD, opD, h3', h4']
        · have hl' : ¬ (ls.length : Int) < 20 := by omega
          subst hv
          refine ⟨(s1, ls), ?_, ok1, by rw [lp]; exact h2.next (by omega)⟩
          unfold q2__law_plan
          simp [nD, hij' hij, e1, hl']
      · have hv' : ((v1 : Int) == 0) = false := by rw [Bool.eq_false_iff]; intro z; have := eq_of_beq z; omega
        refine ⟨(s1, ls), ?_, ok1, by rw [lp]; exact h2.next (by omega)⟩
        unfold q2__law_plan
        simp [nD, hij' hij, e1, hv']
  obtain ⟨⟨s', ls'⟩, e, h1, h2⟩ := key
  refine ⟨s', ls', h1, by simpa using h2, e⟩
theorem of_idx {α : Type} (Q : α → D → Prop) : ∀ (l : List α) (ds : List D), ds.length = l.length → (∀ (i : Nat) (a : α) (d : D), l[i]? = some a → ds[i]? = some d → Q a d) → ∀ d ∈ ds, ∃ a ∈ l, Q a d := fun l ds hl h d hd => by
  obtain ⟨i, hi, e⟩ := List.getElem_of_mem hd
  have h2 : i < l.length := by omega
  exact ⟨l[i], List.getElem_mem h2, h i l[i] d (List.getElem?_eq_getElem h2) (by rw [List.getElem?_eq_getElem hi, e])⟩
theorem ints_of {P : Int → Prop} : ∀ (ds : List D), (∀ d ∈ ds, ∃ t : Int, d = .int t ∧ P t) → ∃ ts : List Int, ds = ts.map D.int ∧ ∀ t ∈ ts, P t
  | [], _ => ⟨[], rfl, by simp⟩
  | d :: ds, h => by
    obtain ⟨t, rfl, ht⟩ := h d (by simp)
    obtain ⟨ts, rfl, h2⟩ := ints_of ds fun d hd => h d (by simp [hd])
    exact ⟨t :: ts, rfl, fun x hx => (List.mem_cons.mp hx).elim (fun z => z ▸ ht) (h2 x)⟩
theorem plan_ok (ns : List Int) (s : Dr) (hs : s.ok) (most wide : Nat) (hm : 1 ≤ most ∧ most ≤ 8) (hw : wide = 4 ∨ wide = 12) :
    ∃ s' n ls, s'.ok ∧ 1 ≤ n ∧ n ≤ most ∧ POk n 60 ls ∧ F__law_plan [drD ns s, .int most, .int wide] = some (planD n ls, [drD ns s', .int most, .int wide]) := by
  obtain ⟨v, s1, ok1, lt1, e1⟩ := next_eq ns s hs most (by omega) (by omega)
  have e2w : (2 * (wide : Int)) ≤ 24 ∧ 8 ≤ (2 * (wide : Int)) ∧ (wide : Int) / 2 ≤ 6 ∧ 0 ≤ (wide : Int) / 2 := by omega
  have smw : sm 2 = true := sm_of (by omega) (by omega)
  have smw2 : sm (wide : Int) = true := sm_of (by omega) (by omega)
  obtain ⟨ds, s2, ok2, dl, dq, e2⟩ := lc_st (step := stepLc [8] (gNm 8) tYesF e1__law_plan) nD (fun s : Dr => [drD ns s, .int most, .int wide, .int ((v : Int) + 1), .non, .non, .non, .non, .non, .non, .non]) Dr.ok (fun _ d => ∃ t : Int, d = .int t ∧ -24 ≤ t ∧ t ≤ 24) (List.range v) s1 ok1 fun a _ s hs => by
    obtain ⟨u, s', ok', lt', e'⟩ := next_eq ns s hs (2 * wide) (by omega) (by omega)
    refine ⟨.int (u - (wide : Int) / 2), s', ok', ⟨_, rfl, by omega, by omega⟩, ?_⟩
    unfold e1__law_plan tYesF
    simp [nD, e', smw, smw2]
  obtain ⟨ts, rfl, ht⟩ := ints_of (P := fun t => -24 ≤ t ∧ t ≤ 24) ds (fun d hd => (of_idx (fun _ d => ∃ t : Int, d = .int t ∧ -24 ≤ t ∧ t ≤ 24) _ ds dl dq d hd).elim fun _ z => z.2)
  have lt : ts.length = v := by simpa using dl
  clear dq dl
  have s62 : small62 ((v : Int) + 1) = true := s62_of (by omega) (by omega)
  have n1 : ((v : Int) + 1 - 1) = (v : Int) := by omega
  obtain ⟨⟨s3, ls⟩, e3, ok3, L3⟩ := loop_inv (b := stepB (gNm 6) q3__law_plan) (ks := [6, 7, 9, 10]) nD (fun s : Dr × List Link => [drD ns s.1, .int most, .int wide, .int ((v + 1 : Nat) : Int), .lst ((0 :: ts).map D.int), .lst (s.2.map linkD), .non, .non, .non, .non, .non]) (fun pre s => s.1.ok ∧ LOk (v + 1) pre.length 0 s.2) (List.range (v + 1)) [] (s2, []) ⟨ok2, ⟨fun l hl => by simp at hl, by simp, List.Pairwise.nil, fun l hl => by simp at hl, fun l hl => by simp at hl⟩⟩ fun pre i post eq s ⟨h1, h2⟩ => by
    obtain ⟨ej, hj⟩ := range_split (by simpa using eq)
    obtain ⟨s, ls⟩ := s
    simp only at h1 h2
    rw [← ej] at h2
    have lp : (pre ++ [i]).length = i + 1 := by simp; omega
    obtain ⟨s', ls', k1, k2, k3⟩ := plan_in ns (most : Int) (wide : Int) (n := v + 1) (i := i) (0 :: ts) (by simp; omega) (fun t ht' => by
      rcases List.mem_cons.mp ht' with rfl | z
      · omega
      · exact ht t z) (by omega) hj s ls h1 h2
    refine ⟨(s', ls'), ?_, k1, by rw [lp]; exact k2.next (by omega)⟩
    unfold q3__law_plan
    have s62' : small62 ((v + 1 : Nat) : Int) = true := s62_of (by omega) (by omega)
    have e4 : ((v : Int) + 1).toNat = v + 1 := by omega
    simp at k3
    have e5 : intsD 0 (v + 1) = (List.range (v + 1)).map nD := ints_nD (v + 1)
    have en : nD i = D.int (i : Int) := rfl
    simp [en, v_rng1Of, s62, e4, e5, k3]
  refine ⟨s3, v + 1, ls, ok3, by omega, by omega, ⟨L3.ok, L3.len, L3.asc, L3.hi⟩, ?_⟩
  unfold F__law_plan b__law_plan
  rw [v_run3]
  have e4 : ((v : Int) + 1).toNat = v + 1 := by omega
  have e5 : (1 + (v : Int)) = (v : Int) + 1 := by omega
  have okt : okLen (v + 1) = true := okLen_of (by omega)
  have smv : small62 (v : Int) = true := s62_of (by omega) (by omega)
  have e6 : ∀ k, intsD 0 k = (List.range k).map nD := ints_nD
  have okv : okLen v = true := okLen_of (by omega)
  have oks : okLen ls.length = true := okLen_of (by have h := L3.len; simp at h; omega)
  have okt' : okLen (1 + v) = true := okLen_of (by omega)
  simp at e2 e3
  simp [e1, e5, n1, s62, okLen_of, smv, e6, okv, e2, lt, okt, okt', e4, e3, oks, planD, v_appOf]
end PL

namespace K64
open PySem PySem.Spec PyProof.Rows L2 TL
-- printed by gen.py from the linked text
def nT : Nat := 1000
def topS (i : Nat) : Stmt := PySem.Challenge.pw_farcall_k64_amends.main.body.getD i (.Pass ⟨0, 0, 0, 0⟩)
/-! ### _law_draw(script): slots 0 script -/
abbrev s__law_draw : Stmt := topS 13
theorem sc__law_draw : FnScope ["script"] ["script"] (defScope s__law_draw) := ⟨rfl, rfl, rfl, by decide +kernel, rfl, by decide +kernel, by decide +kernel⟩
def b__law_draw : Sf := (sRetO (oLst (aCons (eF (oCa (f1L listD) (aCons (eVar 0) aNil))) (aCons (eC (.int 0)) (aCons (eC (.int 0)) (aCons (eC (.int 17)) aNil))))))
abbrev sg__law_draw : Sg := ⟨[.sh], (.oL .sh)⟩
abbrev ps__law_draw : List Str := ["script"]
theorem c__law_draw {P : Program} {w : World} {K : PySem.W.Frag} {mg : Str → Option Value} {base : Heap} {f : Addr} {fd : FuncData} {k : Nat} (D : Dfn K mg "_law_draw" s__law_draw ps__law_draw f fd) (z_list : mg "list" = none) :
    Cal P w K mg base f fd "_law_draw" (k + 1) ps__law_draw sg__law_draw (runF (b__law_draw) 1 0) := by
  unfold b__law_draw 
  exact cal_ok (sg := sg__law_draw) (τ' := [.no]) D sc__law_draw ⟨[], (.oL .sh), [.no], [], []⟩ 0 rfl rfl rfl rfl rfl (by first | rfl | kernel_rfl) (.inr (by repeat first | exact nn_ret | exact nn_retO | exact nn_retX | exact nn_retN | exact nn_retIf | apply nn_seq | apply nn_if)) fun cdv A outer s H E hr => (dss_one (ds_retO (do_lst (da_cons (de_F (do_callTy call_list_of co_list (by rfl) z_list bt_list (da_cons (de_var 0 (pv 0)) da_nil))) (da_cons de_int (da_cons de_int (da_cons de_int da_nil)))))))
def F__law_draw : Fm := runF b__law_draw 1 0
/-! ### _law_bound(links, i, j): slots 0 links 1 i 2 j 3 found 4 a 5 b 6 low 7 high -/
abbrev s__law_bound : Stmt := topS 17
theorem sc__law_bound : FnScope ["links", "i", "j", "found", "a", "b", "low", "high"] ["links", "i", "j"] (defScope s__law_bound) := ⟨rfl, rfl, rfl, by decide +kernel, rfl, by decide +kernel, by decide +kernel⟩
def t1__law_bound : Tf := (tAnd' (tBl (eBin dEq (eTup (aCons (eVar 4) (aCons (eVar 5) aNil))) (eTup (aCons (eVar 1) (aCons (eVar 2) aNil))))) (tBl (eBin dIsNot (eVar 7) (eC .non))))
def e2__law_bound : Of := (oE (eVar 7))
def t3__law_bound : Tf := (tBl (eBin dEq (eTup (aCons (eVar 4) (aCons (eVar 5) aNil))) (eTup (aCons (eVar 2) (aCons (eVar 1) aNil)))))
def e4__law_bound : Of := (oE (eBin dSub (eC (.int 0)) (eVar 6)))
def b__law_bound : Sf := (sSeq (sSetO 3 (oLc [4, 5, 6, 7] (iSeq (eVar 0)) (gTp (gsCons (gNm 4) (gsCons (gNm 5) (gsCons (gNm 6) (gsCons (gNm 7) gsNil))))) t1__law_bound e2__law_bound)) (sSeq (sAsg (eBin dAdd (eVar 3) (eF (oLc [4, 5, 6, 7] (iSeq (eVar 0)) (gTp (gsCons (gNm 4) (gsCons (gNm 5) (gsCons (gNm 6) (gsCons (gNm 7) gsNil))))) t3__law_bound e4__law_bound))) (gNm 3)) (sRet (eIf (tB (eVar 3)) (eCa (f1 minD) (aCons (eVar 3) aNil)) (eC .non)))))
abbrev sg__law_bound : Sg := ⟨[.sh, .sh, .sh], .sh⟩
abbrev ps__law_bound : List Str := ["links", "i", "j"]
theorem c__law_bound {P : Program} {w : World} {K : PySem.W.Frag} {mg : Str → Option Value} {base : Heap} {f : Addr} {fd : FuncData} {k : Nat} (D : Dfn K mg "_law_bound" s__law_bound ps__law_bound f fd) (z_min : mg "min" = none) :
    Cal P w K mg base f fd "_law_bound" (k + 1) ps__law_bound sg__law_bound (runF (b__law_bound) 3 5) := by
  unfold b__law_bound e4__law_bound t3__law_bound e2__law_bound t1__law_bound
  exact cal_ok (sg := sg__law_bound) (τ' := [.no, .no, .no, .no, .no, .no, .no, .no]) D sc__law_bound ⟨[], .sh, [.no, .no, .no, .no, .no, .no, .no, .no], [], []⟩ 5 rfl rfl rfl rfl rfl (by first | rfl | kernel_rfl) (.inl rfl) fun cdv A outer s H E hr => (dss_cons (ds_frzA (τ1 := [.sh, .sh, .sh, (.oL .sh), .no, .no, .no, .no]) 3 (by first | exact (ds_setLc (own := [("a", 4), ("b", 5), ("low", 6), ("high", 7)]) 3 rfl sc__law_bound.nd rfl rfl rfl (di_seq (de_var 0 (pv 0))) (blkOk_by (by kernel_rfl)) (fun _ _ _ _ _ => (dg_tup rfl (dgs_cons (dg_name 4 sc__law_bound.nd rfl (by first | exact .inl rfl | exact .inr rfl)) (dgs_cons (dg_name 5 sc__law_bound.nd rfl (by first | exact .inl rfl | exact .inr rfl)) (dgs_cons (dg_name 6 sc__law_bound.nd rfl (by first | exact .inl rfl | exact .inr rfl)) (dgs_cons (dg_name 7 sc__law_bound.nd rfl (by first | exact .inl rfl | exact .inr rfl)) dgs_nil)))) (gsCons_len (gsCons_len (gsCons_len (gsCons_len gsNil_len)))))) (fun _ _ _ _ _ => (dts_one (dt_w (dw_and (dt_cmp (op_eqD (hu64 hr)) od_eq (de_tup (da_cons (de_var 4 (pv 4)) (da_cons (de_var 5 (pv 5)) da_nil))) (de_tup (da_cons (de_var 1 (pv 1)) (da_cons (de_var 2 (pv 2)) da_nil))) (nomark _)) (dw_and1 (dt_cmp op_isNotD od_isNot (de_var 7 (pv 7)) de_non (nomark _))))))) (fun _ _ _ _ _ => (do_E (de_var 7 (pv 7))))) | exact (ds_setO 3 sc__law_bound.nd rfl (by first | exact .inl rfl | exact .inr rfl) (do_lc (own := [("a", 4), ("b", 5), ("low", 6), ("high", 7)]) rfl sc__law_bound.nd (di_seq (de_var 0 (pv 0))) (blkOk_by (by kernel_rfl)) (fun _ _ _ _ _ => (dg_tup rfl (dgs_cons (dg_name 4 sc__law_bound.nd rfl (by first | exact .inl rfl | exact .inr rfl)) (dgs_cons (dg_name 5 sc__law_bound.nd rfl (by first | exact .inl rfl | exact .inr rfl)) (dgs_cons (dg_name 6 sc__law_bound.nd rfl (by first | exact .inl rfl | exact .inr rfl)) (dgs_cons (dg_name 7 sc__law_bound.nd rfl (by first | exact .inl rfl | exact .inr rfl)) dgs_nil)))) (gsCons_len (gsCons_len (gsCons_len (gsCons_len gsNil_len)))))) (fun _ _ _ _ _ => (dts_one (dt_w (dw_and (dt_cmp (op_eqD (hu64 hr)) od_eq (de_tup (da_cons (de_var 4 (pv 4)) (da_cons (de_var 5 (pv 5)) da_nil))) (de_tup (da_cons (de_var 1 (pv 1)) (da_cons (de_var 2 (pv 2)) da_nil))) (nomark _)) (dw_and1 (dt_cmp op_isNotD od_isNot (de_var 7 (pv 7)) de_non (nomark _))))))) (fun _ _ _ _ _ => (do_E (de_var 7 (pv 7)))))))) (dss_cons (ds_set 3 sc__law_bound.nd rfl (by first | exact .inl rfl | exact .inr rfl) (de_bin op_addD od_add (de_var 3 (pv 3)) (de_F (do_lc (own := [("a", 4), ("b", 5), ("low", 6), ("high", 7)]) rfl sc__law_bound.nd (di_seq (de_var 0 (pv 0))) (blkOk_by (by kernel_rfl)) (fun _ _ _ _ _ => (dg_tup rfl (dgs_cons (dg_name 4 sc__law_bound.nd rfl (by first | exact .inl rfl | exact .inr rfl)) (dgs_cons (dg_name 5 sc__law_bound.nd rfl (by first | exact .inl rfl | exact .inr rfl)) (dgs_cons (dg_name 6 sc__law_bound.nd rfl (by first | exact .inl rfl | exact .inr rfl)) (dgs_cons (dg_name 7 sc__law_bound.nd rfl (by first | exact .inl rfl | exact .inr rfl)) dgs_nil)))) (gsCons_len (gsCons_len (gsCons_len (gsCons_len gsNil_len)))))) (fun _ _ _ _ _ => (dts_one (dt_cmp (op_eqD (hu64 hr)) od_eq (de_tup (da_cons (de_var 4 (pv 4)) (da_cons (de_var 5 (pv 5)) da_nil))) (de_tup (da_cons (de_var 2 (pv 2)) (da_cons (de_var 1 (pv 1)) da_nil))) (nomark _)))) (fun _ _ _ _ _ => (do_E (de_bin op_sub od_sub de_int (de_var 6 (pv 6))))))))) (dss_one (ds_ret (de_if (dt_truth (de_var 3 (pv 3))) (de_callB (cr_min rfl) ca_min (by rfl) z_min bt_min (da_cons (de_var 3 (pv 3)) da_nil)) de_non)))))
def F__law_bound : Fm := runF b__law_bound 3 5
/-! ### _law_least(events, links): slots 0 events 1 links 2 best 3 i 4 k 5 j 6 most -/
abbrev s__law_least : Stmt := topS 18
theorem sc__law_least : FnScope ["events", "links", "best", "i", "k", "j", "most"] ["events", "links"] (defScope s__law_least) := ⟨rfl, rfl, rfl, by decide +kernel, rfl, by decide +kernel, by decide +kernel⟩
def q1__law_least : Sf := (sSeq (sAsg (eF (oCall F__law_bound (aCons (eVar 1) (aCons (eVar 3) (aCons (eVar 5) aNil))))) (gNm 6)) (sPut 2 (eIf (tBl (eBin dEq (eVar 3) (eVar 5))) (eC (.int 0)) (eIf (tBl (eBin dIs (eVar 6) (eC .non))) (eBin dPow (eC (.int 10)) (eC (.int 9))) (eVar 6))) (eTup (aCons (eVar 3) (aCons (eVar 5) aNil)))))
def q2__law_least : Sf := (sFor [5, 6] (TL.iRng1 (aCons (eVar 0) aNil)) (gNm 5) q1__law_least)
def q3__law_least : Sf := (sIf (tAnd' (tBl (eBin dLt (eBin dGet (eOwn 2) (eTup (aCons (eVar 3) (aCons (eVar 4) aNil)))) (eBin dPow (eC (.int 10)) (eC (.int 8))))) (tBl (eBin dLt (eBin dGet (eOwn 2) (eTup (aCons (eVar 4) (aCons (eVar 5) aNil)))) (eBin dPow (eC (.int 10)) (eC (.int 8)))))) (sPut 2 (eCa (f2 min2D) (aCons (eBin dGet (eOwn 2) (eTup (aCons (eVar 3) (aCons (eVar 5) aNil)))) (aCons (eBin dAdd (eBin dGet (eOwn 2) (eTup (aCons (eVar 3) (aCons (eVar 4) aNil)))) (eBin dGet (eOwn 2) (eTup (aCons (eVar 4) (aCons (eVar 5) aNil))))) aNil))) (eTup (aCons (eVar 3) (aCons (eVar 5) aNil)))) sNil)
def q4__law_least : Sf := (sFor [5] (TL.iRng1 (aCons (eVar 0) aNil)) (gNm 5) q3__law_least)
def q5__law_least : Sf := (sFor [3, 5] (TL.iRng1 (aCons (eVar 0) aNil)) (gNm 3) q4__law_least)
def e6__law_least : Of := (oE (eBin dLt (eBin dGet (eOwn 2) (eTup (aCons (eVar 3) (aCons (eVar 3) aNil)))) (eC (.int 0))))
def b__law_least : Sf := (sSeq (sSetO 2 oDctT) (sSeq (sFor [3, 5, 6] (TL.iRng1 (aCons (eVar 0) aNil)) (gNm 3) q2__law_least) (sSeq (sFor [3, 4, 5] (TL.iRng1 (aCons (eVar 0) aNil)) (gNm 4) q5__law_least) (sRetIf (tB (eCa (f1 anyD) (aCons (eF (oLc [3] (TL.iRng1 (aCons (eVar 0) aNil)) (gNm 3) tYesF e6__law_least)) aNil))) (sRetO oNon) (sRetX 2)))))
abbrev sg__law_least : Sg := ⟨[.sh, .sh], (.oT .sh)⟩
abbrev ps__law_least : List Str := ["events", "links"]
theorem c__law_least {P : Program} {w : World} {K : PySem.W.Frag} {mg : Str → Option Value} {base : Heap} {f : Addr} {fd : FuncData} {k : Nat} (D : Dfn K mg "_law_least" s__law_least ps__law_least f fd) {f__law_bound : Addr} {fd__law_bound : FuncData} (c__law_bound : Cal P w K mg base f__law_bound fd__law_bound "_law_bound" k ps__law_bound sg__law_bound F__law_bound) (z_range : mg "range" = none) (z_min : mg "min" = none) (z_any : mg "any" = none) :
    Cal P w K mg base f fd "_law_least" (k + 1) ps__law_least sg__law_least (runF (b__law_least) 2 5) := by
  unfold b__law_least e6__law_least q5__law_least q4__law_least q3__law_least q2__law_least q1__law_least
  exact cal_ok (sg := sg__law_least) (τ' := [.no, .no, .no, .no, .no, .no, .no]) D sc__law_least ⟨[], (.oT .sh), [.no, .no, .no, .no, .no, .no, .no], [], []⟩ 5 rfl rfl rfl rfl rfl (by first | rfl | kernel_rfl) (.inr (by repeat first | exact nn_ret | exact nn_retO | exact nn_retX | exact nn_retN | exact nn_retIf | apply nn_seq | apply nn_if)) fun cdv A outer s H E hr => (dss_cons (ds_setO 2 sc__law_least.nd rfl (by first | exact .inl rfl | exact .inr rfl) do_dctT) (dss_cons (ds_for (tbk := [.sh, .sh, (.oT .sh), .no, .no, .no, .no]) (tct := [.sh, .sh, (.oT .sh), .no, .no, .no, .no]) [3, 5, 6] PassesOwn.never rfl (di_range1 (by rfl) z_range (da_cons (de_var 0 (pv 0)) da_nil)) (dg_name 3 sc__law_least.nd rfl (by first | exact .inl rfl | exact .inr rfl)) (dss_one (ds_for (tbk := [.sh, .sh, (.oT .sh), .sh, .no, .no, .no]) (tct := [.sh, .sh, (.oT .sh), .sh, .no, .no, .no]) [5, 6] PassesOwn.never rfl (di_range1 (by rfl) z_range (da_cons (de_var 0 (pv 0)) da_nil)) (dg_name 5 sc__law_least.nd rfl (by first | exact .inl rfl | exact .inr rfl)) (dss_cons (ds_set 6 sc__law_least.nd rfl (by first | exact .inl rfl | exact .inr rfl) (de_F (do_fn c__law_bound hr 3 (by rfl) (da_cons (de_var 1 (pv 1)) (da_cons (de_var 3 (pv 3)) (da_cons (de_var 5 (pv 5)) da_nil)))))) (dss_one (ds_putT 2 (hu1 hr) (de_if (dt_cmp (op_eqD (hu64 hr)) od_eq (de_var 3 (pv 3)) (de_var 5 (pv 5)) (nomark _)) de_int (de_if (dt_cmp op_isD od_is (de_var 6 (pv 6)) de_non (nomark _)) (de_bin op_pow od_pow de_int de_int) (de_var 6 (pv 6)))) (pv 2) (de_tup (da_cons (de_var 3 (pv 3)) (da_cons (de_var 5 (pv 5)) da_nil))))))))) (dss_cons (ds_for (tbk := [.sh, .sh, (.oT .sh), .no, .no, .no, .no]) (tct := [.sh, .sh, (.oT .sh), .no, .no, .no, .no]) [3, 4, 5] PassesOwn.never rfl (di_range1 (by rfl) z_range (da_cons (de_var 0 (pv 0)) da_nil)) (dg_name 4 sc__law_least.nd rfl (by first | exact .inl rfl | exact .inr rfl)) (dss_one (ds_for (tbk := [.sh, .sh, (.oT .sh), .no, .sh, .no, .no]) (tct := [.sh, .sh, (.oT .sh), .no, .sh, .no, .no]) [3, 5] PassesOwn.never rfl (di_range1 (by rfl) z_range (da_cons (de_var 0 (pv 0)) da_nil)) (dg_name 3 sc__law_least.nd rfl (by first | exact .inl rfl | exact .inr rfl)) (dss_one (ds_for (tbk := [.sh, .sh, (.oT .sh), .sh, .sh, .no, .no]) (tct := [.sh, .sh, (.oT .sh), .sh, .sh, .no, .no]) [5] PassesOwn.never rfl (di_range1 (by rfl) z_range (da_cons (de_var 0 (pv 0)) da_nil)) (dg_name 5 sc__law_least.nd rfl (by first | exact .inl rfl | exact .inr rfl)) (dss_one (ds_if (dt_w (dw_and (dt_cmp op_lt od_lt (de_ix (ix_dct (hu1 hr)) od_getDct (de_own 2 (pv 2)) (de_tup (da_cons (de_var 3 (pv 3)) (da_cons (de_var 4 (pv 4)) da_nil))) (fun _ _ => rfl)) (de_bin op_pow od_pow de_int de_int) (nomark _)) (dw_and1 (dt_cmp op_lt od_lt (de_ix (ix_dct (hu1 hr)) od_getDct (de_own 2 (pv 2)) (de_tup (da_cons (de_var 4 (pv 4)) (da_cons (de_var 5 (pv 5)) da_nil))) (fun _ _ => rfl)) (de_bin op_pow od_pow de_int de_int) (nomark _))))) (dss_one (ds_putT 2 (hu1 hr) (de_callB (call_min2 rfl) ca_min2 (by rfl) z_min bt_min (da_cons (de_ix (ix_dct (hu1 hr)) od_getDct (de_own 2 (pv 2)) (de_tup (da_cons (de_var 3 (pv 3)) (da_cons (de_var 5 (pv 5)) da_nil))) (fun _ _ => rfl)) (da_cons (de_bin op_addD od_add (de_ix (ix_dct (hu1 hr)) od_getDct (de_own 2 (pv 2)) (de_tup (da_cons (de_var 3 (pv 3)) (da_cons (de_var 4 (pv 4)) da_nil))) (fun _ _ => rfl)) (de_ix (ix_dct (hu1 hr)) od_getDct (de_own 2 (pv 2)) (de_tup (da_cons (de_var 4 (pv 4)) (da_cons (de_var 5 (pv 5)) da_nil))) (fun _ _ => rfl))) da_nil))) (pv 2) (de_tup (da_cons (de_var 3 (pv 3)) (da_cons (de_var 5 (pv 5)) da_nil))))) dss_nil))))))) (dss_one (ds_retIf (dt_truth (de_callB (cr_any rfl) ca_any (by rfl) z_any bt_any (da_cons (de_F (do_lc (own := [("i", 3)]) rfl sc__law_least.nd (di_range1 (by rfl) z_range (da_cons (de_var 0 (pv 0)) da_nil)) (blkOk_by (by kernel_rfl)) (fun _ _ _ _ _ => (dg_name 3 sc__law_least.nd rfl (by first | exact .inl rfl | exact .inr rfl))) (fun _ _ _ _ _ => dts_nil) (fun _ _ _ _ _ => (do_E (de_cmp op_lt od_lt (de_ix (ix_dct (hu1 hr)) od_getDct (de_own 2 (pv 2)) (de_tup (da_cons (de_var 3 (pv 3)) (da_cons (de_var 3 (pv 3)) da_nil))) (fun _ _ => rfl)) de_int (nomark _)))))) da_nil))) (dr_O do_nonT) (dr_X 2 (pv 2)))))))
def F__law_least : Fm := runF b__law_least 2 5
/-! ### _law_next(draw, many): slots 0 draw 1 many 2 found 3 cell -/
abbrev s__law_next : Stmt := topS 14
theorem sc__law_next : FnScope ["draw", "many", "found", "cell"] ["draw", "many"] (defScope s__law_next) := ⟨rfl, rfl, rfl, by decide +kernel, rfl, by decide +kernel, by decide +kernel⟩
def b__law_next : Sf := (sSeq (sIf (tBl (eBin dGt (eBin dIx (eOwn 0) (eC (.int 2))) (eC (.int 0)))) (sSeq (sAsg (eBin dMod (eCa (f1 intD) (aCons (eBin dIx (eOwn 0) (eC (.int 2))) aNil)) (eVar 1)) (gNm 2)) (sSeq (sSetIx 0 (eBin dDiv (eBin dIx (eOwn 0) (eC (.int 2))) (eVar 1)) (eC (.int 2))) (sRet (eVar 2)))) sNil) (sSeq (sIf (tBl (eBin dLt (eBin dIx (eOwn 0) (eC (.int 1))) (eCa (f1 lenD) (aCons (eBin dIx (eOwn 0) (eC (.int 0))) aNil)))) (sKl [3] (sSeq (sAsg (eCa (f1 absD) (aCons (eBin dIx (eBin dIx (eOwn 0) (eC (.int 0))) (eBin dIx (eOwn 0) (eC (.int 1)))) aNil)) (gNm 3)) (sSeq (sSetIx 0 (eBin dAdd (eBin dIx (eOwn 0) (eC (.int 1))) (eC (.int 1))) (eC (.int 1))) (sSeq (sIf (tBl (eBin dGe (eVar 3) (eBin dPow (eC (.int 10)) (eC (.int 18))))) (sSeq (sSetIx 0 (eBin dDiv (eVar 3) (eVar 1)) (eC (.int 2))) (sRet (eBin dMod (eCa (f1 intD) (aCons (eVar 3) aNil)) (eVar 1)))) sNil) (sSetIx 0 (eBin dMod (eCa (f1 intD) (aCons (eBin dAdd (eBin dAdd (eBin dMul (eBin dIx (eOwn 0) (eC (.int 3))) (eC (.int 48271))) (eVar 3)) (eC (.int 11))) aNil)) (eC (.int 2147483647))) (eC (.int 3))))))) (sSetIx 0 (eBin dMod (eCa (f1 intD) (aCons (eBin dAdd (eBin dMul (eBin dIx (eOwn 0) (eC (.int 3))) (eC (.int 48271))) (eC (.int 12345))) aNil)) (eC (.int 2147483647))) (eC (.int 3)))) (sRet (eBin dMod (eBin dDiv (eCa (f1 intD) (aCons (eBin dMod (eBin dMul (eBin dIx (eOwn 0) (eC (.int 3))) (eC (.int 69621))) (eC (.int 2147483629))) aNil)) (eC (.int 7))) (eVar 1)))))
abbrev sg__law_next : Sg := ⟨[(.oL .sh), .sh], .sh⟩
abbrev ps__law_next : List Str := ["draw", "many"]
theorem c__law_next {P : Program} {w : World} {K : PySem.W.Frag} {mg : Str → Option Value} {base : Heap} {f : Addr} {fd : FuncData} {k : Nat} (D : Dfn K mg "_law_next" s__law_next ps__law_next f fd) (z_int : mg "int" = none) (z_len : mg "len" = none) (z_abs : mg "abs" = none) :
    Cal P w K mg base f fd "_law_next" (k + 1) ps__law_next sg__law_next (runF (b__law_next) 2 2) := by
  unfold b__law_next 
  exact cal_ok (sg := sg__law_next) (τ' := [(.oL .sh), .no, .no, .no]) D sc__law_next ⟨[0], .sh, [(.oL .sh), .no, .no, .no], [], []⟩ 2 rfl rfl rfl rfl rfl (by first | rfl | kernel_rfl) (.inl rfl) fun cdv A outer s H E hr => (dss_cons (ds_if (dt_cmp op_gt od_gt (de_ix ix_seq od_ix (de_own 0 (pv 0)) de_int (fun _ _ => rfl)) de_int (nomark _)) (dss_cons (ds_set 2 sc__law_next.nd rfl (by first | exact .inl rfl | exact .inr rfl) (de_bin op_mod od_mod (de_callTy call_int1 ca_int (by rfl) z_int bt_int (da_cons (de_ix ix_seq od_ix (de_own 0 (pv 0)) de_int (fun _ _ => rfl)) da_nil)) (de_var 1 (pv 1)))) (dss_cons (ds_setix 0 (de_bin op_fdivW od_div (de_ix ix_seq od_ix (de_own 0 (pv 0)) de_int (fun _ _ => rfl)) (de_var 1 (pv 1))) (pv 0) de_int) (dss_one (ds_ret (de_var 2 (pv 2)))))) dss_nil) (dss_cons (ds_if (dt_cmp op_lt od_lt (de_ix ix_seq od_ix (de_own 0 (pv 0)) de_int (fun _ _ => rfl)) (de_callB call_len ca_len (by rfl) z_len bt_len (da_cons (de_ix ix_seq od_ix (de_own 0 (pv 0)) de_int (fun _ _ => rfl)) da_nil)) (nomark _)) (dss_kill [3] (dss_cons (ds_set 3 sc__law_next.nd rfl (by first | exact .inl rfl | exact .inr rfl) (de_callB call_abs ca_abs (by rfl) z_abs bt_abs (da_cons (de_ix ix_seq od_ix (de_ix ix_seq od_ix (de_own 0 (pv 0)) de_int (fun _ _ => rfl)) (de_ix ix_seq od_ix (de_own 0 (pv 0)) de_int (fun _ _ => rfl)) (fun _ _ => rfl)) da_nil))) (dss_cons (ds_setix 0 (de_bin op_addD od_add (de_ix ix_seq od_ix (de_own 0 (pv 0)) de_int (fun _ _ => rfl)) de_int) (pv 0) de_int) (dss_cons (ds_if (dt_cmp op_ge od_ge (de_var 3 (pv 3)) (de_bin op_pow od_pow de_int de_int) (nomark _)) (dss_cons (ds_setix 0 (de_bin op_fdivW od_div (de_var 3 (pv 3)) (de_var 1 (pv 1))) (pv 0) de_int) (dss_one (ds_ret (de_bin op_mod od_mod (de_callTy call_int1 ca_int (by rfl) z_int bt_int (da_cons (de_var 3 (pv 3)) da_nil)) (de_var 1 (pv 1)))))) dss_nil) (dss_one (ds_setix 0 (de_bin op_mod od_mod (de_callTy call_int1 ca_int (by rfl) z_int bt_int (da_cons (de_bin op_addD od_add (de_bin op_addD od_add (de_bin op_mulD od_mul (de_ix ix_seq od_ix (de_own 0 (pv 0)) de_int (fun _ _ => rfl)) de_int) (de_var 3 (pv 3))) de_int) da_nil)) de_int) (pv 0) de_int)))))) (dss_one (ds_setix 0 (de_bin op_mod od_mod (de_callTy call_int1 ca_int (by rfl) z_int bt_int (da_cons (de_bin op_addD od_add (de_bin op_mulD od_mul (de_ix ix_seq od_ix (de_own 0 (pv 0)) de_int (fun _ _ => rfl)) de_int) de_int) da_nil)) de_int) (pv 0) de_int))) (dss_one (ds_ret (de_bin op_mod od_mod (de_bin op_fdivW od_div (de_callTy call_int1 ca_int (by rfl) z_int bt_int (da_cons (de_bin op_mod od_mod (de_bin op_mulD od_mul (de_ix ix_seq od_ix (de_own 0 (pv 0)) de_int (fun _ _ => rfl)) de_int) de_int) da_nil)) de_int) (de_var 1 (pv 1)))))))
def F__law_next : Fm := runF b__law_next 2 2
/-! ### _law_plan(draw, most, wide): slots 0 draw 1 most 2 wide 3 events 4 times 5 links 6 i 7 j 8 k 9 low 10 high -/
abbrev s__law_plan : Stmt := topS 16
theorem sc__law_plan : FnScope ["draw", "most", "wide", "events", "times", "links", "i", "j", "k", "low", "high"] ["draw", "most", "wide"] (defScope s__law_plan) := ⟨rfl, rfl, rfl, by decide +kernel, rfl, by decide +kernel, by decide +kernel⟩
def e1__law_plan : Of := (oE (eBin dSub (eF (oCallI F__law_next 0 0 (aCons (eOwn 0) (aCons (eBin dMul (eC (.int 2)) (eVar 2)) aNil)))) (eBin dDiv (eVar 2) (eC (.int 2)))))
def q2__law_plan : Sf := (sIf (tAnd' (tBl (eBin dNe (eVar 6) (eVar 7))) (tAnd' (tBl (eBin dEq (eF (oCallI F__law_next 0 0 (aCons (eOwn 0) (aCons (eC (.int 3)) aNil)))) (eC (.int 0)))) (tBl (eBin dLt (eCa (f1 lenD) (aCons (eOwn 5) aNil)) (eC (.int 20)))))) (sKl [9, 10] (sSeq (sAsg (eBin dAdd (eBin dSub (eBin dSub (eBin dIx (eVar 4) (eVar 7)) (eBin dIx (eVar 4) (eVar 6))) (eF (oCallI F__law_next 0 0 (aCons (eOwn 0) (aCons (eC (.int 4)) aNil))))) (eIf (tBl (eBin dEq (eF (oCallI F__law_next 0 0 (aCons (eOwn 0) (aCons (eC (.int 9)) aNil)))) (eC (.int 0)))) (eC (.int 2)) (eC (.int 0)))) (gNm 9)) (sSeq (sAsg (eIf (tBl (eBin dEq (eF (oCallI F__law_next 0 0 (aCons (eOwn 0) (aCons (eC (.int 3)) aNil)))) (eC (.int 0)))) (eC .non) (eBin dAdd (eVar 9) (eF (oCallI F__law_next 0 0 (aCons (eOwn 0) (aCons (eC (.int 5)) aNil)))))) (gNm 10)) (sApp 5 (eTup (aCons (eVar 6) (aCons (eVar 7) (aCons (eVar 9) (aCons (eVar 10) aNil))))))))) sNil)
def q3__law_plan : Sf := (sFor [7, 9, 10] (TL.iRng1 (aCons (eVar 3) aNil)) (gNm 7) q2__law_plan)
def b__law_plan : Sf := (sSeq (sAsg (eBin dAdd (eC (.int 1)) (eF (oCallI F__law_next 0 0 (aCons (eOwn 0) (aCons (eVar 1) aNil))))) (gNm 3)) (sSeq (sAsg (eBin dAdd (eF (oLst (aCons (eC (.int 0)) aNil))) (eF (oLc [8] (TL.iRng1 (aCons (eBin dSub (eVar 3) (eC (.int 1))) aNil)) (gNm 8) tYesF e1__law_plan))) (gNm 4)) (sSeq (sSetO 5 (oLst aNil)) (sSeq (sFor [6, 7, 9, 10] (TL.iRng1 (aCons (eVar 3) aNil)) (gNm 6) q3__law_plan) (sRet (eTup (aCons (eVar 3) (aCons (eCa (f1 tupleD) (aCons (eOwn 5) aNil)) aNil))))))))
abbrev sg__law_plan : Sg := ⟨[(.oL .sh), .sh, .sh], .sh⟩
abbrev ps__law_plan : List Str := ["draw", "most", "wide"]
theorem c__law_plan {P : Program} {w : World} {K : PySem.W.Frag} {mg : Str → Option Value} {base : Heap} {f : Addr} {fd : FuncData} {k : Nat} (D : Dfn K mg "_law_plan" s__law_plan ps__law_plan f fd) {f__law_next : Addr} {fd__law_next : FuncData} (c__law_next : Cal P w K mg base f__law_next fd__law_next "_law_next" k ps__law_next sg__law_next F__law_next) (z_range : mg "range" = none) (z_len : mg "len" = none) (z_tuple : mg "tuple" = none) :
    Cal P w K mg base f fd "_law_plan" (k + 1) ps__law_plan sg__law_plan (runF (b__law_plan) 3 8) := by
  unfold b__law_plan q3__law_plan q2__law_plan e1__law_plan
  exact cal_ok (sg := sg__law_plan) (τ' := [(.oL .sh), .no, .no, .no, .no, .no, .no, .no, .no, .no, .no]) D sc__law_plan ⟨[0], .sh, [(.oL .sh), .no, .no, .no, .no, .no, .no, .no, .no, .no, .no], [], []⟩ 8 rfl rfl rfl rfl rfl (by first | rfl | kernel_rfl) (.inl rfl) fun cdv A outer s H E hr => (dss_cons (ds_set 3 sc__law_plan.nd rfl (by first | exact .inl rfl | exact .inr rfl) (de_bin op_addD od_add de_int (de_F (do_fnI c__law_next hr 0 0 2 (by rfl) (dai_io 0 (pv 0) (dai_cons (de_var 1 (pv 1)) dai_nil)))))) (dss_cons (ds_set 4 sc__law_plan.nd rfl (by first | exact .inl rfl | exact .inr rfl) (de_bin op_addD od_add (de_F (do_lst (da_cons de_int da_nil))) (de_F (do_lc (own := [("k", 8)]) rfl sc__law_plan.nd (di_range1 (by rfl) z_range (da_cons (de_bin op_sub od_sub (de_var 3 (pv 3)) de_int) da_nil)) (blkOk_by (by kernel_rfl)) (fun _ _ _ _ _ => (dg_name 8 sc__law_plan.nd rfl (by first | exact .inl rfl | exact .inr rfl))) (fun _ _ _ _ _ => dts_nil) (fun _ _ _ _ _ => (do_E (de_bin op_sub od_sub (de_F (do_fnI c__law_next hr 0 0 2 (by rfl) (dai_io 0 (pv 0) (dai_cons (de_bin op_mulD od_mul de_int (de_var 2 (pv 2))) dai_nil)))) (de_bin op_fdivW od_div (de_var 2 (pv 2)) de_int)))))))) (dss_cons (ds_setO 5 sc__law_plan.nd rfl (by first | exact .inl rfl | exact .inr rfl) (do_lst da_nil)) (dss_cons (ds_for (tbk := [(.oL .sh), .sh, .sh, .sh, .sh, (.oL .sh), .no, .no, .no, .no, .no]) (tct := [(.oL .sh), .sh, .sh, .sh, .sh, (.oL .sh), .no, .no, .no, .no, .no]) [6, 7, 9, 10] PassesOwn.never rfl (di_range1 (by rfl) z_range (da_cons (de_var 3 (pv 3)) da_nil)) (dg_name 6 sc__law_plan.nd rfl (by first | exact .inl rfl | exact .inr rfl)) (dss_one (ds_for (tbk := [(.oL .sh), .sh, .sh, .sh, .sh, (.oL .sh), .sh, .no, .no, .no, .no]) (tct := [(.oL .sh), .sh, .sh, .sh, .sh, (.oL .sh), .sh, .no, .no, .no, .no]) [7, 9, 10] PassesOwn.never rfl (di_range1 (by rfl) z_range (da_cons (de_var 3 (pv 3)) da_nil)) (dg_name 7 sc__law_plan.nd rfl (by first | exact .inl rfl | exact .inr rfl)) (dss_one (ds_if (dt_w (dw_and (dt_cmp (op_neD (hu64 hr)) od_ne (de_var 6 (pv 6)) (de_var 7 (pv 7)) (nomark _)) (dw_and (dt_cmp (op_eqD (hu64 hr)) od_eq (de_F (do_fnI c__law_next hr 0 0 2 (by rfl) (dai_io 0 (pv 0) (dai_cons de_int dai_nil)))) de_int (nomark _)) (dw_and1 (dt_cmp op_lt od_lt (de_callB call_len ca_len (by rfl) z_len bt_len (da_cons (de_own 5 (pv 5)) da_nil)) de_int (nomark _)))))) (dss_kill [9, 10] (dss_cons (ds_set 9 sc__law_plan.nd rfl (by first | exact .inl rfl | exact .inr rfl) (de_bin op_addD od_add (de_bin op_sub od_sub (de_bin op_sub od_sub (de_ix ix_seq od_ix (de_var 4 (pv 4)) (de_var 7 (pv 7)) (fun _ _ => rfl)) (de_ix ix_seq od_ix (de_var 4 (pv 4)) (de_var 6 (pv 6)) (fun _ _ => rfl))) (de_F (do_fnI c__law_next hr 0 0 2 (by rfl) (dai_io 0 (pv 0) (dai_cons de_int dai_nil))))) (de_if (dt_cmp (op_eqD (hu64 hr)) od_eq (de_F (do_fnI c__law_next hr 0 0 2 (by rfl) (dai_io 0 (pv 0) (dai_cons de_int dai_nil)))) de_int (nomark _)) de_int de_int))) (dss_cons (ds_set 10 sc__law_plan.nd rfl (by first | exact .inl rfl | exact .inr rfl) (de_if (dt_cmp (op_eqD (hu64 hr)) od_eq (de_F (do_fnI c__law_next hr 0 0 2 (by rfl) (dai_io 0 (pv 0) (dai_cons de_int dai_nil)))) de_int (nomark _)) de_non (de_bin op_addD od_add (de_var 9 (pv 9)) (de_F (do_fnI c__law_next hr 0 0 2 (by rfl) (dai_io 0 (pv 0) (dai_cons de_int dai_nil))))))) (dss_one (ds_app 5 (pv 5) (de_tup (da_cons (de_var 6 (pv 6)) (da_cons (de_var 7 (pv 7)) (da_cons (de_var 9 (pv 9)) (da_cons (de_var 10 (pv 10)) da_nil)))))))))) dss_nil))))) (dss_one (ds_ret (de_tup (da_cons (de_var 3 (pv 3)) (da_cons (de_callTy call_tuple_of ca_tuple (by rfl) z_tuple bt_tuple (da_cons (de_own 5 (pv 5)) da_nil)) da_nil)))))))))
def F__law_plan : Fm := runF b__law_plan 3 8
/-! ### _law_same(one, other): slots 0 one 1 other -/
abbrev s__law_same : Stmt := topS 15
theorem sc__law_same : FnScope ["one", "other"] ["one", "other"] (defScope s__law_same) := ⟨rfl, rfl, rfl, by decide +kernel, rfl, by decide +kernel, by decide +kernel⟩
def b__law_same : Sf := (sRet (eBin dEqS (eCa (f1 reprD) (aCons (eVar 0) aNil)) (eCa (f1 reprD) (aCons (eVar 1) aNil))))
abbrev sg__law_same : Sg := ⟨[.sh, .sh], .sh⟩
abbrev ps__law_same : List Str := ["one", "other"]
theorem c__law_same {P : Program} {w : World} {K : PySem.W.Frag} {mg : Str → Option Value} {base : Heap} {f : Addr} {fd : FuncData} {k : Nat} (Dm : Dfn K mg "_law_same" s__law_same ps__law_same f fd) (z_repr : mg "repr" = none) :
    CalG P w K mg base f fd "_law_same" (k + 1) ps__law_same sg__law_same (runF (b__law_same) 2 0) := by
  unfold b__law_same 
  exact calG_ok (sg := sg__law_same) (τ' := [.no, .no]) Dm sc__law_same ⟨[], .sh, [.no, .no], [], []⟩ 0 2 rfl rfl rfl rfl rfl rfl (by first | rfl | kernel_rfl) (.inl rfl) fun cdv A outer s H E gd hr => (dss_one (ds_ret (de_cmp op_eq od_eqS (de_callB (call_reprG gd (hu65 hr)) ca_repr (by rfl) z_repr bt_repr (da_cons (de_var 0 (pv 0)) da_nil)) (de_callB (call_reprG gd (hu65 hr)) ca_repr (by rfl) z_repr bt_repr (da_cons (de_var 1 (pv 1)) da_nil)) (nomark _))))
def F__law_same : Fm := runF b__law_same 2 0
/-! ### _law_sets(things, most): slots 0 things 1 most 2 turn 3 rows 4 found 5 longer 6 row 7 thing -/
abbrev s__law_sets : Stmt := topS 21
theorem sc__law_sets : FnScope ["things", "most", "turn", "rows", "found", "longer", "row", "thing"] ["things", "most"] (defScope s__law_sets) := ⟨rfl, rfl, rfl, by decide +kernel, rfl, by decide +kernel, by decide +kernel⟩
def t1__law_sets : Tf := (tOr' (tBl (eBin dEq (eVar 6) (eTup aNil))) (tBl (eBin dGt (eVar 7) (eBin dIx (eVar 6) (eUn dNeg (eC (.int 1)))))))
def e2__law_sets : Of := (oE (eBin dAdd (eVar 6) (eTup (aCons (eVar 7) aNil))))
def q3__law_sets : Sf := (sAsg (eBin dAdd (eVar 5) (eF (oLc [7] (iSeq (eVar 0)) (gNm 7) t1__law_sets e2__law_sets))) (gNm 5))
def q4__law_sets : Sf := (sSeq (sAsg (eF (oLst aNil)) (gNm 5)) (sSeq (sFor [6] (iSeq (eVar 3)) (gNm 6) q3__law_sets) (sSeq (sAsg (eVar 5) (gNm 3)) (sAsg (eBin dAdd (eVar 4) (eVar 3)) (gNm 4)))))
def b__law_sets : Sf := (sSeq (sPar 3 4 (lCons (oE (eF (oLst (aCons (eTup aNil) aNil)))) (lCons (oE (eF (oLst (aCons (eTup aNil) aNil)))) lNil))) (sSeq (sFor [2, 5, 6] (TL.iRng1 (aCons (eVar 1) aNil)) (gNm 2) q4__law_sets) (sRet (eVar 4))))
abbrev sg__law_sets : Sg := ⟨[.sh, .sh], .sh⟩
abbrev ps__law_sets : List Str := ["things", "most"]
theorem c__law_sets {P : Program} {w : World} {K : PySem.W.Frag} {mg : Str → Option Value} {base : Heap} {f : Addr} {fd : FuncData} {k : Nat} (D : Dfn K mg "_law_sets" s__law_sets ps__law_sets f fd) (z_range : mg "range" = none) :
    Cal P w K mg base f fd "_law_sets" (k + 1) ps__law_sets sg__law_sets (runF (b__law_sets) 2 6) := by
  unfold b__law_sets q4__law_sets q3__law_sets e2__law_sets t1__law_sets
  exact cal_ok (sg := sg__law_sets) (τ' := [.no, .no, .no, .no, .no, .no, .no, .no]) D sc__law_sets ⟨[], .sh, [.no, .no, .no, .no, .no, .no, .no, .no], [], []⟩ 6 rfl rfl rfl rfl rfl (by first | rfl | kernel_rfl) (.inl rfl) fun cdv A outer s H E hr => (dss_cons (ds_par 3 4 rfl sc__law_sets.nd rfl rfl rfl rfl (dl_cons (do_E (de_F (do_lst (da_cons (de_tup da_nil) da_nil)))) (dl_cons (do_E (de_F (do_lst (da_cons (de_tup da_nil) da_nil)))) dl_nil)) rfl) (dss_cons (ds_for (tbk := [.sh, .sh, .no, .sh, .sh, .no, .no, .no]) (tct := [.sh, .sh, .no, .sh, .sh, .no, .no, .no]) [2, 5, 6] PassesOwn.never rfl (di_range1 (by rfl) z_range (da_cons (de_var 1 (pv 1)) da_nil)) (dg_name 2 sc__law_sets.nd rfl (by first | exact .inl rfl | exact .inr rfl)) (dss_cons (ds_set 5 sc__law_sets.nd rfl (by first | exact .inl rfl | exact .inr rfl) (de_F (do_lst da_nil))) (dss_cons (ds_for (tbk := [.sh, .sh, .sh, .sh, .sh, .sh, .no, .no]) (tct := [.sh, .sh, .sh, .sh, .sh, .sh, .no, .no]) [6] PassesOwn.never rfl (di_seq (de_var 3 (pv 3))) (dg_name 6 sc__law_sets.nd rfl (by first | exact .inl rfl | exact .inr rfl)) (dss_one (ds_set 5 sc__law_sets.nd rfl (by first | exact .inl rfl | exact .inr rfl) (de_bin op_addD od_add (de_var 5 (pv 5)) (de_F (do_lc (own := [("thing", 7)]) rfl sc__law_sets.nd (di_seq (de_var 0 (pv 0))) (blkOk_by (by kernel_rfl)) (fun _ _ _ _ _ => (dg_name 7 sc__law_sets.nd rfl (by first | exact .inl rfl | exact .inr rfl))) (fun _ _ _ _ _ => (dts_one (dt_w (dw_or (dt_cmp (op_eqD (hu64 hr)) od_eq (de_var 6 (pv 6)) (de_tup da_nil) (nomark _)) (dw_or1 (dt_cmp op_gt od_gt (de_var 7 (pv 7)) (de_ix ix_seq od_ix (de_var 6 (pv 6)) (de_un un_neg ud_neg de_int) (fun _ _ => rfl)) (nomark _))))))) (fun _ _ _ _ _ => (do_E (de_bin op_addD od_add (de_var 6 (pv 6)) (de_tup (da_cons (de_var 7 (pv 7)) da_nil))))))))))) (dss_cons (ds_set 3 sc__law_sets.nd rfl (by first | exact .inl rfl | exact .inr rfl) (de_var 5 (pv 5))) (dss_one (ds_set 4 sc__law_sets.nd rfl (by first | exact .inl rfl | exact .inr rfl) (de_bin op_addD od_add (de_var 4 (pv 4)) (de_var 3 (pv 3))))))))) (dss_one (ds_ret (de_var 4 (pv 4))))))
def F__law_sets : Fm := runF b__law_sets 2 6
/-! ### _law_reach(best, i, j): slots 0 best 1 i 2 j 3 low 4 high -/
abbrev s__law_reach : Stmt := topS 19
theorem sc__law_reach : FnScope ["best", "i", "j", "low", "high"] ["best", "i", "j"] (defScope s__law_reach) := ⟨rfl, rfl, rfl, by decide +kernel, rfl, by decide +kernel, by decide +kernel⟩
def b__law_reach : Sf := (sSeq (sPar 3 4 (lCons (oE (eBin dGet (eVar 0) (eTup (aCons (eVar 2) (aCons (eVar 1) aNil))))) (lCons (oE (eBin dGet (eVar 0) (eTup (aCons (eVar 1) (aCons (eVar 2) aNil))))) lNil))) (sRet (eTup (aCons (eIf (tBl (eBin dGt (eVar 3) (eBin dPow (eC (.int 10)) (eC (.int 8))))) (eC .non) (eBin dSub (eC (.int 0)) (eVar 3))) (aCons (eIf (tBl (eBin dGt (eVar 4) (eBin dPow (eC (.int 10)) (eC (.int 8))))) (eC .non) (eVar 4)) aNil)))))
abbrev sg__law_reach : Sg := ⟨[.sh, .sh, .sh], .sh⟩
abbrev ps__law_reach : List Str := ["best", "i", "j"]
theorem c__law_reach {P : Program} {w : World} {K : PySem.W.Frag} {mg : Str → Option Value} {base : Heap} {f : Addr} {fd : FuncData} {k : Nat} (D : Dfn K mg "_law_reach" s__law_reach ps__law_reach f fd) :
    Cal P w K mg base f fd "_law_reach" (k + 1) ps__law_reach sg__law_reach (runF (b__law_reach) 3 2) := by
  unfold b__law_reach 
  exact cal_ok (sg := sg__law_reach) (τ' := [.no, .no, .no, .no, .no]) D sc__law_reach ⟨[], .sh, [.no, .no, .no, .no, .no], [], []⟩ 2 rfl rfl rfl rfl rfl (by first | rfl | kernel_rfl) (.inl rfl) fun cdv A outer s H E hr => (dss_cons (ds_par 3 4 rfl sc__law_reach.nd rfl rfl rfl rfl (dl_cons (do_E (de_ix (ix_dct (hu1 hr)) od_getDct (de_var 0 (pv 0)) (de_tup (da_cons (de_var 2 (pv 2)) (da_cons (de_var 1 (pv 1)) da_nil))) (fun _ _ => rfl))) (dl_cons (do_E (de_ix (ix_dct (hu1 hr)) od_getDct (de_var 0 (pv 0)) (de_tup (da_cons (de_var 1 (pv 1)) (da_cons (de_var 2 (pv 2)) da_nil))) (fun _ _ => rfl))) dl_nil)) rfl) (dss_one (ds_ret (de_tup (da_cons (de_if (dt_cmp op_gt od_gt (de_var 3 (pv 3)) (de_bin op_pow od_pow de_int de_int) (nomark _)) de_non (de_bin op_sub od_sub de_int (de_var 3 (pv 3)))) (da_cons (de_if (dt_cmp op_gt od_gt (de_var 4 (pv 4)) (de_bin op_pow od_pow de_int de_int) (nomark _)) de_non (de_var 4 (pv 4))) da_nil))))))
def F__law_reach : Fm := runF b__law_reach 3 2
/-! ### _law_times(events, links): slots 0 events 1 links 2 event 3 fixed_v 4 times 5 time 6 low 7 high -/
abbrev s__law_times : Stmt := topS 20
theorem sc__law_times : FnScope ["events", "links", "event", "fixed_v", "times", "time", "low", "high"] ["events", "links"] (defScope s__law_times) := ⟨rfl, rfl, rfl, by decide +kernel, rfl, by decide +kernel, by decide +kernel⟩
def q1__law_times : Sf := (sSeq (sAsg (eF (oCall F__law_reach (aCons (eF (oCallB (.oT .sh) F__law_least (aCons (eVar 0) (aCons (eOwn 3) aNil)))) (aCons (eC (.int 0)) (aCons (eVar 2) aNil))))) (gTp (gsCons (gNm 6) (gsCons (gNm 7) gsNil)))) (sSeq (sAsg (eIf (tBl (eBin dIsNot (eVar 6) (eC .non))) (eVar 6) (eIf (tBl (eBin dIsNot (eVar 7) (eC .non))) (eVar 7) (eC (.int 0)))) (gNm 5)) (sSeq (sApp 4 (eVar 5)) (sApp 3 (eTup (aCons (eC (.int 0)) (aCons (eVar 2) (aCons (eVar 5) (aCons (eVar 5) aNil)))))))))
def b__law_times : Sf := (sSeq (sPar 3 4 (lCons (oCa (f1L listD) (aCons (eVar 1) aNil)) (lCons (oLst (aCons (eC (.int 0)) aNil)) lNil))) (sSeq (sFor [2, 5, 6, 7] (TL.iRng2 (aCons (eC (.int 1)) (aCons (eVar 0) aNil))) (gNm 2) q1__law_times) (sRet (eCa (f1 tupleD) (aCons (eOwn 4) aNil)))))
abbrev sg__law_times : Sg := ⟨[.sh, .sh], .sh⟩
abbrev ps__law_times : List Str := ["events", "links"]
theorem c__law_times {P : Program} {w : World} {K : PySem.W.Frag} {mg : Str → Option Value} {base : Heap} {f : Addr} {fd : FuncData} {k : Nat} (D : Dfn K mg "_law_times" s__law_times ps__law_times f fd) {f__law_reach : Addr} {fd__law_reach : FuncData} (c__law_reach : Cal P w K mg base f__law_reach fd__law_reach "_law_reach" k ps__law_reach sg__law_reach F__law_reach) {f__law_least : Addr} {fd__law_least : FuncData} (c__law_least : Cal P w K mg base f__law_least fd__law_least "_law_least" k ps__law_least sg__law_least F__law_least) (z_list : mg "list" = none) (z_range : mg "range" = none) (z_tuple : mg "tuple" = none) :
    Cal P w K mg base f fd "_law_times" (k + 1) ps__law_times sg__law_times (runF (b__law_times) 2 6) := by
  unfold b__law_times q1__law_times
  exact cal_ok (sg := sg__law_times) (τ' := [.no, .no, .no, .no, .no, .no, .no, .no]) D sc__law_times ⟨[], .sh, [.no, .no, .no, .no, .no, .no, .no, .no], [], []⟩ 6 rfl rfl rfl rfl rfl (by first | rfl | kernel_rfl) (.inl rfl) fun cdv A outer s H E hr => (dss_cons (ds_par 3 4 rfl sc__law_times.nd rfl rfl rfl rfl (dl_cons (do_callTy call_list_of co_list (by rfl) z_list bt_list (da_cons (de_var 1 (pv 1)) da_nil)) (dl_cons (do_lst (da_cons de_int da_nil)) dl_nil)) rfl) (dss_cons (ds_for (tbk := [.sh, .sh, .no, (.oL .sh), (.oL .sh), .no, .no, .no]) (tct := [.sh, .sh, .no, (.oL .sh), (.oL .sh), .no, .no, .no]) [2, 5, 6, 7] PassesOwn.never rfl (di_range2 (by rfl) z_range (da_cons de_int (da_cons (de_var 0 (pv 0)) da_nil))) (dg_name 2 sc__law_times.nd rfl (by first | exact .inl rfl | exact .inr rfl)) (dss_cons (ds_asg (de_F (do_fn c__law_reach hr 3 (by rfl) (da_cons (de_F (do_fnB (sg := sg__law_least) c__law_least hr 2 (by rfl) (da_cons (de_var 0 (pv 0)) (da_cons (de_own 3 (pv 3)) da_nil)))) (da_cons de_int (da_cons (de_var 2 (pv 2)) da_nil))))) (dg_tup rfl (dgs_cons (dg_name 6 sc__law_times.nd rfl (by first | exact .inl rfl | exact .inr rfl)) (dgs_cons (dg_name 7 sc__law_times.nd rfl (by first | exact .inl rfl | exact .inr rfl)) dgs_nil)) (gsCons_len (gsCons_len gsNil_len)))) (dss_cons (ds_set 5 sc__law_times.nd rfl (by first | exact .inl rfl | exact .inr rfl) (de_if (dt_cmp op_isNotD od_isNot (de_var 6 (pv 6)) de_non (nomark _)) (de_var 6 (pv 6)) (de_if (dt_cmp op_isNotD od_isNot (de_var 7 (pv 7)) de_non (nomark _)) (de_var 7 (pv 7)) de_int))) (dss_cons (ds_app 4 (pv 4) (de_var 5 (pv 5))) (dss_one (ds_app 3 (pv 3) (de_tup (da_cons de_int (da_cons (de_var 2 (pv 2)) (da_cons (de_var 5 (pv 5)) (da_cons (de_var 5 (pv 5)) da_nil))))))))))) (dss_one (ds_ret (de_callTy call_tuple_of ca_tuple (by rfl) z_tuple bt_tuple (da_cons (de_own 4 (pv 4)) da_nil))))))
def F__law_times : Fm := runF b__law_times 2 6
/-! ### Bounds_get(self, i, j): slots 0 self 1 i 2 j -/
abbrev s_Bounds_get : Stmt := inClass (topS 3) 2
theorem sc_Bounds_get : FnScope ["self", "i", "j"] ["self", "i", "j"] (defScope s_Bounds_get) := ⟨rfl, rfl, rfl, by decide +kernel, rfl, by decide +kernel, by decide +kernel⟩
def b_Bounds_get : Sf := (sRet (eFGet1 0 1 (eTup (aCons (eVar 1) (aCons (eVar 2) aNil)))))
abbrev sg_Bounds_get : Sg := ⟨[(.oO "Bounds" ["events", "least", "way", "ring"] [.sh, (.oT .sh), (.oT .sh), .sh]), .sh, .sh], .sh⟩
abbrev ps_Bounds_get : List Str := ["self", "i", "j"]
theorem c_Bounds_get {P : Program} {w : World} {K : PySem.W.Frag} {mg : Str → Option Value} {base : Heap} {f : Addr} {fd : FuncData} {k : Nat} {C_Bounds : Addr} (Dm : DfnM K "get" "Bounds.get" s_Bounds_get C_Bounds ps_Bounds_get [] f fd) (K_Bounds : KCl K mg "Bounds" C_Bounds) (n_Bounds_least : NoAttr K C_Bounds "least") :
    CalM P w K mg base f fd C_Bounds "get" (k + 1) ps_Bounds_get sg_Bounds_get (runF (b_Bounds_get) 3 0) := by
  unfold b_Bounds_get 
  exact calM_ok (sg := sg_Bounds_get) (τ' := [(.oO "Bounds" ["events", "least", "way", "ring"] [.sh, (.oT .sh), (.oT .sh), .sh]), .no, .no]) Dm sc_Bounds_get ⟨[0], .sh, [(.oO "Bounds" ["events", "least", "way", "ring"] [.sh, (.oT .sh), (.oT .sh), .sh]), .no, .no], [], []⟩ 0 rfl rfl rfl rfl rfl (by first | rfl | kernel_rfl) (.inl rfl) fun cdv A outer s H E hr => (dss_one (ds_ret (de_fget1 0 1 (hu1 hr) K_Bounds n_Bounds_least (pv 0) (de_tup (da_cons (de_var 1 (pv 1)) (da_cons (de_var 2 (pv 2)) da_nil))) ⟨rfl, rfl, rfl, rfl⟩)))
def F_Bounds_get : Fm := runF b_Bounds_get 3 0
/-! ### Bounds_add(self, i, j, most): slots 0 self 1 i 2 j 3 most 4 back 5 ahead 6 behind 7 a 8 first 9 b 10 last 11 total -/
abbrev s_Bounds_add : Stmt := inClass (topS 3) 1
theorem sc_Bounds_add : FnScope ["self", "i", "j", "most", "back", "ahead", "behind", "a", "first", "b", "last", "total"] ["self", "i", "j", "most"] (defScope s_Bounds_add) := ⟨rfl, rfl, rfl, by decide +kernel, rfl, by decide +kernel, by decide +kernel⟩
def t1_Bounds_add : Tf := (tBl (eFIn 0 1 dInD (eTup (aCons (eVar 7) (aCons (eVar 1) aNil)))))
def e2_Bounds_add : Of := (oE (eTup (aCons (eVar 7) (aCons (eFIx 0 1 dGet (eTup (aCons (eVar 7) (aCons (eVar 1) aNil)))) aNil))))
def t3_Bounds_add : Tf := (tBl (eFIn 0 1 dInD (eTup (aCons (eVar 2) (aCons (eVar 9) aNil)))))
def e4_Bounds_add : Of := (oE (eTup (aCons (eVar 9) (aCons (eFIx 0 1 dGet (eTup (aCons (eVar 2) (aCons (eVar 9) aNil)))) aNil))))
def q5_Bounds_add : Sf := (sSeq (sAsg (eBin dAdd (eBin dAdd (eVar 8) (eVar 3)) (eVar 10)) (gNm 11)) (sIf (tAnd' (tBl (eBin dNe (eVar 7) (eVar 9))) (tBl (eBin dLt (eVar 11) (eFGet2 0 1 (eTup (aCons (eVar 7) (aCons (eVar 9) aNil))) (eBin dAdd (eVar 11) (eC (.int 1))))))) (sSeq (sFPut 0 1 (eVar 11) (eTup (aCons (eVar 7) (aCons (eVar 9) aNil)))) (sFPut 0 2 (eBin dAdd (eFIx 0 2 dGet (eTup (aCons (eVar 7) (aCons (eVar 1) aNil)))) (eFIx 0 2 dGet (eTup (aCons (eVar 2) (aCons (eVar 9) aNil))))) (eTup (aCons (eVar 7) (aCons (eVar 9) aNil))))) sNil))
def q6_Bounds_add : Sf := (sFor [9, 10, 11] (iSeq (eVar 6)) (gTp (gsCons (gNm 9) (gsCons (gNm 10) gsNil))) q5_Bounds_add)
def b_Bounds_add : Sf := (sSeq (sIf (tBl (eBin dIsNot (eFld 0 3) (eC .non))) sRetN sNil) (sSeq (sAsg (eFGet1 0 1 (eTup (aCons (eVar 2) (aCons (eVar 1) aNil)))) (gNm 4)) (sSeq (sIf (tAnd' (tBl (eBin dIsNot (eVar 4) (eC .non))) (tBl (eBin dLt (eBin dAdd (eVar 4) (eVar 3)) (eC (.int 0))))) (sSeq (sFldSet 0 3 (eBin dAdd (eTup (aCons (eVar 1) aNil)) (eFIx 0 2 dGet (eTup (aCons (eVar 2) (aCons (eVar 1) aNil)))))) sRetN) sNil) (sSeq (sSetO 5 (oLc [7] (TL.iRng1 (aCons (eFld 0 0) aNil)) (gNm 7) t1_Bounds_add e2_Bounds_add)) (sSeq (sSetO 6 (oLc [9] (TL.iRng1 (aCons (eFld 0 0) aNil)) (gNm 9) t3_Bounds_add e4_Bounds_add)) (sFor [7, 8, 9, 10, 11] (iSeq (eVar 5)) (gTp (gsCons (gNm 7) (gsCons (gNm 8) gsNil))) q6_Bounds_add))))))
abbrev sg_Bounds_add : Sg := ⟨[(.oO "Bounds" ["events", "least", "way", "ring"] [.sh, (.oT .sh), (.oT .sh), .sh]), .sh, .sh, .sh], .sh⟩
abbrev ps_Bounds_add : List Str := ["self", "i", "j", "most"]
theorem c_Bounds_add {P : Program} {w : World} {K : PySem.W.Frag} {mg : Str → Option Value} {base : Heap} {f : Addr} {fd : FuncData} {k : Nat} {C_Bounds : Addr} (Dm : DfnM K "add" "Bounds.add" s_Bounds_add C_Bounds ps_Bounds_add [] f fd) (K_Bounds : KCl K mg "Bounds" C_Bounds) (n_Bounds_ring : NoAttr K C_Bounds "ring") (n_Bounds_least : NoAttr K C_Bounds "least") (n_Bounds_way : NoAttr K C_Bounds "way") (n_Bounds_events : NoAttr K C_Bounds "events") (z_range : mg "range" = none) :
    CalM P w K mg base f fd C_Bounds "add" (k + 1) ps_Bounds_add sg_Bounds_add (runF (b_Bounds_add) 4 8) := by
  unfold b_Bounds_add q6_Bounds_add q5_Bounds_add e4_Bounds_add t3_Bounds_add e2_Bounds_add t1_Bounds_add
  exact calM_ok (sg := sg_Bounds_add) (τ' := [(.oO "Bounds" ["events", "least", "way", "ring"] [.sh, (.oT .sh), (.oT .sh), .sh]), .sh, .sh, .sh, .sh, .sh, .sh, .no, .no, .no, .no, .no]) Dm sc_Bounds_add ⟨[0], .sh, [(.oO "Bounds" ["events", "least", "way", "ring"] [.sh, (.oT .sh), (.oT .sh), .sh]), .no, .no, .no, .no, .no, .no, .no, .no, .no, .no, .no], [], []⟩ 8 rfl rfl rfl rfl rfl (by first | rfl | kernel_rfl) (.inl rfl) fun cdv A outer s H E hr => (dss_cons (ds_if (dt_cmp op_isNotD od_isNot (de_fld 0 3 K_Bounds n_Bounds_ring (pv 0)) de_non (nomark _)) (dss_one ds_retN) dss_nil) (dss_cons (ds_set 4 sc_Bounds_add.nd rfl (by first | exact .inl rfl | exact .inr rfl) (de_fget1 0 1 (hu1 hr) K_Bounds n_Bounds_least (pv 0) (de_tup (da_cons (de_var 2 (pv 2)) (da_cons (de_var 1 (pv 1)) da_nil))) ⟨rfl, rfl, rfl, rfl⟩)) (dss_cons (ds_if (dt_w (dw_and (dt_cmp op_isNotD od_isNot (de_var 4 (pv 4)) de_non (nomark _)) (dw_and1 (dt_cmp op_lt od_lt (de_bin op_addD od_add (de_var 4 (pv 4)) (de_var 3 (pv 3))) de_int (nomark _))))) (dss_cons (ds_fldset 0 3 K_Bounds n_Bounds_ring (de_bin op_addD od_add (de_tup (da_cons (de_var 1 (pv 1)) da_nil)) (de_fix 0 2 (ix_dct (hu1 hr)) od_getDct K_Bounds n_Bounds_way (pv 0) (de_tup (da_cons (de_var 2 (pv 2)) (da_cons (de_var 1 (pv 1)) da_nil))) (fun _ _ => rfl))) (pv 0)) (dss_one ds_retN)) dss_nil) (dss_cons (ds_frzA (τ1 := [(.oO "Bounds" ["events", "least", "way", "ring"] [.sh, (.oT .sh), (.oT .sh), .sh]), .sh, .sh, .sh, .sh, (.oL .sh), .no, .no, .no, .no, .no, .no]) 5 (by first | exact (ds_setLc (own := [("a", 7)]) 5 rfl sc_Bounds_add.nd rfl rfl rfl (di_range1 (by rfl) z_range (da_cons (de_fld 0 0 K_Bounds n_Bounds_events (pv 0)) da_nil)) (blkOk_by (by kernel_rfl)) (fun _ _ _ _ _ => (dg_name 7 sc_Bounds_add.nd rfl (by first | exact .inl rfl | exact .inr rfl))) (fun _ _ _ _ _ => (dts_one (dt_fin 0 1 (op_inDct (hu1 hr)) od_inDct K_Bounds n_Bounds_least (pv 0) (de_tup (da_cons (de_var 7 (pv 7)) (da_cons (de_var 1 (pv 1)) da_nil))) (by rfl)))) (fun _ _ _ _ _ => (do_E (de_tup (da_cons (de_var 7 (pv 7)) (da_cons (de_fix 0 1 (ix_dct (hu1 hr)) od_getDct K_Bounds n_Bounds_least (pv 0) (de_tup (da_cons (de_var 7 (pv 7)) (da_cons (de_var 1 (pv 1)) da_nil))) (fun _ _ => rfl)) da_nil)))))) | exact (ds_setO 5 sc_Bounds_add.nd rfl (by first | exact .inl rfl | exact .inr rfl) (do_lc (own := [("a", 7)]) rfl sc_Bounds_add.nd (di_range1 (by rfl) z_range (da_cons (de_fld 0 0 K_Bounds n_Bounds_events (pv 0)) da_nil)) (blkOk_by (by kernel_rfl)) (fun _ _ _ _ _ => (dg_name 7 sc_Bounds_add.nd rfl (by first | exact .inl rfl | exact .inr rfl))) (fun _ _ _ _ _ => (dts_one (dt_fin 0 1 (op_inDct (hu1 hr)) od_inDct K_Bounds n_Bounds_least (pv 0) (de_tup (da_cons (de_var 7 (pv 7)) (da_cons (de_var 1 (pv 1)) da_nil))) (by rfl)))) (fun _ _ _ _ _ => (do_E (de_tup (da_cons (de_var 7 (pv 7)) (da_cons (de_fix 0 1 (ix_dct (hu1 hr)) od_getDct K_Bounds n_Bounds_least (pv 0) (de_tup (da_cons (de_var 7 (pv 7)) (da_cons (de_var 1 (pv 1)) da_nil))) (fun _ _ => rfl)) da_nil))))))))) (dss_cons (ds_frzA (τ1 := [(.oO "Bounds" ["events", "least", "way", "ring"] [.sh, (.oT .sh), (.oT .sh), .sh]), .sh, .sh, .sh, .sh, .sh, (.oL .sh), .no, .no, .no, .no, .no]) 6 (by first | exact (ds_setLc (own := [("b", 9)]) 6 rfl sc_Bounds_add.nd rfl rfl rfl (di_range1 (by rfl) z_range (da_cons (de_fld 0 0 K_Bounds n_Bounds_events (pv 0)) da_nil)) (blkOk_by (by kernel_rfl)) (fun _ _ _ _ _ => (dg_name 9 sc_Bounds_add.nd rfl (by first | exact .inl rfl | exact .inr rfl))) (fun _ _ _ _ _ => (dts_one (dt_fin 0 1 (op_inDct (hu1 hr)) od_inDct K_Bounds n_Bounds_least (pv 0) (de_tup (da_cons (de_var 2 (pv 2)) (da_cons (de_var 9 (pv 9)) da_nil))) (by rfl)))) (fun _ _ _ _ _ => (do_E (de_tup (da_cons (de_var 9 (pv 9)) (da_cons (de_fix 0 1 (ix_dct (hu1 hr)) od_getDct K_Bounds n_Bounds_least (pv 0) (de_tup (da_cons (de_var 2 (pv 2)) (da_cons (de_var 9 (pv 9)) da_nil))) (fun _ _ => rfl)) da_nil)))))) | exact (ds_setO 6 sc_Bounds_add.nd rfl (by first | exact .inl rfl | exact .inr rfl) (do_lc (own := [("b", 9)]) rfl sc_Bounds_add.nd (di_range1 (by rfl) z_range (da_cons (de_fld 0 0 K_Bounds n_Bounds_events (pv 0)) da_nil)) (blkOk_by (by kernel_rfl)) (fun _ _ _ _ _ => (dg_name 9 sc_Bounds_add.nd rfl (by first | exact .inl rfl | exact .inr rfl))) (fun _ _ _ _ _ => (dts_one (dt_fin 0 1 (op_inDct (hu1 hr)) od_inDct K_Bounds n_Bounds_least (pv 0) (de_tup (da_cons (de_var 2 (pv 2)) (da_cons (de_var 9 (pv 9)) da_nil))) (by rfl)))) (fun _ _ _ _ _ => (do_E (de_tup (da_cons (de_var 9 (pv 9)) (da_cons (de_fix 0 1 (ix_dct (hu1 hr)) od_getDct K_Bounds n_Bounds_least (pv 0) (de_tup (da_cons (de_var 2 (pv 2)) (da_cons (de_var 9 (pv 9)) da_nil))) (fun _ _ => rfl)) da_nil))))))))) (dss_one (ds_for (tbk := [(.oO "Bounds" ["events", "least", "way", "ring"] [.sh, (.oT .sh), (.oT .sh), .sh]), .sh, .sh, .sh, .sh, .sh, .sh, .no, .no, .no, .no, .no]) (tct := [(.oO "Bounds" ["events", "least", "way", "ring"] [.sh, (.oT .sh), (.oT .sh), .sh]), .sh, .sh, .sh, .sh, .sh, .sh, .no, .no, .no, .no, .no]) [7, 8, 9, 10, 11] PassesOwn.never rfl (di_seq (de_var 5 (pv 5))) (dg_tup rfl (dgs_cons (dg_name 7 sc_Bounds_add.nd rfl (by first | exact .inl rfl | exact .inr rfl)) (dgs_cons (dg_name 8 sc_Bounds_add.nd rfl (by first | exact .inl rfl | exact .inr rfl)) dgs_nil)) (gsCons_len (gsCons_len gsNil_len))) (dss_one (ds_for (tbk := [(.oO "Bounds" ["events", "least", "way", "ring"] [.sh, (.oT .sh), (.oT .sh), .sh]), .sh, .sh, .sh, .sh, .sh, .sh, .sh, .sh, .no, .no, .no]) (tct := [(.oO "Bounds" ["events", "least", "way", "ring"] [.sh, (.oT .sh), (.oT .sh), .sh]), .sh, .sh, .sh, .sh, .sh, .sh, .sh, .sh, .no, .no, .no]) [9, 10, 11] PassesOwn.never rfl (di_seq (de_var 6 (pv 6))) (dg_tup rfl (dgs_cons (dg_name 9 sc_Bounds_add.nd rfl (by first | exact .inl rfl | exact .inr rfl)) (dgs_cons (dg_name 10 sc_Bounds_add.nd rfl (by first | exact .inl rfl | exact .inr rfl)) dgs_nil)) (gsCons_len (gsCons_len gsNil_len))) (dss_cons (ds_set 11 sc_Bounds_add.nd rfl (by first | exact .inl rfl | exact .inr rfl) (de_bin op_addD od_add (de_bin op_addD od_add (de_var 8 (pv 8)) (de_var 3 (pv 3))) (de_var 10 (pv 10)))) (dss_one (ds_if (dt_w (dw_and (dt_cmp (op_neD (hu64 hr)) od_ne (de_var 7 (pv 7)) (de_var 9 (pv 9)) (nomark _)) (dw_and1 (dt_cmp op_lt od_lt (de_var 11 (pv 11)) (de_fget2 0 1 (hu1 hr) K_Bounds n_Bounds_least (pv 0) (de_tup (da_cons (de_var 7 (pv 7)) (da_cons (de_var 9 (pv 9)) da_nil))) (de_bin op_addD od_add (de_var 11 (pv 11)) de_int) ⟨rfl, rfl, rfl, rfl⟩) (nomark _))))) (dss_cons (ds_fputT 0 1 (hu1 hr) K_Bounds n_Bounds_least (de_var 11 (pv 11)) (pv 0) (de_tup (da_cons (de_var 7 (pv 7)) (da_cons (de_var 9 (pv 9)) da_nil)))) (dss_one (ds_fputT 0 2 (hu1 hr) K_Bounds n_Bounds_way (de_bin op_addD od_add (de_fix 0 2 (ix_dct (hu1 hr)) od_getDct K_Bounds n_Bounds_way (pv 0) (de_tup (da_cons (de_var 7 (pv 7)) (da_cons (de_var 1 (pv 1)) da_nil))) (fun _ _ => rfl)) (de_fix 0 2 (ix_dct (hu1 hr)) od_getDct K_Bounds n_Bounds_way (pv 0) (de_tup (da_cons (de_var 2 (pv 2)) (da_cons (de_var 9 (pv 9)) da_nil))) (fun _ _ => rfl))) (pv 0) (de_tup (da_cons (de_var 7 (pv 7)) (da_cons (de_var 9 (pv 9)) da_nil)))))) dss_nil))))))))))))
def F_Bounds_add : Fm := runF b_Bounds_add 4 8
/-! ### Bounds_init(self, events, steps): slots 0 self 1 events 2 steps 3 i 4 j 5 most 6 event -/
abbrev s_Bounds_init : Stmt := inClass (topS 3) 0
theorem sc_Bounds_init : FnScope ["self", "events", "steps", "i", "j", "most", "event"] ["self", "events", "steps"] (defScope s_Bounds_init) := ⟨rfl, rfl, rfl, by decide +kernel, rfl, by decide +kernel, by decide +kernel⟩
def e1_Bounds_init : Ef := (eTup (aCons (eVar 6) (aCons (eVar 6) aNil)))
def e2_Bounds_init : Ef := (eC (.int 0))
def e3_Bounds_init : Ef := (eTup (aCons (eVar 6) (aCons (eVar 6) aNil)))
def e4_Bounds_init : Ef := (eTup (aCons (eVar 6) aNil))
def q5_Bounds_init : Sf := (sDrop (eF (oCallI F_Bounds_add 0 0 (aCons (eOwn 0) (aCons (eVar 3) (aCons (eVar 4) (aCons (eVar 5) aNil)))))))
def b_Bounds_init : Sf := (sSeq (sFldNew 0 "events" (oE (eVar 1))) (sSeq (sFldNew 0 "least" (oDcT [6] (TL.iRng1 (aCons (eVar 1) aNil)) (gNm 6) tYesF e1_Bounds_init e2_Bounds_init)) (sSeq (sFldNew 0 "way" (oDcT [6] (TL.iRng1 (aCons (eVar 1) aNil)) (gNm 6) tYesF e3_Bounds_init e4_Bounds_init)) (sSeq (sFldNew 0 "ring" (oE (eC .non))) (sFor [3, 4, 5] (iSeq (eVar 2)) (gTp (gsCons (gNm 3) (gsCons (gNm 4) (gsCons (gNm 5) gsNil)))) q5_Bounds_init)))))
abbrev ps_Bounds_init : List Str := ["self", "events", "steps"]
theorem c_Bounds_init {P : Program} {w : World} {K : PySem.W.Frag} {mg : Str → Option Value} {base : Heap} {f : Addr} {fd : FuncData} {k : Nat} {C_Bounds : Addr} (Dm : DfnM K "__init__" "Bounds.__init__" s_Bounds_init C_Bounds ps_Bounds_init [] f fd) (hmk : PySem.W.makesIn K C_Bounds = true) (hkc : PySem.W.keepIn K (.ref C_Bounds) = true) {f_Bounds_add : Addr} {fd_Bounds_add : FuncData} (c_Bounds_add : CalM P w K mg base f_Bounds_add fd_Bounds_add C_Bounds "add" k ps_Bounds_add sg_Bounds_add F_Bounds_add) (K_Bounds : KCl K mg "Bounds" C_Bounds) (n_Bounds_events : NoAttr K C_Bounds "events") (n_Bounds_least : NoAttr K C_Bounds "least") (n_Bounds_way : NoAttr K C_Bounds "way") (n_Bounds_ring : NoAttr K C_Bounds "ring") (z_range : mg "range" = none) :
    CalI P w K mg base f fd "Bounds" C_Bounds (k + 1) ps_Bounds_init 2 ["events", "least", "way", "ring"] [.sh, (.oT .sh), (.oT .sh), .sh] [] (runF (b_Bounds_init) 3 4) := by
  unfold b_Bounds_init q5_Bounds_init e4_Bounds_init e3_Bounds_init e2_Bounds_init e1_Bounds_init
  exact calI_ok (τ' := [(.oO "Bounds" ["events", "least", "way", "ring"] [.sh, (.oT .sh), (.oT .sh), .sh]), .sh, .sh, .no, .no, .no, .no]) Dm hmk hkc sc_Bounds_init ⟨[0], .sh, [(.oO "Bounds" ["events", "least", "way", "ring"] [.sh, (.oT .sh), (.oT .sh), .sh]), .no, .no, .no, .no, .no, .no], [], []⟩ 4 rfl rfl rfl rfl rfl (by kernel_rfl) fun cdv A outer s H E hr => (dss_cons (ds_fldnew (ns := []) (ts := []) 0 K_Bounds n_Bounds_events (do_E (de_var 1 (pv 1))) (pv 0)) (dss_cons (ds_fldnew (ns := ["events"]) (ts := [.sh]) 0 K_Bounds n_Bounds_least (do_dcT (own := [("event", 6)]) (hu1 hr) rfl sc_Bounds_init.nd (di_range1 (by rfl) z_range (da_cons (de_var 1 (pv 1)) da_nil)) (blkOk_by (by kernel_rfl)) (fun _ _ _ _ _ => (dg_name 6 sc_Bounds_init.nd rfl (by first | exact .inl rfl | exact .inr rfl))) (fun _ _ _ _ _ => dts_nil) (fun _ _ _ _ _ => (de_tup (da_cons (de_var 6 (pv 6)) (da_cons (de_var 6 (pv 6)) da_nil)))) (fun _ _ _ _ _ => de_int)) (pv 0)) (dss_cons (ds_fldnew (ns := ["events", "least"]) (ts := [.sh, (.oT .sh)]) 0 K_Bounds n_Bounds_way (do_dcT (own := [("event", 6)]) (hu1 hr) rfl sc_Bounds_init.nd (di_range1 (by rfl) z_range (da_cons (de_var 1 (pv 1)) da_nil)) (blkOk_by (by kernel_rfl)) (fun _ _ _ _ _ => (dg_name 6 sc_Bounds_init.nd rfl (by first | exact .inl rfl | exact .inr rfl))) (fun _ _ _ _ _ => dts_nil) (fun _ _ _ _ _ => (de_tup (da_cons (de_var 6 (pv 6)) (da_cons (de_var 6 (pv 6)) da_nil)))) (fun _ _ _ _ _ => (de_tup (da_cons (de_var 6 (pv 6)) da_nil)))) (pv 0)) (dss_cons (ds_fldnew (ns := ["events", "least", "way"]) (ts := [.sh, (.oT .sh), (.oT .sh)]) 0 K_Bounds n_Bounds_ring (do_E de_non) (pv 0)) (dss_one (ds_for (tbk := [(.oO "Bounds" ["events", "least", "way", "ring"] [.sh, (.oT .sh), (.oT .sh), .sh]), .sh, .sh, .no, .no, .no, .no]) (tct := [(.oO "Bounds" ["events", "least", "way", "ring"] [.sh, (.oT .sh), (.oT .sh), .sh]), .sh, .sh, .no, .no, .no, .no]) [3, 4, 5] PassesOwn.never rfl (di_seq (de_var 2 (pv 2))) (dg_tup rfl (dgs_cons (dg_name 3 sc_Bounds_init.nd rfl (by first | exact .inl rfl | exact .inr rfl)) (dgs_cons (dg_name 4 sc_Bounds_init.nd rfl (by first | exact .inl rfl | exact .inr rfl)) (dgs_cons (dg_name 5 sc_Bounds_init.nd rfl (by first | exact .inl rfl | exact .inr rfl)) dgs_nil))) (gsCons_len (gsCons_len (gsCons_len gsNil_len)))) (dss_one (ds_drop (de_F (do_meI c_Bounds_add K_Bounds hr 0 4 (pv 0) (dai_cons (de_var 3 (pv 3)) (dai_cons (de_var 4 (pv 4)) (dai_cons (de_var 5 (pv 5)) dai_nil)))))))))))))
def F_Bounds_init : Fm := runF b_Bounds_init 3 4
/-! ### steps_of(links): slots 0 links 1 found 2 i 3 j 4 low 5 high -/
abbrev s_steps_of : Stmt := topS 2
theorem sc_steps_of : FnScope ["links", "found", "i", "j", "low", "high"] ["links"] (defScope s_steps_of) := ⟨rfl, rfl, rfl, by decide +kernel, rfl, by decide +kernel, by decide +kernel⟩
def q1_steps_of : Sf := (sSeq (sApp 1 (eTup (aCons (eVar 3) (aCons (eVar 2) (aCons (eUn dNeg (eVar 4)) aNil))))) (sIf (tBl (eBin dIsNot (eVar 5) (eC .non))) (sApp 1 (eTup (aCons (eVar 2) (aCons (eVar 3) (aCons (eVar 5) aNil))))) sNil))
def b_steps_of : Sf := (sSeq (sSetO 1 (oLst aNil)) (sSeq (sFor [2, 3, 4, 5] (iSeq (eVar 0)) (gTp (gsCons (gNm 2) (gsCons (gNm 3) (gsCons (gNm 4) (gsCons (gNm 5) gsNil))))) q1_steps_of) (sRet (eVar 1))))
abbrev sg_steps_of : Sg := ⟨[.sh], .sh⟩
abbrev ps_steps_of : List Str := ["links"]
theorem c_steps_of {P : Program} {w : World} {K : PySem.W.Frag} {mg : Str → Option Value} {base : Heap} {f : Addr} {fd : FuncData} {k : Nat} (D : Dfn K mg "steps_of" s_steps_of ps_steps_of f fd) :
    Cal P w K mg base f fd "steps_of" (k + 1) ps_steps_of sg_steps_of (runF (b_steps_of) 1 5) := by
  unfold b_steps_of q1_steps_of
  exact cal_ok (sg := sg_steps_of) (τ' := [.no, .no, .no, .no, .no, .no]) D sc_steps_of ⟨[], .sh, [.no, .no, .no, .no, .no, .no], [], []⟩ 5 rfl rfl rfl rfl rfl (by first | rfl | kernel_rfl) (.inl rfl) fun cdv A outer s H E hr => (dss_cons (ds_setO 1 sc_steps_of.nd rfl (by first | exact .inl rfl | exact .inr rfl) (do_lst da_nil)) (dss_cons (ds_for (tbk := [.sh, (.oL .sh), .no, .no, .no, .no]) (tct := [.sh, (.oL .sh), .no, .no, .no, .no]) [2, 3, 4, 5] PassesOwn.never rfl (di_seq (de_var 0 (pv 0))) (dg_tup rfl (dgs_cons (dg_name 2 sc_steps_of.nd rfl (by first | exact .inl rfl | exact .inr rfl)) (dgs_cons (dg_name 3 sc_steps_of.nd rfl (by first | exact .inl rfl | exact .inr rfl)) (dgs_cons (dg_name 4 sc_steps_of.nd rfl (by first | exact .inl rfl | exact .inr rfl)) (dgs_cons (dg_name 5 sc_steps_of.nd rfl (by first | exact .inl rfl | exact .inr rfl)) dgs_nil)))) (gsCons_len (gsCons_len (gsCons_len (gsCons_len gsNil_len))))) (dss_cons (ds_app 1 (pv 1) (de_tup (da_cons (de_var 3 (pv 3)) (da_cons (de_var 2 (pv 2)) (da_cons (de_un un_neg ud_neg (de_var 4 (pv 4))) da_nil))))) (dss_one (ds_if (dt_cmp op_isNotD od_isNot (de_var 5 (pv 5)) de_non (nomark _)) (dss_one (ds_app 1 (pv 1) (de_tup (da_cons (de_var 2 (pv 2)) (da_cons (de_var 3 (pv 3)) (da_cons (de_var 5 (pv 5)) da_nil)))))) dss_nil)))) (dss_frz 1 (dss_one (ds_ret (de_var 1 (pv 1)))))))
def F_steps_of : Fm := runF b_steps_of 1 5
/-! ### have_times(plans): slots 0 plans 1 steps 2 plan -/
abbrev s_have_times : Stmt := topS 9
theorem sc_have_times : FnScope ["plans", "steps", "plan"] ["plans"] (defScope s_have_times) := ⟨rfl, rfl, rfl, by decide +kernel, rfl, by decide +kernel, by decide +kernel⟩
def q1_have_times : Sf := (sExt 1 (eF (oCall F_steps_of (aCons (eBin dIx (eVar 2) (eC (.int 1))) aNil))))
def e2_have_times : Of := (oE (eBin dIx (eVar 2) (eC (.int 0))))
def b_have_times : Sf := (sSeq (sSetO 1 (oLst aNil)) (sSeq (sFor [2] (iSeq (eVar 0)) (gNm 2) q1_have_times) (sRet (eBin dIs (eAt "Bounds" "ring" (eF (oMake "Bounds" F_Bounds_init [] (aCons (eCa (f1 maxD) (aCons (eF (oLc [2] (iSeq (eVar 0)) (gNm 2) tYesF e2_have_times)) aNil)) (aCons (eVar 1) aNil))))) (eC .non)))))
abbrev sg_have_times : Sg := ⟨[.sh], .sh⟩
abbrev ps_have_times : List Str := ["plans"]
theorem c_have_times {P : Program} {w : World} {K : PySem.W.Frag} {mg : Str → Option Value} {base : Heap} {f : Addr} {fd : FuncData} {k : Nat} {C_Bounds : Addr} (D : Dfn K mg "have_times" s_have_times ps_have_times f fd) {f_steps_of : Addr} {fd_steps_of : FuncData} (c_steps_of : Cal P w K mg base f_steps_of fd_steps_of "steps_of" k ps_steps_of sg_steps_of F_steps_of) {f_Bounds_init : Addr} {fd_Bounds_init : FuncData} {j_Bounds : Nat} (c_Bounds_init : CalI P w K mg base f_Bounds_init fd_Bounds_init "Bounds" C_Bounds j_Bounds ps_Bounds_init 2 ["events", "least", "way", "ring"] [.sh, (.oT .sh), (.oT .sh), .sh] [] F_Bounds_init) (hj_Bounds : j_Bounds + 1 ≤ k) (K_Bounds : KCl K mg "Bounds" C_Bounds) (n_Bounds_ring : NoAttr K C_Bounds "ring") (z_max : mg "max" = none) :
    Cal P w K mg base f fd "have_times" (k + 1) ps_have_times sg_have_times (runF (b_have_times) 1 2) := by
  unfold b_have_times e2_have_times q1_have_times
  exact cal_ok (sg := sg_have_times) (τ' := [.no, .no, .no]) D sc_have_times ⟨[], .sh, [.no, .no, .no], [], []⟩ 2 rfl rfl rfl rfl rfl (by first | rfl | kernel_rfl) (.inl rfl) fun cdv A outer s H E hr => (dss_cons (ds_setO 1 sc_have_times.nd rfl (by first | exact .inl rfl | exact .inr rfl) (do_lst da_nil)) (dss_cons (ds_for (tbk := [.sh, (.oL .sh), .no]) (tct := [.sh, (.oL .sh), .no]) [2] PassesOwn.never rfl (di_seq (de_var 0 (pv 0))) (dg_name 2 sc_have_times.nd rfl (by first | exact .inl rfl | exact .inr rfl)) (dss_one (ds_ext 1 (pv 1) (de_F (do_fn c_steps_of hr 1 (by rfl) (da_cons (de_ix ix_seq od_ix (de_var 2 (pv 2)) de_int (fun _ _ => rfl)) da_nil)))))) (dss_frz 1 (dss_one (ds_ret (de_cmp op_isD od_is (de_at K_Bounds n_Bounds_ring (de_F (do_make K_Bounds c_Bounds_init (hr.mono hj_Bounds) (by rfl) (da_cons (de_callB (cr_max rfl) ca_max (by rfl) z_max bt_max (da_cons (de_F (do_lc (own := [("plan", 2)]) rfl sc_have_times.nd (di_seq (de_var 0 (pv 0))) (blkOk_by (by kernel_rfl)) (fun _ _ _ _ _ => (dg_name 2 sc_have_times.nd rfl (by first | exact .inl rfl | exact .inr rfl))) (fun _ _ _ _ _ => dts_nil) (fun _ _ _ _ _ => (do_E (de_ix ix_seq od_ix (de_var 2 (pv 2)) de_int (fun _ _ => rfl)))))) da_nil)) (da_cons (de_var 1 (pv 1)) da_nil)) .nil (fun _ => .nil)))) de_non (nomark _)))))))
def F_have_times : Fm := runF b_have_times 1 2
/-! ### agree(one, other): slots 0 one 1 other -/
abbrev s_agree : Stmt := topS 10
theorem sc_agree : FnScope ["one", "other"] ["one", "other"] (defScope s_agree) := ⟨rfl, rfl, rfl, by decide +kernel, rfl, by decide +kernel, by decide +kernel⟩
def b_agree : Sf := (sRet (eF (oCall F_have_times (aCons (eF (oLst (aCons (eVar 0) (aCons (eVar 1) aNil)))) aNil))))
abbrev sg_agree : Sg := ⟨[.sh, .sh], .sh⟩
abbrev ps_agree : List Str := ["one", "other"]
theorem c_agree {P : Program} {w : World} {K : PySem.W.Frag} {mg : Str → Option Value} {base : Heap} {f : Addr} {fd : FuncData} {k : Nat} (D : Dfn K mg "agree" s_agree ps_agree f fd) {f_have_times : Addr} {fd_have_times : FuncData} (c_have_times : Cal P w K mg base f_have_times fd_have_times "have_times" k ps_have_times sg_have_times F_have_times) :
    Cal P w K mg base f fd "agree" (k + 1) ps_agree sg_agree (runF (b_agree) 2 0) := by
  unfold b_agree 
  exact cal_ok (sg := sg_agree) (τ' := [.no, .no]) D sc_agree ⟨[], .sh, [.no, .no], [], []⟩ 0 rfl rfl rfl rfl rfl (by first | rfl | kernel_rfl) (.inl rfl) fun cdv A outer s H E hr => (dss_one (ds_ret (de_F (do_fn c_have_times hr 1 (by rfl) (da_cons (de_F (do_lst (da_cons (de_var 0 (pv 0)) (da_cons (de_var 1 (pv 1)) da_nil)))) da_nil)))))
def F_agree : Fm := runF b_agree 2 0
/-! ### first_quarrel(plans): slots 0 plans 1 many 2 places 3 place -/
abbrev s_first_quarrel : Stmt := topS 11
theorem sc_first_quarrel : FnScope ["plans", "many", "places", "place"] ["plans"] (defScope s_first_quarrel) := ⟨rfl, rfl, rfl, by decide +kernel, rfl, by decide +kernel, by decide +kernel⟩
def e1_first_quarrel : Of := (oE (eBin dIx (eVar 0) (eVar 3)))
def q2_first_quarrel : Sf := (sIf (tNot' (tB (eF (oCall F_have_times (aCons (eF (oLc [3] (iSeq (eVar 2)) (gNm 3) tYesF e1_first_quarrel)) aNil))))) (sRet (eVar 2)) sNil)
def q3_first_quarrel : Sf := (sFor [2] (iCmbR (eCa (f1 lenD) (aCons (eVar 0) aNil)) (eVar 1)) (gNm 2) q2_first_quarrel)
def b_first_quarrel : Sf := (sSeq (sFor [1, 2] (TL.iRng2 (aCons (eC (.int 1)) (aCons (eBin dAdd (eCa (f1 lenD) (aCons (eVar 0) aNil)) (eC (.int 1))) aNil))) (gNm 1) q3_first_quarrel) (sRet (eC .non)))
abbrev sg_first_quarrel : Sg := ⟨[.sh], .sh⟩
abbrev ps_first_quarrel : List Str := ["plans"]
theorem c_first_quarrel {P : Program} {w : World} {K : PySem.W.Frag} {mg : Str → Option Value} {base : Heap} {f : Addr} {fd : FuncData} {k : Nat} (D : Dfn K mg "first_quarrel" s_first_quarrel ps_first_quarrel f fd) {f_have_times : Addr} {fd_have_times : FuncData} (c_have_times : Cal P w K mg base f_have_times fd_have_times "have_times" k ps_have_times sg_have_times F_have_times) (z_len : mg "len" = none) (z_range : mg "range" = none) (g_combinations : mg "combinations" = some (.type "itertools.combinations")) :
    Cal P w K mg base f fd "first_quarrel" (k + 1) ps_first_quarrel sg_first_quarrel (runF (b_first_quarrel) 1 3) := by
  unfold b_first_quarrel q3_first_quarrel q2_first_quarrel e1_first_quarrel
  exact cal_ok (sg := sg_first_quarrel) (τ' := [.no, .no, .no, .no]) D sc_first_quarrel ⟨[], .sh, [.no, .no, .no, .no], [], []⟩ 3 rfl rfl rfl rfl rfl (by first | rfl | kernel_rfl) (.inl rfl) fun cdv A outer s H E hr => (dss_cons (ds_for (tbk := [.sh, .no, .no, .no]) (tct := [.sh, .no, .no, .no]) [1, 2] PassesOwn.never rfl (di_range2 (by rfl) z_range (da_cons de_int (da_cons (de_bin op_addD od_add (de_callB call_len ca_len (by rfl) z_len bt_len (da_cons (de_var 0 (pv 0)) da_nil)) de_int) da_nil))) (dg_name 1 sc_first_quarrel.nd rfl (by first | exact .inl rfl | exact .inr rfl)) (dss_one (ds_for (tbk := [.sh, .sh, .no, .no]) (tct := [.sh, .sh, .no, .no]) [2] PassesOwn.never rfl (di_cmbR rfl (by rfl) g_combinations (by rfl) z_range (de_callB call_len ca_len (by rfl) z_len bt_len (da_cons (de_var 0 (pv 0)) da_nil)) (de_var 1 (pv 1))) (dg_name 2 sc_first_quarrel.nd rfl (by first | exact .inl rfl | exact .inr rfl)) (dss_one (ds_if (dt_not (dt_truth (de_F (do_fn c_have_times hr 1 (by rfl) (da_cons (de_F (do_lc (own := [("place", 3)]) rfl sc_first_quarrel.nd (di_seq (de_var 2 (pv 2))) (blkOk_by (by kernel_rfl)) (fun _ _ _ _ _ => (dg_name 3 sc_first_quarrel.nd rfl (by first | exact .inl rfl | exact .inr rfl))) (fun _ _ _ _ _ => dts_nil) (fun _ _ _ _ _ => (do_E (de_ix ix_seq od_ix (de_var 0 (pv 0)) (de_var 3 (pv 3)) (fun _ _ => rfl)))))) da_nil))))) (dss_one (ds_ret (de_var 2 (pv 2)))) dss_nil))))) (dss_one (ds_ret de_non)))
def F_first_quarrel : Fm := runF b_first_quarrel 1 3
/-! ### fixed(old, kept): slots 0 old 1 kept 2 steps 3 event -/
abbrev s_fixed : Stmt := topS 6
theorem sc_fixed : FnScope ["old", "kept", "steps", "event"] ["old", "kept"] (defScope s_fixed) := ⟨rfl, rfl, rfl, by decide +kernel, rfl, by decide +kernel, by decide +kernel⟩
def q1_fixed : Sf := (sSeq (sApp 2 (eTup (aCons (eC (.int 0)) (aCons (eVar 3) (aCons (eBin dIx (eVar 0) (eVar 3)) aNil))))) (sApp 2 (eTup (aCons (eVar 3) (aCons (eC (.int 0)) (aCons (eUn dNeg (eBin dIx (eVar 0) (eVar 3))) aNil))))))
def b_fixed : Sf := (sSeq (sSetO 2 (oLst aNil)) (sSeq (sFor [3] (iSeq (eVar 1)) (gNm 3) q1_fixed) (sRet (eVar 2))))
abbrev sg_fixed : Sg := ⟨[.sh, .sh], .sh⟩
abbrev ps_fixed : List Str := ["old", "kept"]
theorem c_fixed {P : Program} {w : World} {K : PySem.W.Frag} {mg : Str → Option Value} {base : Heap} {f : Addr} {fd : FuncData} {k : Nat} (D : Dfn K mg "fixed" s_fixed ps_fixed f fd) :
    Cal P w K mg base f fd "fixed" (k + 1) ps_fixed sg_fixed (runF (b_fixed) 2 2) := by
  unfold b_fixed q1_fixed
  exact cal_ok (sg := sg_fixed) (τ' := [.no, .no, .no, .no]) D sc_fixed ⟨[], .sh, [.no, .no, .no, .no], [], []⟩ 2 rfl rfl rfl rfl rfl (by first | rfl | kernel_rfl) (.inl rfl) fun cdv A outer s H E hr => (dss_cons (ds_setO 2 sc_fixed.nd rfl (by first | exact .inl rfl | exact .inr rfl) (do_lst da_nil)) (dss_cons (ds_for (tbk := [.sh, .sh, (.oL .sh), .no]) (tct := [.sh, .sh, (.oL .sh), .no]) [3] PassesOwn.never rfl (di_seq (de_var 1 (pv 1))) (dg_name 3 sc_fixed.nd rfl (by first | exact .inl rfl | exact .inr rfl)) (dss_cons (ds_app 2 (pv 2) (de_tup (da_cons de_int (da_cons (de_var 3 (pv 3)) (da_cons (de_ix ix_seq od_ix (de_var 0 (pv 0)) (de_var 3 (pv 3)) (fun _ _ => rfl)) da_nil))))) (dss_one (ds_app 2 (pv 2) (de_tup (da_cons (de_var 3 (pv 3)) (da_cons de_int (da_cons (de_un un_neg ud_neg (de_ix ix_seq od_ix (de_var 0 (pv 0)) (de_var 3 (pv 3)) (fun _ _ => rfl))) da_nil)))))))) (dss_frz 2 (dss_one (ds_ret (de_var 2 (pv 2)))))))
def F_fixed : Fm := runF b_fixed 2 2
/-! ### times_by(bounds): slots 0 bounds 1 times 2 event 3 back 4 ahead 5 time -/
abbrev s_times_by : Stmt := topS 4
theorem sc_times_by : FnScope ["bounds", "times", "event", "back", "ahead", "time"] ["bounds"] (defScope s_times_by) := ⟨rfl, rfl, rfl, by decide +kernel, rfl, by decide +kernel, by decide +kernel⟩
def q1_times_by : Sf := (sSeq (sPar 3 4 (lCons (oE (eF (oCallI F_Bounds_get 0 0 (aCons (eOwn 0) (aCons (eVar 2) (aCons (eC (.int 0)) aNil)))))) (lCons (oE (eF (oCallI F_Bounds_get 0 0 (aCons (eOwn 0) (aCons (eC (.int 0)) (aCons (eVar 2) aNil)))))) lNil))) (sSeq (sIf (tBl (eBin dIsNot (eVar 3) (eC .non))) (sAsg (eUn dNeg (eVar 3)) (gNm 5)) (sAsg (eIf (tBl (eBin dIs (eVar 4) (eC .non))) (eC (.int 0)) (eVar 4)) (gNm 5))) (sSeq (sDrop (eF (oCallI F_Bounds_add 0 0 (aCons (eOwn 0) (aCons (eC (.int 0)) (aCons (eVar 2) (aCons (eVar 5) aNil))))))) (sSeq (sDrop (eF (oCallI F_Bounds_add 0 0 (aCons (eOwn 0) (aCons (eVar 2) (aCons (eC (.int 0)) (aCons (eUn dNeg (eVar 5)) aNil))))))) (sApp 1 (eVar 5))))))
def b_times_by : Sf := (sSeq (sSetO 1 (oLst (aCons (eC (.int 0)) aNil))) (sSeq (sFor [2, 3, 4, 5] (TL.iRng2 (aCons (eC (.int 1)) (aCons (eFld 0 0) aNil))) (gNm 2) q1_times_by) (sRet (eCa (f1 tupleD) (aCons (eOwn 1) aNil)))))
abbrev sg_times_by : Sg := ⟨[(.oO "Bounds" ["events", "least", "way", "ring"] [.sh, (.oT .sh), (.oT .sh), .sh])], .sh⟩
abbrev ps_times_by : List Str := ["bounds"]
theorem c_times_by {P : Program} {w : World} {K : PySem.W.Frag} {mg : Str → Option Value} {base : Heap} {f : Addr} {fd : FuncData} {k : Nat} {C_Bounds : Addr} (D : Dfn K mg "times_by" s_times_by ps_times_by f fd) {f_Bounds_get : Addr} {fd_Bounds_get : FuncData} (c_Bounds_get : CalM P w K mg base f_Bounds_get fd_Bounds_get C_Bounds "get" k ps_Bounds_get sg_Bounds_get F_Bounds_get) {f_Bounds_add : Addr} {fd_Bounds_add : FuncData} (c_Bounds_add : CalM P w K mg base f_Bounds_add fd_Bounds_add C_Bounds "add" k ps_Bounds_add sg_Bounds_add F_Bounds_add) (K_Bounds : KCl K mg "Bounds" C_Bounds) (n_Bounds_events : NoAttr K C_Bounds "events") (z_range : mg "range" = none) (z_tuple : mg "tuple" = none) :
    Cal P w K mg base f fd "times_by" (k + 1) ps_times_by sg_times_by (runF (b_times_by) 1 5) := by
  unfold b_times_by q1_times_by
  exact cal_ok (sg := sg_times_by) (τ' := [(.oO "Bounds" ["events", "least", "way", "ring"] [.sh, (.oT .sh), (.oT .sh), .sh]), .no, .no, .no, .no, .no]) D sc_times_by ⟨[0], .sh, [(.oO "Bounds" ["events", "least", "way", "ring"] [.sh, (.oT .sh), (.oT .sh), .sh]), .no, .no, .no, .no, .no], [], []⟩ 5 rfl rfl rfl rfl rfl (by first | rfl | kernel_rfl) (.inl rfl) fun cdv A outer s H E hr => (dss_cons (ds_setO 1 sc_times_by.nd rfl (by first | exact .inl rfl | exact .inr rfl) (do_lst (da_cons de_int da_nil))) (dss_cons (ds_for (tbk := [(.oO "Bounds" ["events", "least", "way", "ring"] [.sh, (.oT .sh), (.oT .sh), .sh]), (.oL .sh), .no, .no, .no, .no]) (tct := [(.oO "Bounds" ["events", "least", "way", "ring"] [.sh, (.oT .sh), (.oT .sh), .sh]), (.oL .sh), .no, .no, .no, .no]) [2, 3, 4, 5] PassesOwn.never rfl (di_range2 (by rfl) z_range (da_cons de_int (da_cons (de_fld 0 0 K_Bounds n_Bounds_events (pv 0)) da_nil))) (dg_name 2 sc_times_by.nd rfl (by first | exact .inl rfl | exact .inr rfl)) (dss_cons (ds_par 3 4 rfl sc_times_by.nd rfl rfl rfl rfl (dl_cons (do_E (de_F (do_meI c_Bounds_get K_Bounds hr 0 3 (pv 0) (dai_cons (de_var 2 (pv 2)) (dai_cons de_int dai_nil))))) (dl_cons (do_E (de_F (do_meI c_Bounds_get K_Bounds hr 0 3 (pv 0) (dai_cons de_int (dai_cons (de_var 2 (pv 2)) dai_nil))))) dl_nil)) rfl) (dss_cons (ds_if (dt_cmp op_isNotD od_isNot (de_var 3 (pv 3)) de_non (nomark _)) (dss_one (ds_set 5 sc_times_by.nd rfl (by first | exact .inl rfl | exact .inr rfl) (de_un un_neg ud_neg (de_var 3 (pv 3))))) (dss_one (ds_set 5 sc_times_by.nd rfl (by first | exact .inl rfl | exact .inr rfl) (de_if (dt_cmp op_isD od_is (de_var 4 (pv 4)) de_non (nomark _)) de_int (de_var 4 (pv 4)))))) (dss_cons (ds_drop (de_F (do_meI c_Bounds_add K_Bounds hr 0 4 (pv 0) (dai_cons de_int (dai_cons (de_var 2 (pv 2)) (dai_cons (de_var 5 (pv 5)) dai_nil)))))) (dss_cons (ds_drop (de_F (do_meI c_Bounds_add K_Bounds hr 0 4 (pv 0) (dai_cons (de_var 2 (pv 2)) (dai_cons de_int (dai_cons (de_un un_neg ud_neg (de_var 5 (pv 5))) dai_nil)))))) (dss_one (ds_app 1 (pv 1) (de_var 5 (pv 5))))))))) (dss_one (ds_ret (de_callTy call_tuple_of ca_tuple (by rfl) z_tuple bt_tuple (da_cons (de_own 1 (pv 1)) da_nil))))))
def F_times_by : Fm := runF b_times_by 1 5
/-! ### mended(plan, old): slots 0 plan 1 old 2 events 3 many 4 moved 5 kept 6 bounds 7 event -/
abbrev s_mended : Stmt := topS 7
theorem sc_mended : FnScope ["plan", "old", "events", "many", "moved", "kept", "bounds", "event"] ["plan", "old"] (defScope s_mended) := ⟨rfl, rfl, rfl, by decide +kernel, rfl, by decide +kernel, by decide +kernel⟩
def t1_mended : Tf := (tBl (eBin dNotInF (eVar 7) (eVar 4)))
def e2_mended : Of := (oE (eVar 7))
def q3_mended : Sf := (sSeq (sSetO 5 (oLc [7] (iSeq (eVar 2)) (gNm 7) t1_mended e2_mended)) (sSeq (sSetO 6 (oMake "Bounds" F_Bounds_init [] (aCons (eBin dIx (eVar 0) (eC (.int 0))) (aCons (eBin dAdd (eF (oCall F_steps_of (aCons (eBin dIx (eVar 0) (eC (.int 1))) aNil))) (eF (oCall F_fixed (aCons (eVar 1) (aCons (eVar 5) aNil))))) aNil)))) (sIf (tBl (eBin dIs (eFld 6 3) (eC .non))) (sRet (eTup (aCons (eVar 4) (aCons (eF (oCallI F_times_by 6 0 (aCons (eOwn 6) aNil))) aNil)))) sNil)))
def q4_mended : Sf := (sFor [4, 5, 6] (iCmb (aCons (eVar 2) (aCons (eVar 3) aNil))) (gNm 4) q3_mended)
def b_mended : Sf := (sSeq (sAsg (eF (oRg2 (eC (.int 1)) (eBin dIx (eVar 0) (eC (.int 0))))) (gNm 2)) (sSeq (sFor [3, 4, 5, 6] (TL.iRng1 (aCons (eBin dIx (eVar 0) (eC (.int 0))) aNil)) (gNm 3) q4_mended) (sRet (eC .non))))
abbrev sg_mended : Sg := ⟨[.sh, .sh], .sh⟩
abbrev ps_mended : List Str := ["plan", "old"]
theorem c_mended {P : Program} {w : World} {K : PySem.W.Frag} {mg : Str → Option Value} {base : Heap} {f : Addr} {fd : FuncData} {k : Nat} {C_Bounds : Addr} (D : Dfn K mg "mended" s_mended ps_mended f fd) {f_Bounds_init : Addr} {fd_Bounds_init : FuncData} {j_Bounds : Nat} (c_Bounds_init : CalI P w K mg base f_Bounds_init fd_Bounds_init "Bounds" C_Bounds j_Bounds ps_Bounds_init 2 ["events", "least", "way", "ring"] [.sh, (.oT .sh), (.oT .sh), .sh] [] F_Bounds_init) (hj_Bounds : j_Bounds + 1 ≤ k) {f_steps_of : Addr} {fd_steps_of : FuncData} (c_steps_of : Cal P w K mg base f_steps_of fd_steps_of "steps_of" k ps_steps_of sg_steps_of F_steps_of) {f_fixed : Addr} {fd_fixed : FuncData} (c_fixed : Cal P w K mg base f_fixed fd_fixed "fixed" k ps_fixed sg_fixed F_fixed) {f_times_by : Addr} {fd_times_by : FuncData} (c_times_by : Cal P w K mg base f_times_by fd_times_by "times_by" k ps_times_by sg_times_by F_times_by) (K_Bounds : KCl K mg "Bounds" C_Bounds) (n_Bounds_ring : NoAttr K C_Bounds "ring") (z_list : mg "list" = none) (z_range : mg "range" = none) (g_combinations : mg "combinations" = some (.type "itertools.combinations")) :
    Cal P w K mg base f fd "mended" (k + 1) ps_mended sg_mended (runF (b_mended) 2 6) := by
  unfold b_mended q4_mended q3_mended e2_mended t1_mended
  exact cal_ok (sg := sg_mended) (τ' := [.no, .no, .no, .no, .no, .no, .no, .no]) D sc_mended ⟨[], .sh, [.no, .no, .no, .no, .no, .no, .no, .no], [], []⟩ 6 rfl rfl rfl rfl rfl (by first | rfl | kernel_rfl) (.inl rfl) fun cdv A outer s H E hr => (dss_cons (ds_set 2 sc_mended.nd rfl (by first | exact .inl rfl | exact .inr rfl) (de_F (do_rg2 rfl (by rfl) z_list (by rfl) z_range de_int (de_ix ix_seq od_ix (de_var 0 (pv 0)) de_int (fun _ _ => rfl))))) (dss_cons (ds_for (tbk := [.sh, .sh, .sh, .no, .no, .no, .no, .no]) (tct := [.sh, .sh, .sh, .no, .no, .no, .no, .no]) [3, 4, 5, 6] PassesOwn.never rfl (di_range1 (by rfl) z_range (da_cons (de_ix ix_seq od_ix (de_var 0 (pv 0)) de_int (fun _ _ => rfl)) da_nil)) (dg_name 3 sc_mended.nd rfl (by first | exact .inl rfl | exact .inr rfl)) (dss_one (ds_for (tbk := [.sh, .sh, .sh, .sh, .no, .no, .no, .no]) (tct := [.sh, .sh, .sh, .sh, .no, .no, .no, .no]) [4, 5, 6] PassesOwn.never rfl (di_cmb rfl (by rfl) g_combinations (da_cons (de_var 2 (pv 2)) (da_cons (de_var 3 (pv 3)) da_nil))) (dg_name 4 sc_mended.nd rfl (by first | exact .inl rfl | exact .inr rfl)) (dss_cons (ds_frzA (τ1 := [.sh, .sh, .sh, .sh, .sh, (.oL .sh), .no, .no]) 5 (by first | exact (ds_setLc (own := [("event", 7)]) 5 rfl sc_mended.nd rfl rfl rfl (di_seq (de_var 2 (pv 2))) (blkOk_by (by kernel_rfl)) (fun _ _ _ _ _ => (dg_name 7 sc_mended.nd rfl (by first | exact .inl rfl | exact .inr rfl))) (fun _ _ _ _ _ => (dts_one (dt_cmp op_notIn_seq od_notInF (de_var 7 (pv 7)) (de_var 4 (pv 4)) (by rfl)))) (fun _ _ _ _ _ => (do_E (de_var 7 (pv 7))))) | exact (ds_setO 5 sc_mended.nd rfl (by first | exact .inl rfl | exact .inr rfl) (do_lc (own := [("event", 7)]) rfl sc_mended.nd (di_seq (de_var 2 (pv 2))) (blkOk_by (by kernel_rfl)) (fun _ _ _ _ _ => (dg_name 7 sc_mended.nd rfl (by first | exact .inl rfl | exact .inr rfl))) (fun _ _ _ _ _ => (dts_one (dt_cmp op_notIn_seq od_notInF (de_var 7 (pv 7)) (de_var 4 (pv 4)) (by rfl)))) (fun _ _ _ _ _ => (do_E (de_var 7 (pv 7)))))))) (dss_cons (ds_setO 6 sc_mended.nd rfl (by first | exact .inl rfl | exact .inr rfl) (do_make K_Bounds c_Bounds_init (hr.mono hj_Bounds) (by rfl) (da_cons (de_ix ix_seq od_ix (de_var 0 (pv 0)) de_int (fun _ _ => rfl)) (da_cons (de_bin op_addD od_add (de_F (do_fn c_steps_of hr 1 (by rfl) (da_cons (de_ix ix_seq od_ix (de_var 0 (pv 0)) de_int (fun _ _ => rfl)) da_nil))) (de_F (do_fn c_fixed hr 2 (by rfl) (da_cons (de_var 1 (pv 1)) (da_cons (de_var 5 (pv 5)) da_nil))))) da_nil)) .nil (fun _ => .nil))) (dss_one (ds_if (dt_cmp op_isD od_is (de_fld 6 3 K_Bounds n_Bounds_ring (pv 6)) de_non (nomark _)) (dss_one (ds_ret (de_tup (da_cons (de_var 4 (pv 4)) (da_cons (de_F (do_fnI c_times_by hr 6 0 1 (by rfl) (dai_io 6 (pv 6) dai_nil))) da_nil))))) dss_nil))))))) (dss_one (ds_ret de_non))))
def F_mended : Fm := runF b_mended 2 6
/-! ### strain(plan): slots 0 plan 1 many 2 events 3 links 4 places 5 left 6 place 7 link -/
abbrev s_strain : Stmt := topS 8
theorem sc_strain : FnScope ["plan", "many", "events", "links", "places", "left", "place", "link"] ["plan"] (defScope s_strain) := ⟨rfl, rfl, rfl, by decide +kernel, rfl, by decide +kernel, by decide +kernel⟩
def t1_strain : Tf := (tBl (eBin dNotInF (eVar 6) (eVar 4)))
def e2_strain : Of := (oE (eVar 7))
def q3_strain : Sf := (sSeq (sSetO 5 (oLc [6, 7] (iEnu (aCons (eVar 3) aNil)) (gTp (gsCons (gNm 6) (gsCons (gNm 7) gsNil))) t1_strain e2_strain)) (sIf (tBl (eBin dIs (eAt "Bounds" "ring" (eF (oMake "Bounds" F_Bounds_init [] (aCons (eVar 2) (aCons (eF (oCall F_steps_of (aCons (eVar 5) aNil))) aNil))))) (eC .non))) (sRet (eVar 4)) sNil))
def q4_strain : Sf := (sFor [4, 5] (iCmbR (eCa (f1 lenD) (aCons (eVar 3) aNil)) (eVar 1)) (gNm 4) q3_strain)
def b_strain : Sf := (sSeq (sAsg (eVar 0) (gTp (gsCons (gNm 2) (gsCons (gNm 3) gsNil)))) (sSeq (sFor [1, 4, 5] (TL.iRng1 (aCons (eC (.int 4)) aNil)) (gNm 1) q4_strain) (sRet (eC .non))))
abbrev sg_strain : Sg := ⟨[.sh], .sh⟩
abbrev ps_strain : List Str := ["plan"]
theorem c_strain {P : Program} {w : World} {K : PySem.W.Frag} {mg : Str → Option Value} {base : Heap} {f : Addr} {fd : FuncData} {k : Nat} {C_Bounds : Addr} (D : Dfn K mg "strain" s_strain ps_strain f fd) {f_Bounds_init : Addr} {fd_Bounds_init : FuncData} {j_Bounds : Nat} (c_Bounds_init : CalI P w K mg base f_Bounds_init fd_Bounds_init "Bounds" C_Bounds j_Bounds ps_Bounds_init 2 ["events", "least", "way", "ring"] [.sh, (.oT .sh), (.oT .sh), .sh] [] F_Bounds_init) (hj_Bounds : j_Bounds + 1 ≤ k) {f_steps_of : Addr} {fd_steps_of : FuncData} (c_steps_of : Cal P w K mg base f_steps_of fd_steps_of "steps_of" k ps_steps_of sg_steps_of F_steps_of) (K_Bounds : KCl K mg "Bounds" C_Bounds) (n_Bounds_ring : NoAttr K C_Bounds "ring") (z_range : mg "range" = none) (z_len : mg "len" = none) (z_enumerate : mg "enumerate" = none) (g_combinations : mg "combinations" = some (.type "itertools.combinations")) :
    Cal P w K mg base f fd "strain" (k + 1) ps_strain sg_strain (runF (b_strain) 1 7) := by
  unfold b_strain q4_strain q3_strain e2_strain t1_strain
  exact cal_ok (sg := sg_strain) (τ' := [.no, .no, .no, .no, .no, .no, .no, .no]) D sc_strain ⟨[], .sh, [.no, .no, .no, .no, .no, .no, .no, .no], [], []⟩ 7 rfl rfl rfl rfl rfl (by first | rfl | kernel_rfl) (.inl rfl) fun cdv A outer s H E hr => (dss_cons (ds_asg (de_var 0 (pv 0)) (dg_tup rfl (dgs_cons (dg_name 2 sc_strain.nd rfl (by first | exact .inl rfl | exact .inr rfl)) (dgs_cons (dg_name 3 sc_strain.nd rfl (by first | exact .inl rfl | exact .inr rfl)) dgs_nil)) (gsCons_len (gsCons_len gsNil_len)))) (dss_cons (ds_for (tbk := [.sh, .no, .sh, .sh, .no, .no, .no, .no]) (tct := [.sh, .no, .sh, .sh, .no, .no, .no, .no]) [1, 4, 5] PassesOwn.never rfl (di_range1 (by rfl) z_range (da_cons de_int da_nil)) (dg_name 1 sc_strain.nd rfl (by first | exact .inl rfl | exact .inr rfl)) (dss_one (ds_for (tbk := [.sh, .sh, .sh, .sh, .no, .no, .no, .no]) (tct := [.sh, .sh, .sh, .sh, .no, .no, .no, .no]) [4, 5] PassesOwn.never rfl (di_cmbR rfl (by rfl) g_combinations (by rfl) z_range (de_callB call_len ca_len (by rfl) z_len bt_len (da_cons (de_var 3 (pv 3)) da_nil)) (de_var 1 (pv 1))) (dg_name 4 sc_strain.nd rfl (by first | exact .inl rfl | exact .inr rfl)) (dss_cons (ds_frzA (τ1 := [.sh, .sh, .sh, .sh, .sh, (.oL .sh), .no, .no]) 5 (by first | exact (ds_setLc (own := [("place", 6), ("link", 7)]) 5 rfl sc_strain.nd rfl rfl rfl (di_enum (by rfl) z_enumerate (da_cons (de_var 3 (pv 3)) da_nil)) (blkOk_by (by kernel_rfl)) (fun _ _ _ _ _ => (dg_tup rfl (dgs_cons (dg_name 6 sc_strain.nd rfl (by first | exact .inl rfl | exact .inr rfl)) (dgs_cons (dg_name 7 sc_strain.nd rfl (by first | exact .inl rfl | exact .inr rfl)) dgs_nil)) (gsCons_len (gsCons_len gsNil_len)))) (fun _ _ _ _ _ => (dts_one (dt_cmp op_notIn_seq od_notInF (de_var 6 (pv 6)) (de_var 4 (pv 4)) (by rfl)))) (fun _ _ _ _ _ => (do_E (de_var 7 (pv 7))))) | exact (ds_setO 5 sc_strain.nd rfl (by first | exact .inl rfl | exact .inr rfl) (do_lc (own := [("place", 6), ("link", 7)]) rfl sc_strain.nd (di_enum (by rfl) z_enumerate (da_cons (de_var 3 (pv 3)) da_nil)) (blkOk_by (by kernel_rfl)) (fun _ _ _ _ _ => (dg_tup rfl (dgs_cons (dg_name 6 sc_strain.nd rfl (by first | exact .inl rfl | exact .inr rfl)) (dgs_cons (dg_name 7 sc_strain.nd rfl (by first | exact .inl rfl | exact .inr rfl)) dgs_nil)) (gsCons_len (gsCons_len gsNil_len)))) (fun _ _ _ _ _ => (dts_one (dt_cmp op_notIn_seq od_notInF (de_var 6 (pv 6)) (de_var 4 (pv 4)) (by rfl)))) (fun _ _ _ _ _ => (do_E (de_var 7 (pv 7)))))))) (dss_one (ds_if (dt_cmp op_isD od_is (de_at K_Bounds n_Bounds_ring (de_F (do_make K_Bounds c_Bounds_init (hr.mono hj_Bounds) (by rfl) (da_cons (de_var 2 (pv 2)) (da_cons (de_F (do_fn c_steps_of hr 1 (by rfl) (da_cons (de_var 5 (pv 5)) da_nil))) da_nil)) .nil (fun _ => .nil)))) de_non (nomark _)) (dss_one (ds_ret (de_var 4 (pv 4)))) dss_nil)))))) (dss_one (ds_ret de_non))))
def F_strain : Fm := runF b_strain 1 7
/-! ### law(script): slots 0 script 1 draw 2 plan 3 old 4 due 5 moved 6 places 7 told 8 plans 9 k 10 events 11 links 12 kept 13 other 14 heap 15 place 16 event 17 link -/
abbrev s_law : Stmt := topS 22
theorem sc_law : FnScope ["script", "draw", "plan", "old", "due", "moved", "places", "told", "plans", "k", "events", "links", "kept", "other", "heap", "place", "event", "link"] ["script"] (defScope s_law) := ⟨rfl, rfl, rfl, by decide +kernel, rfl, by decide +kernel, by decide +kernel⟩
def e1_law : Of := (oE (eBin dSub (eF (oCallI F__law_next 1 0 (aCons (eOwn 1) (aCons (eC (.int 9)) aNil)))) (eC (.int 2))))
def t2_law : Tf := (tBl (eBin dNotInF (eVar 16) (eVar 5)))
def e3_law : Of := (oE (eTup (aCons (eC (.int 0)) (aCons (eVar 16) (aCons (eBin dIx (eVar 3) (eVar 16)) (aCons (eBin dIx (eVar 3) (eVar 16)) aNil))))))
def q4_law : Sf := (sSeq (sAsg (eCa (f1 tupleD) (aCons (eF (oLc [16] (TL.iRng2 (aCons (eC (.int 1)) (aCons (eVar 10) aNil))) (gNm 16) t2_law e3_law)) aNil)) (gNm 12)) (sIf (tAnd' (tBl (eBin dIs (eVar 4) (eC .non))) (tBl (eBin dIsNot (eF (oCall F__law_least (aCons (eVar 10) (aCons (eBin dAdd (eVar 11) (eVar 12)) aNil)))) (eC .non)))) (sAsg (eTup (aCons (eVar 5) (aCons (eF (oCall F__law_times (aCons (eVar 10) (aCons (eBin dAdd (eVar 11) (eVar 12)) aNil)))) aNil))) (gNm 4)) sNil))
def t5_law : Tf := (tBl (eBin dNotInF (eVar 9) (eVar 6)))
def e6_law : Of := (oE (eBin dIx (eVar 11) (eVar 9)))
def q7_law : Sf := (sIf (tAnd' (tBl (eBin dIs (eVar 4) (eC .non))) (tBl (eBin dIsNot (eF (oCall F__law_least (aCons (eVar 10) (aCons (eF (oLc [9] (TL.iRng1 (aCons (eCa (f1 lenD) (aCons (eVar 11) aNil)) aNil)) (gNm 9) t5_law e6_law)) aNil)))) (eC .non)))) (sAsg (eVar 6) (gNm 4)) sNil)
def t8_law : Tf := (tBl (eBin dLt (eCa (f1 maxS) (aCons (eSl dSl (eVar 17) pNo (pSome (eC (.int 2)))) aNil)) (eVar 10)))
def e9_law : Of := (oE (eVar 17))
def q10_law : Sf := (sSeq (sAsg (eF (oCallI F__law_plan 1 0 (aCons (eOwn 1) (aCons (eC (.int 5)) (aCons (eC (.int 4)) aNil))))) (gNm 13)) (sApp 8 (eTup (aCons (eVar 10) (aCons (eCa (f1 tupleD) (aCons (eF (oLc [17] (iSeq (eBin dIx (eVar 13) (eC (.int 1)))) (gNm 17) t8_law e9_law)) aNil)) aNil)))))
def q11_law : Sf := (sAsg (eBin dAdd (eVar 14) (eBin dIx (eBin dIx (eOwn 8) (eVar 15)) (eC (.int 1)))) (gNm 14))
def q12_law : Sf := (sSeq (sAsg (eTup aNil) (gNm 14)) (sSeq (sFor [15] (iSeq (eVar 6)) (gNm 15) q11_law) (sIf (tAnd' (tBl (eBin dIs (eVar 4) (eC .non))) (tBl (eBin dIs (eF (oCall F__law_least (aCons (eVar 10) (aCons (eVar 14) aNil)))) (eC .non)))) (sAsg (eVar 6) (gNm 4)) sNil)))
def p17_law : Sf := (sRet (eF (oCall F__law_same (aCons (eF (oCallB .sh F_first_quarrel (aCons (eOwn 8) aNil))) (aCons (eVar 4) aNil)))))
def p16_law : Sf := (sSeq (sFor [6, 14, 15] (iSeq (eSl dSl (eF (oCall F__law_sets (aCons (eF (oRg1 (aCons (eCa (f1 lenD) (aCons (eOwn 8) aNil)) aNil))) (aCons (eCa (f1 lenD) (aCons (eOwn 8) aNil)) aNil)))) (pSome (eC (.int 1))) pNo)) (gNm 6) q12_law) p17_law)
def p15_law : Sf := (sSeq (sAsg (eC .non) (gNm 4)) p16_law)
def p14_law : Sf := (sSeq (sIf (tBl (eBin dNe (eBin dIs (eF (oCall F_agree (aCons (eBin dIx (eOwn 8) (eC (.int 0))) (aCons (eBin dIx (eOwn 8) (eC (.int 1))) aNil)))) (eC (.bl true))) (eBin dIsNot (eF (oCall F__law_least (aCons (eVar 10) (aCons (eBin dAdd (eBin dIx (eBin dIx (eOwn 8) (eC (.int 0))) (eC (.int 1))) (eBin dIx (eBin dIx (eOwn 8) (eC (.int 1))) (eC (.int 1)))) aNil)))) (eC .non)))) (sRet (eC (.bl false))) sNil) p15_law)
def p13_law : Sf := (sSeq (sFor [9, 13] (TL.iRng1 (aCons (eBin dAdd (eC (.int 1)) (eF (oCallI F__law_next 1 0 (aCons (eOwn 1) (aCons (eC (.int 2)) aNil))))) aNil)) (gNm 9) q10_law) p14_law)
def p12_law : Sf := (sSeq (sSetO 8 (oLst (aCons (eVar 2) aNil))) p13_law)
def p11_law : Sf := (sSeq (sIf (tAnd' (tBl (eBin dIs (eVar 4) (eC .non))) (tAnd' (tBl (eBin dIsNot (eVar 7) (eC .non))) (tOr' (tBl (eBin dLt (eCa (f1 lenD) (aCons (eVar 11) aNil)) (eC (.int 9)))) (tBl (eBin dNe (eCa (f1 lenD) (aCons (eVar 7) aNil)) (eC (.int 3))))))) (sRet (eC (.bl false))) sNil) p12_law)
def p10_law : Sf := (sSeq (sIf (tAnd' (tBl (eBin dIsNot (eVar 4) (eC .non))) (tNot' (tB (eF (oCall F__law_same (aCons (eVar 7) (aCons (eVar 4) aNil))))))) (sRet (eC (.bl false))) sNil) p11_law)
def p9_law : Sf := (sSeq (sAsg (eF (oCall F_strain (aCons (eVar 2) aNil))) (gNm 7)) p10_law)
def p8_law : Sf := (sSeq (sFor [6] (iSeq (eF (oCall F__law_sets (aCons (eF (oRg1 (aCons (eCa (f1 lenD) (aCons (eVar 11) aNil)) aNil))) (aCons (eIf (tBl (eBin dLt (eCa (f1 lenD) (aCons (eVar 11) aNil)) (eC (.int 9)))) (eC (.int 3)) (eC (.int 2))) aNil))))) (gNm 6) q7_law) p9_law)
def p7_law : Sf := (sSeq (sAsg (eC .non) (gNm 4)) p8_law)
def p6_law : Sf := (sSeq (sIf (tNot' (tB (eF (oCall F__law_same (aCons (eF (oCall F_mended (aCons (eVar 2) (aCons (eVar 3) aNil)))) (aCons (eVar 4) aNil)))))) (sRet (eC (.bl false))) sNil) p7_law)
def p5_law : Sf := (sSeq (sFor [5, 12] (iSeq (eF (oCall F__law_sets (aCons (eF (oRg2 (eC (.int 1)) (eVar 10))) (aCons (eBin dSub (eVar 10) (eC (.int 1))) aNil))))) (gNm 5) q4_law) p6_law)
def p4_law : Sf := (sSeq (sAsg (eC .non) (gNm 4)) p5_law)
def p3_law : Sf := (sSeq (sAsg (eCa (f1 tupleD) (aCons (eBin dAdd (eF (oLst (aCons (eC (.int 0)) aNil))) (eF (oLc [9] (TL.iRng1 (aCons (eBin dSub (eVar 10) (eC (.int 1))) aNil)) (gNm 9) tYesF e1_law))) aNil)) (gNm 3)) p4_law)
def p2_law : Sf := (sSeq (sAsg (eVar 2) (gTp (gsCons (gNm 10) (gsCons (gNm 11) gsNil)))) p3_law)
def b_law : Sf := (sSeq (sSetO 1 (oCall F__law_draw (aCons (eVar 0) aNil))) (sSeq (sAsg (eF (oCallI F__law_plan 1 0 (aCons (eOwn 1) (aCons (eC (.int 5)) (aCons (eC (.int 4)) aNil))))) (gNm 2)) p2_law))
abbrev sg_law : Sg := ⟨[.sh], .sh⟩
abbrev ps_law : List Str := ["script"]
theorem c_law {P : Program} {w : World} {K : PySem.W.Frag} {mg : Str → Option Value} {base : Heap} {f : Addr} {fd : FuncData} {k : Nat} (Dm : Dfn K mg "law" s_law ps_law f fd) {f__law_draw : Addr} {fd__law_draw : FuncData} (c__law_draw : Cal P w K mg base f__law_draw fd__law_draw "_law_draw" k ps__law_draw sg__law_draw F__law_draw) {f__law_plan : Addr} {fd__law_plan : FuncData} (c__law_plan : Cal P w K mg base f__law_plan fd__law_plan "_law_plan" k ps__law_plan sg__law_plan F__law_plan) {f__law_next : Addr} {fd__law_next : FuncData} (c__law_next : Cal P w K mg base f__law_next fd__law_next "_law_next" k ps__law_next sg__law_next F__law_next) {f__law_sets : Addr} {fd__law_sets : FuncData} (c__law_sets : Cal P w K mg base f__law_sets fd__law_sets "_law_sets" k ps__law_sets sg__law_sets F__law_sets) {f__law_least : Addr} {fd__law_least : FuncData} (c__law_least : Cal P w K mg base f__law_least fd__law_least "_law_least" k ps__law_least sg__law_least F__law_least) {f__law_times : Addr} {fd__law_times : FuncData} (c__law_times : Cal P w K mg base f__law_times fd__law_times "_law_times" k ps__law_times sg__law_times F__law_times) {f__law_same : Addr} {fd__law_same : FuncData} (c__law_same : CalG P w K mg base f__law_same fd__law_same "_law_same" k ps__law_same sg__law_same F__law_same) {f_mended : Addr} {fd_mended : FuncData} (c_mended : Cal P w K mg base f_mended fd_mended "mended" k ps_mended sg_mended F_mended) {f_strain : Addr} {fd_strain : FuncData} (c_strain : Cal P w K mg base f_strain fd_strain "strain" k ps_strain sg_strain F_strain) {f_agree : Addr} {fd_agree : FuncData} (c_agree : Cal P w K mg base f_agree fd_agree "agree" k ps_agree sg_agree F_agree) {f_first_quarrel : Addr} {fd_first_quarrel : FuncData} (c_first_quarrel : Cal P w K mg base f_first_quarrel fd_first_quarrel "first_quarrel" k ps_first_quarrel sg_first_quarrel F_first_quarrel) (z_range : mg "range" = none) (z_tuple : mg "tuple" = none) (z_list : mg "list" = none) (z_len : mg "len" = none) (z_max : mg "max" = none) :
    CalG P w K mg base f fd "law" (k + 1) ps_law sg_law (runF (b_law) 1 17) := by
  unfold b_law p2_law p3_law p4_law p5_law p6_law p7_law p8_law p9_law p10_law p11_law p12_law p13_law p14_law p15_law p16_law p17_law q12_law q11_law q10_law e9_law t8_law q7_law e6_law t5_law q4_law e3_law t2_law e1_law
  exact calG_ok (sg := sg_law) (τ' := [.no, .no, .no, .no, .no, .no, .no, .no, .no, .no, .no, .no, .no, .no, .no, .no, .no, .no]) Dm sc_law ⟨[], .sh, [.no, .no, .no, .no, .no, .no, .no, .no, .no, .no, .no, .no, .no, .no, .no, .no, .no, .no], [], []⟩ 17 1 rfl rfl rfl rfl rfl rfl (by first | rfl | kernel_rfl) (.inl rfl) fun cdv A outer s H E gd hr => (dss_cons (ds_setO 1 sc_law.nd rfl (by first | exact .inl rfl | exact .inr rfl) (do_fn c__law_draw hr 1 (by rfl) (da_cons (de_var 0 (pv 0)) da_nil))) (dss_cons (ds_set 2 sc_law.nd rfl (by first | exact .inl rfl | exact .inr rfl) (de_F (do_fnI c__law_plan hr 1 0 3 (by rfl) (dai_io 1 (pv 1) (dai_cons de_int (dai_cons de_int dai_nil)))))) (dss_cons (ds_asg (de_var 2 (pv 2)) (dg_tup rfl (dgs_cons (dg_name 10 sc_law.nd rfl (by first | exact .inl rfl | exact .inr rfl)) (dgs_cons (dg_name 11 sc_law.nd rfl (by first | exact .inl rfl | exact .inr rfl)) dgs_nil)) (gsCons_len (gsCons_len gsNil_len)))) (dss_cons (ds_set 3 sc_law.nd rfl (by first | exact .inl rfl | exact .inr rfl) (de_callTy call_tuple_of ca_tuple (by rfl) z_tuple bt_tuple (da_cons (de_bin op_addD od_add (de_F (do_lst (da_cons de_int da_nil))) (de_F (do_lc (own := [("k", 9)]) rfl sc_law.nd (di_range1 (by rfl) z_range (da_cons (de_bin op_sub od_sub (de_var 10 (pv 10)) de_int) da_nil)) (blkOk_by (by kernel_rfl)) (fun _ _ _ _ _ => (dg_name 9 sc_law.nd rfl (by first | exact .inl rfl | exact .inr rfl))) (fun _ _ _ _ _ => dts_nil) (fun _ _ _ _ _ => (do_E (de_bin op_sub od_sub (de_F (do_fnI c__law_next hr 1 0 2 (by rfl) (dai_io 1 (pv 1) (dai_cons de_int dai_nil)))) de_int)))))) da_nil))) (dss_cons (ds_set 4 sc_law.nd rfl (by first | exact .inl rfl | exact .inr rfl) de_non) (dss_cons (ds_for (tbk := [.sh, (.oL .sh), .sh, .sh, .sh, .no, .no, .no, .no, .no, .sh, .sh, .no, .no, .no, .no, .no, .no]) (tct := [.sh, (.oL .sh), .sh, .sh, .sh, .no, .no, .no, .no, .no, .sh, .sh, .no, .no, .no, .no, .no, .no]) [5, 12] PassesOwn.never rfl (di_seq (de_F (do_fn c__law_sets hr 2 (by rfl) (da_cons (de_F (do_rg2 rfl (by rfl) z_list (by rfl) z_range de_int (de_var 10 (pv 10)))) (da_cons (de_bin op_sub od_sub (de_var 10 (pv 10)) de_int) da_nil))))) (dg_name 5 sc_law.nd rfl (by first | exact .inl rfl | exact .inr rfl)) (dss_cons (ds_set 12 sc_law.nd rfl (by first | exact .inl rfl | exact .inr rfl) (de_callTy call_tuple_of ca_tuple (by rfl) z_tuple bt_tuple (da_cons (de_F (do_lc (own := [("event", 16)]) rfl sc_law.nd (di_range2 (by rfl) z_range (da_cons de_int (da_cons (de_var 10 (pv 10)) da_nil))) (blkOk_by (by kernel_rfl)) (fun _ _ _ _ _ => (dg_name 16 sc_law.nd rfl (by first | exact .inl rfl | exact .inr rfl))) (fun _ _ _ _ _ => (dts_one (dt_cmp op_notIn_seq od_notInF (de_var 16 (pv 16)) (de_var 5 (pv 5)) (by rfl)))) (fun _ _ _ _ _ => (do_E (de_tup (da_cons de_int (da_cons (de_var 16 (pv 16)) (da_cons (de_ix ix_seq od_ix (de_var 3 (pv 3)) (de_var 16 (pv 16)) (fun _ _ => rfl)) (da_cons (de_ix ix_seq od_ix (de_var 3 (pv 3)) (de_var 16 (pv 16)) (fun _ _ => rfl)) da_nil))))))))) da_nil))) (dss_one (ds_if (dt_w (dw_and (dt_cmp op_isD od_is (de_var 4 (pv 4)) de_non (nomark _)) (dw_and1 (dt_cmp op_isNotD od_isNot (de_F (do_fn c__law_least hr 2 (by rfl) (da_cons (de_var 10 (pv 10)) (da_cons (de_bin op_addD od_add (de_var 11 (pv 11)) (de_var 12 (pv 12))) da_nil)))) de_non (nomark _))))) (dss_one (ds_set 4 sc_law.nd rfl (by first | exact .inl rfl | exact .inr rfl) (de_tup (da_cons (de_var 5 (pv 5)) (da_cons (de_F (do_fn c__law_times hr 2 (by rfl) (da_cons (de_var 10 (pv 10)) (da_cons (de_bin op_addD od_add (de_var 11 (pv 11)) (de_var 12 (pv 12))) da_nil)))) da_nil))))) dss_nil)))) (dss_cons (ds_if (dt_not (dt_truth (de_F (do_fnG gd c__law_same hr 2 (by rfl) (da_cons (de_F (do_fn c_mended hr 2 (by rfl) (da_cons (de_var 2 (pv 2)) (da_cons (de_var 3 (pv 3)) da_nil)))) (da_cons (de_var 4 (pv 4)) da_nil)))))) (dss_one (ds_ret de_bl)) dss_nil) (dss_cons (ds_set 4 sc_law.nd rfl (by first | exact .inl rfl | exact .inr rfl) de_non) (dss_cons (ds_for (tbk := [.sh, (.oL .sh), .sh, .sh, .sh, .no, .no, .no, .no, .no, .sh, .sh, .no, .no, .no, .no, .no, .no]) (tct := [.sh, (.oL .sh), .sh, .sh, .sh, .no, .no, .no, .no, .no, .sh, .sh, .no, .no, .no, .no, .no, .no]) [6] PassesOwn.never rfl (di_seq (de_F (do_fn c__law_sets hr 2 (by rfl) (da_cons (de_F (do_rg1 rfl (by rfl) z_list (by rfl) z_range (da_cons (de_callB call_len ca_len (by rfl) z_len bt_len (da_cons (de_var 11 (pv 11)) da_nil)) da_nil))) (da_cons (de_if (dt_cmp op_lt od_lt (de_callB call_len ca_len (by rfl) z_len bt_len (da_cons (de_var 11 (pv 11)) da_nil)) de_int (nomark _)) de_int de_int) da_nil))))) (dg_name 6 sc_law.nd rfl (by first | exact .inl rfl | exact .inr rfl)) (dss_one (ds_if (dt_w (dw_and (dt_cmp op_isD od_is (de_var 4 (pv 4)) de_non (nomark _)) (dw_and1 (dt_cmp op_isNotD od_isNot (de_F (do_fn c__law_least hr 2 (by rfl) (da_cons (de_var 10 (pv 10)) (da_cons (de_F (do_lc (own := [("k", 9)]) rfl sc_law.nd (di_range1 (by rfl) z_range (da_cons (de_callB call_len ca_len (by rfl) z_len bt_len (da_cons (de_var 11 (pv 11)) da_nil)) da_nil)) (blkOk_by (by kernel_rfl)) (fun _ _ _ _ _ => (dg_name 9 sc_law.nd rfl (by first | exact .inl rfl | exact .inr rfl))) (fun _ _ _ _ _ => (dts_one (dt_cmp op_notIn_seq od_notInF (de_var 9 (pv 9)) (de_var 6 (pv 6)) (by rfl)))) (fun _ _ _ _ _ => (do_E (de_ix ix_seq od_ix (de_var 11 (pv 11)) (de_var 9 (pv 9)) (fun _ _ => rfl)))))) da_nil)))) de_non (nomark _))))) (dss_one (ds_set 4 sc_law.nd rfl (by first | exact .inl rfl | exact .inr rfl) (de_var 6 (pv 6)))) dss_nil))) (dss_cons (ds_set 7 sc_law.nd rfl (by first | exact .inl rfl | exact .inr rfl) (de_F (do_fn c_strain hr 1 (by rfl) (da_cons (de_var 2 (pv 2)) da_nil)))) (dss_cons (ds_if (dt_w (dw_and (dt_cmp op_isNotD od_isNot (de_var 4 (pv 4)) de_non (nomark _)) (dw_and1 (dt_not (dt_truth (de_F (do_fnG gd c__law_same hr 2 (by rfl) (da_cons (de_var 7 (pv 7)) (da_cons (de_var 4 (pv 4)) da_nil))))))))) (dss_one (ds_ret de_bl)) dss_nil) (dss_cons (ds_if (dt_w (dw_and (dt_cmp op_isD od_is (de_var 4 (pv 4)) de_non (nomark _)) (dw_and (dt_cmp op_isNotD od_isNot (de_var 7 (pv 7)) de_non (nomark _)) (dw_and1 (dt_w (dw_or (dt_cmp op_lt od_lt (de_callB call_len ca_len (by rfl) z_len bt_len (da_cons (de_var 11 (pv 11)) da_nil)) de_int (nomark _)) (dw_or1 (dt_cmp (op_neD (hu64 hr)) od_ne (de_callB call_len ca_len (by rfl) z_len bt_len (da_cons (de_var 7 (pv 7)) da_nil)) de_int (nomark _))))))))) (dss_one (ds_ret de_bl)) dss_nil) (dss_cons (ds_setO 8 sc_law.nd rfl (by first | exact .inl rfl | exact .inr rfl) (do_lst (da_cons (de_var 2 (pv 2)) da_nil))) (dss_cons (ds_for (tbk := [.sh, (.oL .sh), .sh, .sh, .sh, .no, .no, .sh, (.oL .sh), .no, .sh, .sh, .no, .no, .no, .no, .no, .no]) (tct := [.sh, (.oL .sh), .sh, .sh, .sh, .no, .no, .sh, (.oL .sh), .no, .sh, .sh, .no, .no, .no, .no, .no, .no]) [9, 13] PassesOwn.never rfl (di_range1 (by rfl) z_range (da_cons (de_bin op_addD od_add de_int (de_F (do_fnI c__law_next hr 1 0 2 (by rfl) (dai_io 1 (pv 1) (dai_cons de_int dai_nil))))) da_nil)) (dg_name 9 sc_law.nd rfl (by first | exact .inl rfl | exact .inr rfl)) (dss_cons (ds_set 13 sc_law.nd rfl (by first | exact .inl rfl | exact .inr rfl) (de_F (do_fnI c__law_plan hr 1 0 3 (by rfl) (dai_io 1 (pv 1) (dai_cons de_int (dai_cons de_int dai_nil)))))) (dss_one (ds_app 8 (pv 8) (de_tup (da_cons (de_var 10 (pv 10)) (da_cons (de_callTy call_tuple_of ca_tuple (by rfl) z_tuple bt_tuple (da_cons (de_F (do_lc (own := [("link", 17)]) rfl sc_law.nd (di_seq (de_ix ix_seq od_ix (de_var 13 (pv 13)) de_int (fun _ _ => rfl))) (blkOk_by (by kernel_rfl)) (fun _ _ _ _ _ => (dg_name 17 sc_law.nd rfl (by first | exact .inl rfl | exact .inr rfl))) (fun _ _ _ _ _ => (dts_one (dt_cmp op_lt od_lt (de_callB (cr_maxS rfl) ca_maxS (by rfl) z_max bt_max (da_cons (de_slice sl_D sd_sl (de_var 17 (pv 17)) dp_no (dp_some de_int)) da_nil)) (de_var 10 (pv 10)) (nomark _)))) (fun _ _ _ _ _ => (do_E (de_var 17 (pv 17)))))) da_nil)) da_nil))))))) (dss_cons (ds_if (dt_cmp (op_neD (hu64 hr)) od_ne (de_cmp op_isD od_is (de_F (do_fn c_agree hr 2 (by rfl) (da_cons (de_ix ix_seq od_ix (de_own 8 (pv 8)) de_int (fun _ _ => rfl)) (da_cons (de_ix ix_seq od_ix (de_own 8 (pv 8)) de_int (fun _ _ => rfl)) da_nil)))) de_bl (nomark _)) (de_cmp op_isNotD od_isNot (de_F (do_fn c__law_least hr 2 (by rfl) (da_cons (de_var 10 (pv 10)) (da_cons (de_bin op_addD od_add (de_ix ix_seq od_ix (de_ix ix_seq od_ix (de_own 8 (pv 8)) de_int (fun _ _ => rfl)) de_int (fun _ _ => rfl)) (de_ix ix_seq od_ix (de_ix ix_seq od_ix (de_own 8 (pv 8)) de_int (fun _ _ => rfl)) de_int (fun _ _ => rfl))) da_nil)))) de_non (nomark _)) (nomark _)) (dss_one (ds_ret de_bl)) dss_nil) (dss_cons (ds_set 4 sc_law.nd rfl (by first | exact .inl rfl | exact .inr rfl) de_non) (dss_cons (ds_for (tbk := [.sh, (.oL .sh), .sh, .sh, .sh, .no, .no, .sh, (.oL .sh), .no, .sh, .sh, .no, .no, .no, .no, .no, .no]) (tct := [.sh, (.oL .sh), .sh, .sh, .sh, .no, .no, .sh, (.oL .sh), .no, .sh, .sh, .no, .no, .no, .no, .no, .no]) [6, 14, 15] PassesOwn.never rfl (di_seq (de_slice sl_D sd_sl (de_F (do_fn c__law_sets hr 2 (by rfl) (da_cons (de_F (do_rg1 rfl (by rfl) z_list (by rfl) z_range (da_cons (de_callB call_len ca_len (by rfl) z_len bt_len (da_cons (de_own 8 (pv 8)) da_nil)) da_nil))) (da_cons (de_callB call_len ca_len (by rfl) z_len bt_len (da_cons (de_own 8 (pv 8)) da_nil)) da_nil)))) (dp_some de_int) dp_no)) (dg_name 6 sc_law.nd rfl (by first | exact .inl rfl | exact .inr rfl)) (dss_cons (ds_set 14 sc_law.nd rfl (by first | exact .inl rfl | exact .inr rfl) (de_tup da_nil)) (dss_cons (ds_for (tbk := [.sh, (.oL .sh), .sh, .sh, .sh, .no, .sh, .sh, (.oL .sh), .no, .sh, .sh, .no, .no, .sh, .no, .no, .no]) (tct := [.sh, (.oL .sh), .sh, .sh, .sh, .no, .sh, .sh, (.oL .sh), .no, .sh, .sh, .no, .no, .sh, .no, .no, .no]) [15] PassesOwn.never rfl (di_seq (de_var 6 (pv 6))) (dg_name 15 sc_law.nd rfl (by first | exact .inl rfl | exact .inr rfl)) (dss_one (ds_set 14 sc_law.nd rfl (by first | exact .inl rfl | exact .inr rfl) (de_bin op_addD od_add (de_var 14 (pv 14)) (de_ix ix_seq od_ix (de_ix ix_seq od_ix (de_own 8 (pv 8)) (de_var 15 (pv 15)) (fun _ _ => rfl)) de_int (fun _ _ => rfl)))))) (dss_one (ds_if (dt_w (dw_and (dt_cmp op_isD od_is (de_var 4 (pv 4)) de_non (nomark _)) (dw_and1 (dt_cmp op_isD od_is (de_F (do_fn c__law_least hr 2 (by rfl) (da_cons (de_var 10 (pv 10)) (da_cons (de_var 14 (pv 14)) da_nil)))) de_non (nomark _))))) (dss_one (ds_set 4 sc_law.nd rfl (by first | exact .inl rfl | exact .inr rfl) (de_var 6 (pv 6)))) dss_nil))))) (dss_one (ds_ret (de_F (do_fnG gd c__law_same hr 2 (by rfl) (da_cons (de_F (do_fnB (sg := sg_first_quarrel) c_first_quarrel hr 1 (by rfl) (da_cons (de_own 8 (pv 8)) da_nil))) (da_cons (de_var 4 (pv 4)) da_nil)))))))))))))))))))))))
def F_law : Fm := runF b_law 1 17
theorem law_cal {P : Program} {w : World} {K : PySem.W.Frag} {mg : Str → Option Value} {base : Heap} {C_Bounds : Addr} {f__law_draw : Addr} {fd__law_draw : FuncData} (D__law_draw : Dfn K mg "_law_draw" s__law_draw ps__law_draw f__law_draw fd__law_draw) {f__law_bound : Addr} {fd__law_bound : FuncData} (D__law_bound : Dfn K mg "_law_bound" s__law_bound ps__law_bound f__law_bound fd__law_bound) {f__law_least : Addr} {fd__law_least : FuncData} (D__law_least : Dfn K mg "_law_least" s__law_least ps__law_least f__law_least fd__law_least) {f__law_next : Addr} {fd__law_next : FuncData} (D__law_next : Dfn K mg "_law_next" s__law_next ps__law_next f__law_next fd__law_next) {f__law_plan : Addr} {fd__law_plan : FuncData} (D__law_plan : Dfn K mg "_law_plan" s__law_plan ps__law_plan f__law_plan fd__law_plan) {f__law_same : Addr} {fd__law_same : FuncData} (D__law_same : Dfn K mg "_law_same" s__law_same ps__law_same f__law_same fd__law_same) {f__law_sets : Addr} {fd__law_sets : FuncData} (D__law_sets : Dfn K mg "_law_sets" s__law_sets ps__law_sets f__law_sets fd__law_sets) {f__law_reach : Addr} {fd__law_reach : FuncData} (D__law_reach : Dfn K mg "_law_reach" s__law_reach ps__law_reach f__law_reach fd__law_reach) {f__law_times : Addr} {fd__law_times : FuncData} (D__law_times : Dfn K mg "_law_times" s__law_times ps__law_times f__law_times fd__law_times) {f_Bounds_get : Addr} {fd_Bounds_get : FuncData} (D_Bounds_get : DfnM K "get" "Bounds.get" s_Bounds_get C_Bounds ps_Bounds_get [] f_Bounds_get fd_Bounds_get) {f_Bounds_add : Addr} {fd_Bounds_add : FuncData} (D_Bounds_add : DfnM K "add" "Bounds.add" s_Bounds_add C_Bounds ps_Bounds_add [] f_Bounds_add fd_Bounds_add) {f_Bounds_init : Addr} {fd_Bounds_init : FuncData} (D_Bounds_init : DfnM K "__init__" "Bounds.__init__" s_Bounds_init C_Bounds ps_Bounds_init [] f_Bounds_init fd_Bounds_init) {f_steps_of : Addr} {fd_steps_of : FuncData} (D_steps_of : Dfn K mg "steps_of" s_steps_of ps_steps_of f_steps_of fd_steps_of) {f_have_times : Addr} {fd_have_times : FuncData} (D_have_times : Dfn K mg "have_times" s_have_times ps_have_times f_have_times fd_have_times) {f_agree : Addr} {fd_agree : FuncData} (D_agree : Dfn K mg "agree" s_agree ps_agree f_agree fd_agree) {f_first_quarrel : Addr} {fd_first_quarrel : FuncData} (D_first_quarrel : Dfn K mg "first_quarrel" s_first_quarrel ps_first_quarrel f_first_quarrel fd_first_quarrel) {f_fixed : Addr} {fd_fixed : FuncData} (D_fixed : Dfn K mg "fixed" s_fixed ps_fixed f_fixed fd_fixed) {f_times_by : Addr} {fd_times_by : FuncData} (D_times_by : Dfn K mg "times_by" s_times_by ps_times_by f_times_by fd_times_by) {f_mended : Addr} {fd_mended : FuncData} (D_mended : Dfn K mg "mended" s_mended ps_mended f_mended fd_mended) {f_strain : Addr} {fd_strain : FuncData} (D_strain : Dfn K mg "strain" s_strain ps_strain f_strain fd_strain) {f_law : Addr} {fd_law : FuncData} (D_law : Dfn K mg "law" s_law ps_law f_law fd_law) (K_Bounds : KCl K mg "Bounds" C_Bounds) (mk_Bounds : PySem.W.makesIn K C_Bounds = true) (kc_Bounds : PySem.W.keepIn K (.ref C_Bounds) = true) (n_Bounds_events : NoAttr K C_Bounds "events") (n_Bounds_least : NoAttr K C_Bounds "least") (n_Bounds_ring : NoAttr K C_Bounds "ring") (n_Bounds_way : NoAttr K C_Bounds "way") (z_abs : mg "abs" = none) (z_any : mg "any" = none) (z_enumerate : mg "enumerate" = none) (z_int : mg "int" = none) (z_len : mg "len" = none) (z_list : mg "list" = none) (z_max : mg "max" = none) (z_min : mg "min" = none) (z_range : mg "range" = none) (z_repr : mg "repr" = none) (z_tuple : mg "tuple" = none) (g_combinations : mg "combinations" = some (.type "itertools.combinations")) :
    CalG P w K mg base f_law fd_law "law" 6 ps_law sg_law F_law := by
  have C__law_draw : Cal P w K mg base f__law_draw fd__law_draw "_law_draw" 1 ps__law_draw sg__law_draw F__law_draw := c__law_draw (k := 0) D__law_draw z_list
  have C__law_bound : Cal P w K mg base f__law_bound fd__law_bound "_law_bound" 1 ps__law_bound sg__law_bound F__law_bound := c__law_bound (k := 0) D__law_bound z_min
  have C__law_least : Cal P w K mg base f__law_least fd__law_least "_law_least" 2 ps__law_least sg__law_least F__law_least := c__law_least (k := 1) D__law_least (C__law_bound.mono (by decide)) z_range z_min z_any
  have C__law_next : Cal P w K mg base f__law_next fd__law_next "_law_next" 1 ps__law_next sg__law_next F__law_next := c__law_next (k := 0) D__law_next z_int z_len z_abs
  have C__law_plan : Cal P w K mg base f__law_plan fd__law_plan "_law_plan" 2 ps__law_plan sg__law_plan F__law_plan := c__law_plan (k := 1) D__law_plan (C__law_next.mono (by decide)) z_range z_len z_tuple
  have C__law_same : CalG P w K mg base f__law_same fd__law_same "_law_same" 1 ps__law_same sg__law_same F__law_same := c__law_same (k := 0) D__law_same z_repr
  have C__law_sets : Cal P w K mg base f__law_sets fd__law_sets "_law_sets" 1 ps__law_sets sg__law_sets F__law_sets := c__law_sets (k := 0) D__law_sets z_range
  have C__law_reach : Cal P w K mg base f__law_reach fd__law_reach "_law_reach" 1 ps__law_reach sg__law_reach F__law_reach := c__law_reach (k := 0) D__law_reach
  have C__law_times : Cal P w K mg base f__law_times fd__law_times "_law_times" 3 ps__law_times sg__law_times F__law_times := c__law_times (k := 2) D__law_times (C__law_reach.mono (by decide)) (C__law_least.mono (by decide)) z_list z_range z_tuple
  have C_Bounds_get : CalM P w K mg base f_Bounds_get fd_Bounds_get C_Bounds "get" 1 ps_Bounds_get sg_Bounds_get F_Bounds_get := c_Bounds_get (k := 0) D_Bounds_get K_Bounds n_Bounds_least
  have C_Bounds_add : CalM P w K mg base f_Bounds_add fd_Bounds_add C_Bounds "add" 1 ps_Bounds_add sg_Bounds_add F_Bounds_add := c_Bounds_add (k := 0) D_Bounds_add K_Bounds n_Bounds_ring n_Bounds_least n_Bounds_way n_Bounds_events z_range
  have C_Bounds_init : CalI P w K mg base f_Bounds_init fd_Bounds_init "Bounds" C_Bounds 2 ps_Bounds_init 2 ["events", "least", "way", "ring"] [.sh, (.oT .sh), (.oT .sh), .sh] [] F_Bounds_init := c_Bounds_init (k := 1) D_Bounds_init mk_Bounds kc_Bounds (C_Bounds_add.mono (by decide)) K_Bounds n_Bounds_events n_Bounds_least n_Bounds_way n_Bounds_ring z_range
  have C_steps_of : Cal P w K mg base f_steps_of fd_steps_of "steps_of" 1 ps_steps_of sg_steps_of F_steps_of := c_steps_of (k := 0) D_steps_of
  have C_have_times : Cal P w K mg base f_have_times fd_have_times "have_times" 4 ps_have_times sg_have_times F_have_times := c_have_times (k := 3) D_have_times (C_steps_of.mono (by decide)) C_Bounds_init (by omega) K_Bounds n_Bounds_ring z_max
  have C_agree : Cal P w K mg base f_agree fd_agree "agree" 5 ps_agree sg_agree F_agree := c_agree (k := 4) D_agree (C_have_times.mono (by decide))
  have C_first_quarrel : Cal P w K mg base f_first_quarrel fd_first_quarrel "first_quarrel" 5 ps_first_quarrel sg_first_quarrel F_first_quarrel := c_first_quarrel (k := 4) D_first_quarrel (C_have_times.mono (by decide)) z_len z_range g_combinations
  have C_fixed : Cal P w K mg base f_fixed fd_fixed "fixed" 1 ps_fixed sg_fixed F_fixed := c_fixed (k := 0) D_fixed
  have C_times_by : Cal P w K mg base f_times_by fd_times_by "times_by" 2 ps_times_by sg_times_by F_times_by := c_times_by (k := 1) D_times_by (C_Bounds_get.mono (by decide)) (C_Bounds_add.mono (by decide)) K_Bounds n_Bounds_events z_range z_tuple
  have C_mended : Cal P w K mg base f_mended fd_mended "mended" 4 ps_mended sg_mended F_mended := c_mended (k := 3) D_mended C_Bounds_init (by omega) (C_steps_of.mono (by decide)) (C_fixed.mono (by decide)) (C_times_by.mono (by decide)) K_Bounds n_Bounds_ring z_list z_range g_combinations
  have C_strain : Cal P w K mg base f_strain fd_strain "strain" 4 ps_strain sg_strain F_strain := c_strain (k := 3) D_strain C_Bounds_init (by omega) (C_steps_of.mono (by decide)) K_Bounds n_Bounds_ring z_range z_len z_enumerate g_combinations
  have C_law : CalG P w K mg base f_law fd_law "law" 6 ps_law sg_law F_law := c_law (k := 5) D_law (C__law_draw.mono (by decide)) (C__law_plan.mono (by decide)) (C__law_next.mono (by decide)) (C__law_sets.mono (by decide)) (C__law_least.mono (by decide)) (C__law_times.mono (by decide)) (C__law_same.mono (by decide)) (C_mended.mono (by decide)) (C_strain.mono (by decide)) (C_agree.mono (by decide)) (C_first_quarrel.mono (by decide)) z_range z_tuple z_list z_len z_max
  exact C_law
set_option maxHeartbeats 0 in
theorem all_mk {l : PySem.W.OpenLaw} {w : World} {K : PySem.W.Frag} {h : Heap} {mg : Str → Option Value} {fa : Addr} (X : K.In h) (G : h.Ns mainGlobals mg) (hfa : mg "law" = some (.ref fa))
    {f0 : Addr} {od0 an0 : Option Addr} {sl0 : Array (Option Value)} {oc0 kV0 dc0 pm0 cd0 ct0 : Value}
    {f1 : Addr} {od1 an1 : Option Addr} {sl1 : Array (Option Value)} {oc1 kV1 dc1 pm1 cd1 ct1 : Value}
    {f2 : Addr} {od2 an2 : Option Addr} {sl2 : Array (Option Value)} {oc2 kV2 dc2 pm2 cd2 ct2 : Value}
    {f3 : Addr} {od3 an3 : Option Addr} {sl3 : Array (Option Value)} {oc3 kV3 dc3 pm3 cd3 ct3 : Value}
    {f4 : Addr} {od4 an4 : Option Addr} {sl4 : Array (Option Value)} {oc4 kV4 dc4 pm4 cd4 ct4 : Value}
    {f5 : Addr} {od5 an5 : Option Addr} {sl5 : Array (Option Value)} {oc5 kV5 dc5 pm5 cd5 ct5 : Value}
    {f6 : Addr} {od6 an6 : Option Addr} {sl6 : Array (Option Value)} {oc6 kV6 dc6 pm6 cd6 ct6 : Value}
    {f7 : Addr} {od7 an7 : Option Addr} {sl7 : Array (Option Value)} {oc7 kV7 dc7 pm7 cd7 ct7 : Value}
    {f8 : Addr} {od8 an8 : Option Addr} {sl8 : Array (Option Value)} {oc8 kV8 dc8 pm8 cd8 ct8 : Value}
    {f9 : Addr} {od9 an9 : Option Addr} {sl9 : Array (Option Value)} {oc9 kV9 dc9 pm9 cd9 ct9 : Value}
    {f10 : Addr} {od10 an10 : Option Addr} {sl10 : Array (Option Value)} {oc10 kV10 dc10 pm10 cd10 ct10 : Value}
    {f11 : Addr} {od11 an11 : Option Addr} {sl11 : Array (Option Value)} {oc11 kV11 dc11 pm11 cd11 ct11 : Value}
    {f12 : Addr} {od12 an12 : Option Addr} {sl12 : Array (Option Value)} {oc12 kV12 dc12 pm12 cd12 ct12 : Value}
    {f13 : Addr} {od13 an13 : Option Addr} {sl13 : Array (Option Value)} {oc13 kV13 dc13 pm13 cd13 ct13 : Value}
    {f14 : Addr} {od14 an14 : Option Addr} {sl14 : Array (Option Value)} {oc14 kV14 dc14 pm14 cd14 ct14 : Value}
    {f15 : Addr} {od15 an15 : Option Addr} {sl15 : Array (Option Value)} {oc15 kV15 dc15 pm15 cd15 ct15 : Value}
    {f16 : Addr} {od16 an16 : Option Addr} {sl16 : Array (Option Value)} {oc16 kV16 dc16 pm16 cd16 ct16 : Value}
    {f17 : Addr} {od17 an17 : Option Addr} {sl17 : Array (Option Value)} {oc17 kV17 dc17 pm17 cd17 ct17 : Value}
    {f18 : Addr} {od18 an18 : Option Addr} {sl18 : Array (Option Value)} {oc18 kV18 dc18 pm18 cd18 ct18 : Value}
    {f19 : Addr} {od19 an19 : Option Addr} {sl19 : Array (Option Value)} {oc19 kV19 dc19 pm19 cd19 ct19 : Value}
    {f20 : Addr} {od20 an20 : Option Addr} {sl20 : Array (Option Value)} {oc20 kV20 dc20 pm20 cd20 ct20 : Value}
    {C_Bounds : Addr}
    (a0 : PySem.W.nsIn K mainGlobals "_law_draw" = some (some (.ref f0))) (l0 : K.lookup f0 = some ⟨oc0, od0, .func (PySem.W.fnOf "_law_draw" "_law_draw" (defArgs s__law_draw) (defBody s__law_draw) (defScope s__law_draw) .none kV0 dc0 pm0 an0 cd0 ct0), sl0⟩) (c0 : PySem.W.codeIn K cd0 "_law_draw" = true) (k0 : PySem.W.keepIn K (.ref f0) = true)
    (a1 : PySem.W.nsIn K mainGlobals "_law_bound" = some (some (.ref f1))) (l1 : K.lookup f1 = some ⟨oc1, od1, .func (PySem.W.fnOf "_law_bound" "_law_bound" (defArgs s__law_bound) (defBody s__law_bound) (defScope s__law_bound) .none kV1 dc1 pm1 an1 cd1 ct1), sl1⟩) (c1 : PySem.W.codeIn K cd1 "_law_bound" = true) (k1 : PySem.W.keepIn K (.ref f1) = true)
    (a2 : PySem.W.nsIn K mainGlobals "_law_least" = some (some (.ref f2))) (l2 : K.lookup f2 = some ⟨oc2, od2, .func (PySem.W.fnOf "_law_least" "_law_least" (defArgs s__law_least) (defBody s__law_least) (defScope s__law_least) .none kV2 dc2 pm2 an2 cd2 ct2), sl2⟩) (c2 : PySem.W.codeIn K cd2 "_law_least" = true) (k2 : PySem.W.keepIn K (.ref f2) = true)
    (a3 : PySem.W.nsIn K mainGlobals "_law_next" = some (some (.ref f3))) (l3 : K.lookup f3 = some ⟨oc3, od3, .func (PySem.W.fnOf "_law_next" "_law_next" (defArgs s__law_next) (defBody s__law_next) (defScope s__law_next) .none kV3 dc3 pm3 an3 cd3 ct3), sl3⟩) (c3 : PySem.W.codeIn K cd3 "_law_next" = true) (k3 : PySem.W.keepIn K (.ref f3) = true)
    (a4 : PySem.W.nsIn K mainGlobals "_law_plan" = some (some (.ref f4))) (l4 : K.lookup f4 = some ⟨oc4, od4, .func (PySem.W.fnOf "_law_plan" "_law_plan" (defArgs s__law_plan) (defBody s__law_plan) (defScope s__law_plan) .none kV4 dc4 pm4 an4 cd4 ct4), sl4⟩) (c4 : PySem.W.codeIn K cd4 "_law_plan" = true) (k4 : PySem.W.keepIn K (.ref f4) = true)
    (a5 : PySem.W.nsIn K mainGlobals "_law_same" = some (some (.ref f5))) (l5 : K.lookup f5 = some ⟨oc5, od5, .func (PySem.W.fnOf "_law_same" "_law_same" (defArgs s__law_same) (defBody s__law_same) (defScope s__law_same) .none kV5 dc5 pm5 an5 cd5 ct5), sl5⟩) (c5 : PySem.W.codeIn K cd5 "_law_same" = true) (k5 : PySem.W.keepIn K (.ref f5) = true)
    (a6 : PySem.W.nsIn K mainGlobals "_law_sets" = some (some (.ref f6))) (l6 : K.lookup f6 = some ⟨oc6, od6, .func (PySem.W.fnOf "_law_sets" "_law_sets" (defArgs s__law_sets) (defBody s__law_sets) (defScope s__law_sets) .none kV6 dc6 pm6 an6 cd6 ct6), sl6⟩) (c6 : PySem.W.codeIn K cd6 "_law_sets" = true) (k6 : PySem.W.keepIn K (.ref f6) = true)
    (a7 : PySem.W.nsIn K mainGlobals "_law_reach" = some (some (.ref f7))) (l7 : K.lookup f7 = some ⟨oc7, od7, .func (PySem.W.fnOf "_law_reach" "_law_reach" (defArgs s__law_reach) (defBody s__law_reach) (defScope s__law_reach) .none kV7 dc7 pm7 an7 cd7 ct7), sl7⟩) (c7 : PySem.W.codeIn K cd7 "_law_reach" = true) (k7 : PySem.W.keepIn K (.ref f7) = true)
    (a8 : PySem.W.nsIn K mainGlobals "_law_times" = some (some (.ref f8))) (l8 : K.lookup f8 = some ⟨oc8, od8, .func (PySem.W.fnOf "_law_times" "_law_times" (defArgs s__law_times) (defBody s__law_times) (defScope s__law_times) .none kV8 dc8 pm8 an8 cd8 ct8), sl8⟩) (c8 : PySem.W.codeIn K cd8 "_law_times" = true) (k8 : PySem.W.keepIn K (.ref f8) = true)
    (a9 : PySem.W.findIn K (.ref C_Bounds) "get" = some (some (.ref f9))) (i_9 : PySem.W.isFn K (.ref f9) = true) (l9 : K.lookup f9 = some ⟨oc9, od9, .func (PySem.W.fnOf "get" "Bounds.get" (defArgs s_Bounds_get) (defBody s_Bounds_get) (defScope s_Bounds_get) .none kV9 dc9 pm9 an9 cd9 ct9), sl9⟩) (c9 : PySem.W.codeIn K cd9 "Bounds.get" = true) (k9 : PySem.W.keepIn K (.ref f9) = true)
    (a10 : PySem.W.findIn K (.ref C_Bounds) "add" = some (some (.ref f10))) (i_10 : PySem.W.isFn K (.ref f10) = true) (l10 : K.lookup f10 = some ⟨oc10, od10, .func (PySem.W.fnOf "add" "Bounds.add" (defArgs s_Bounds_add) (defBody s_Bounds_add) (defScope s_Bounds_add) .none kV10 dc10 pm10 an10 cd10 ct10), sl10⟩) (c10 : PySem.W.codeIn K cd10 "Bounds.add" = true) (k10 : PySem.W.keepIn K (.ref f10) = true)
    (a11 : PySem.W.findIn K (.ref C_Bounds) "__init__" = some (some (.ref f11))) (i_11 : PySem.W.isFn K (.ref f11) = true) (l11 : K.lookup f11 = some ⟨oc11, od11, .func (PySem.W.fnOf "__init__" "Bounds.__init__" (defArgs s_Bounds_init) (defBody s_Bounds_init) (defScope s_Bounds_init) .none kV11 dc11 pm11 an11 cd11 ct11), sl11⟩) (c11 : PySem.W.codeIn K cd11 "Bounds.__init__" = true) (k11 : PySem.W.keepIn K (.ref f11) = true)
    (a12 : PySem.W.nsIn K mainGlobals "steps_of" = some (some (.ref f12))) (l12 : K.lookup f12 = some ⟨oc12, od12, .func (PySem.W.fnOf "steps_of" "steps_of" (defArgs s_steps_of) (defBody s_steps_of) (defScope s_steps_of) .none kV12 dc12 pm12 an12 cd12 ct12), sl12⟩) (c12 : PySem.W.codeIn K cd12 "steps_of" = true) (k12 : PySem.W.keepIn K (.ref f12) = true)
    (a13 : PySem.W.nsIn K mainGlobals "have_times" = some (some (.ref f13))) (l13 : K.lookup f13 = some ⟨oc13, od13, .func (PySem.W.fnOf "have_times" "have_times" (defArgs s_have_times) (defBody s_have_times) (defScope s_have_times) .none kV13 dc13 pm13 an13 cd13 ct13), sl13⟩) (c13 : PySem.W.codeIn K cd13 "have_times" = true) (k13 : PySem.W.keepIn K (.ref f13) = true)
    (a14 : PySem.W.nsIn K mainGlobals "agree" = some (some (.ref f14))) (l14 : K.lookup f14 = some ⟨oc14, od14, .func (PySem.W.fnOf "agree" "agree" (defArgs s_agree) (defBody s_agree) (defScope s_agree) .none kV14 dc14 pm14 an14 cd14 ct14), sl14⟩) (c14 : PySem.W.codeIn K cd14 "agree" = true) (k14 : PySem.W.keepIn K (.ref f14) = true)
    (a15 : PySem.W.nsIn K mainGlobals "first_quarrel" = some (some (.ref f15))) (l15 : K.lookup f15 = some ⟨oc15, od15, .func (PySem.W.fnOf "first_quarrel" "first_quarrel" (defArgs s_first_quarrel) (defBody s_first_quarrel) (defScope s_first_quarrel) .none kV15 dc15 pm15 an15 cd15 ct15), sl15⟩) (c15 : PySem.W.codeIn K cd15 "first_quarrel" = true) (k15 : PySem.W.keepIn K (.ref f15) = true)
    (a16 : PySem.W.nsIn K mainGlobals "fixed" = some (some (.ref f16))) (l16 : K.lookup f16 = some ⟨oc16, od16, .func (PySem.W.fnOf "fixed" "fixed" (defArgs s_fixed) (defBody s_fixed) (defScope s_fixed) .none kV16 dc16 pm16 an16 cd16 ct16), sl16⟩) (c16 : PySem.W.codeIn K cd16 "fixed" = true) (k16 : PySem.W.keepIn K (.ref f16) = true)
    (a17 : PySem.W.nsIn K mainGlobals "times_by" = some (some (.ref f17))) (l17 : K.lookup f17 = some ⟨oc17, od17, .func (PySem.W.fnOf "times_by" "times_by" (defArgs s_times_by) (defBody s_times_by) (defScope s_times_by) .none kV17 dc17 pm17 an17 cd17 ct17), sl17⟩) (c17 : PySem.W.codeIn K cd17 "times_by" = true) (k17 : PySem.W.keepIn K (.ref f17) = true)
    (a18 : PySem.W.nsIn K mainGlobals "mended" = some (some (.ref f18))) (l18 : K.lookup f18 = some ⟨oc18, od18, .func (PySem.W.fnOf "mended" "mended" (defArgs s_mended) (defBody s_mended) (defScope s_mended) .none kV18 dc18 pm18 an18 cd18 ct18), sl18⟩) (c18 : PySem.W.codeIn K cd18 "mended" = true) (k18 : PySem.W.keepIn K (.ref f18) = true)
    (a19 : PySem.W.nsIn K mainGlobals "strain" = some (some (.ref f19))) (l19 : K.lookup f19 = some ⟨oc19, od19, .func (PySem.W.fnOf "strain" "strain" (defArgs s_strain) (defBody s_strain) (defScope s_strain) .none kV19 dc19 pm19 an19 cd19 ct19), sl19⟩) (c19 : PySem.W.codeIn K cd19 "strain" = true) (k19 : PySem.W.keepIn K (.ref f19) = true)
    (a20 : PySem.W.nsIn K mainGlobals "law" = some (some (.ref f20))) (l20 : K.lookup f20 = some ⟨oc20, od20, .func (PySem.W.fnOf "law" "law" (defArgs s_law) (defBody s_law) (defScope s_law) .none kV20 dc20 pm20 an20 cd20 ct20), sl20⟩) (c20 : PySem.W.codeIn K cd20 "law" = true) (k20 : PySem.W.keepIn K (.ref f20) = true)
    (aC_Bounds : PySem.W.nsIn K mainGlobals "Bounds" = some (some (.ref C_Bounds))) (pg_Bounds : PySem.W.plainGet K C_Bounds Str.empty = true) (hd_Bounds : PySem.W.hasDictIn K C_Bounds = true) (po_Bounds : PySem.W.plainOver K C_Bounds = true) (sa_Bounds : PySem.W.findIn K (.ref C_Bounds) "__setattr__" = some (some (.builtin "object.__setattr__")))
    (mk_Bounds : PySem.W.makesIn K C_Bounds = true) (kc_Bounds : PySem.W.keepIn K (.ref C_Bounds) = true)
    (n_Bounds_events : PySem.W.findIn K (.ref C_Bounds) "events" = some none)
    (n_Bounds_least : PySem.W.findIn K (.ref C_Bounds) "least" = some none)
    (n_Bounds_ring : PySem.W.findIn K (.ref C_Bounds) "ring" = some none)
    (n_Bounds_way : PySem.W.findIn K (.ref C_Bounds) "way" = some none)
    (z0 : PySem.W.nsIn K mainGlobals "abs" = some none)
    (z1 : PySem.W.nsIn K mainGlobals "any" = some none)
    (z2 : PySem.W.nsIn K mainGlobals "enumerate" = some none)
    (z3 : PySem.W.nsIn K mainGlobals "int" = some none)
    (z4 : PySem.W.nsIn K mainGlobals "len" = some none)
    (z5 : PySem.W.nsIn K mainGlobals "list" = some none)
    (z6 : PySem.W.nsIn K mainGlobals "max" = some none)
    (z7 : PySem.W.nsIn K mainGlobals "min" = some none)
    (z8 : PySem.W.nsIn K mainGlobals "range" = some none)
    (z9 : PySem.W.nsIn K mainGlobals "repr" = some none)
    (z10 : PySem.W.nsIn K mainGlobals "tuple" = some none)
    (i0 : PySem.W.nsIn K mainGlobals "combinations" = some (some (.type "itertools.combinations"))) :
    ∃ fd : FuncData, (∀ (s : Shared) (v : Value), BindsTo s fd ⟨[v], []⟩ [("script", v)]) ∧ ∀ base : Heap, K.In base → base.Ns mainGlobals mg → FnG l.prog w K mg base 6 fa fd ["script"] (spD K mg sgL F_law) := by
  have e := hfa.symm.trans (PySem.W.mg_of X G a20)
  cases e
  have F0 := fun_mk (st := s__law_draw) l0 c0 k0
  have D0 : Dfn K mg "_law_draw" s__law_draw ps__law_draw _ _ := ⟨F0, PySem.W.mg_of X G a0, F0.binds (ps := ps__law_draw) fun _ _ _ _ _ _ us hl => match us, hl with | [_], _ => rfl⟩
  have F1 := fun_mk (st := s__law_bound) l1 c1 k1
  have D1 : Dfn K mg "_law_bound" s__law_bound ps__law_bound _ _ := ⟨F1, PySem.W.mg_of X G a1, F1.binds (ps := ps__law_bound) fun _ _ _ _ _ _ us hl => match us, hl with | [_, _, _], _ => rfl⟩
  have F2 := fun_mk (st := s__law_least) l2 c2 k2
  have D2 : Dfn K mg "_law_least" s__law_least ps__law_least _ _ := ⟨F2, PySem.W.mg_of X G a2, F2.binds (ps := ps__law_least) fun _ _ _ _ _ _ us hl => match us, hl with | [_, _], _ => rfl⟩
  have F3 := fun_mk (st := s__law_next) l3 c3 k3
  have D3 : Dfn K mg "_law_next" s__law_next ps__law_next _ _ := ⟨F3, PySem.W.mg_of X G a3, F3.binds (ps := ps__law_next) fun _ _ _ _ _ _ us hl => match us, hl with | [_, _], _ => rfl⟩
  have F4 := fun_mk (st := s__law_plan) l4 c4 k4
  have D4 : Dfn K mg "_law_plan" s__law_plan ps__law_plan _ _ := ⟨F4, PySem.W.mg_of X G a4, F4.binds (ps := ps__law_plan) fun _ _ _ _ _ _ us hl => match us, hl with | [_, _, _], _ => rfl⟩
  have F5 := fun_mk (st := s__law_same) l5 c5 k5
  have D5 : Dfn K mg "_law_same" s__law_same ps__law_same _ _ := ⟨F5, PySem.W.mg_of X G a5, F5.binds (ps := ps__law_same) fun _ _ _ _ _ _ us hl => match us, hl with | [_, _], _ => rfl⟩
  have F6 := fun_mk (st := s__law_sets) l6 c6 k6
  have D6 : Dfn K mg "_law_sets" s__law_sets ps__law_sets _ _ := ⟨F6, PySem.W.mg_of X G a6, F6.binds (ps := ps__law_sets) fun _ _ _ _ _ _ us hl => match us, hl with | [_, _], _ => rfl⟩
  have F7 := fun_mk (st := s__law_reach) l7 c7 k7
  have D7 : Dfn K mg "_law_reach" s__law_reach ps__law_reach _ _ := ⟨F7, PySem.W.mg_of X G a7, F7.binds (ps := ps__law_reach) fun _ _ _ _ _ _ us hl => match us, hl with | [_, _, _], _ => rfl⟩
  have F8 := fun_mk (st := s__law_times) l8 c8 k8
  have D8 : Dfn K mg "_law_times" s__law_times ps__law_times _ _ := ⟨F8, PySem.W.mg_of X G a8, F8.binds (ps := ps__law_times) fun _ _ _ _ _ _ us hl => match us, hl with | [_, _], _ => rfl⟩
  have F9 := fun_mk (st := s_Bounds_get) l9 c9 k9
  have D9 : DfnM K "get" "Bounds.get" s_Bounds_get C_Bounds ps_Bounds_get [] _ _ := ⟨F9, a9, i_9, F9.binds (ps := ps_Bounds_get) fun _ _ _ _ _ _ us hl => match us, hl with | [_, _, _], _ => rfl⟩
  have F10 := fun_mk (st := s_Bounds_add) l10 c10 k10
  have D10 : DfnM K "add" "Bounds.add" s_Bounds_add C_Bounds ps_Bounds_add [] _ _ := ⟨F10, a10, i_10, F10.binds (ps := ps_Bounds_add) fun _ _ _ _ _ _ us hl => match us, hl with | [_, _, _, _], _ => rfl⟩
  have F11 := fun_mk (st := s_Bounds_init) l11 c11 k11
  have D11 : DfnM K "__init__" "Bounds.__init__" s_Bounds_init C_Bounds ps_Bounds_init [] _ _ := ⟨F11, a11, i_11, F11.binds (ps := ps_Bounds_init) fun _ _ _ _ _ _ us hl => match us, hl with | [_, _, _], _ => rfl⟩
  have F12 := fun_mk (st := s_steps_of) l12 c12 k12
  have D12 : Dfn K mg "steps_of" s_steps_of ps_steps_of _ _ := ⟨F12, PySem.W.mg_of X G a12, F12.binds (ps := ps_steps_of) fun _ _ _ _ _ _ us hl => match us, hl with | [_], _ => rfl⟩
  have F13 := fun_mk (st := s_have_times) l13 c13 k13
  have D13 : Dfn K mg "have_times" s_have_times ps_have_times _ _ := ⟨F13, PySem.W.mg_of X G a13, F13.binds (ps := ps_have_times) fun _ _ _ _ _ _ us hl => match us, hl with | [_], _ => rfl⟩
  have F14 := fun_mk (st := s_agree) l14 c14 k14
  have D14 : Dfn K mg "agree" s_agree ps_agree _ _ := ⟨F14, PySem.W.mg_of X G a14, F14.binds (ps := ps_agree) fun _ _ _ _ _ _ us hl => match us, hl with | [_, _], _ => rfl⟩
  have F15 := fun_mk (st := s_first_quarrel) l15 c15 k15
  have D15 : Dfn K mg "first_quarrel" s_first_quarrel ps_first_quarrel _ _ := ⟨F15, PySem.W.mg_of X G a15, F15.binds (ps := ps_first_quarrel) fun _ _ _ _ _ _ us hl => match us, hl with | [_], _ => rfl⟩
  have F16 := fun_mk (st := s_fixed) l16 c16 k16
  have D16 : Dfn K mg "fixed" s_fixed ps_fixed _ _ := ⟨F16, PySem.W.mg_of X G a16, F16.binds (ps := ps_fixed) fun _ _ _ _ _ _ us hl => match us, hl with | [_, _], _ => rfl⟩
  have F17 := fun_mk (st := s_times_by) l17 c17 k17
  have D17 : Dfn K mg "times_by" s_times_by ps_times_by _ _ := ⟨F17, PySem.W.mg_of X G a17, F17.binds (ps := ps_times_by) fun _ _ _ _ _ _ us hl => match us, hl with | [_], _ => rfl⟩
  have F18 := fun_mk (st := s_mended) l18 c18 k18
  have D18 : Dfn K mg "mended" s_mended ps_mended _ _ := ⟨F18, PySem.W.mg_of X G a18, F18.binds (ps := ps_mended) fun _ _ _ _ _ _ us hl => match us, hl with | [_, _], _ => rfl⟩
  have F19 := fun_mk (st := s_strain) l19 c19 k19
  have D19 : Dfn K mg "strain" s_strain ps_strain _ _ := ⟨F19, PySem.W.mg_of X G a19, F19.binds (ps := ps_strain) fun _ _ _ _ _ _ us hl => match us, hl with | [_], _ => rfl⟩
  have F20 := fun_mk (st := s_law) l20 c20 k20
  have D20 : Dfn K mg "law" s_law ps_law _ _ := ⟨F20, PySem.W.mg_of X G a20, F20.binds (ps := ps_law) fun _ _ _ _ _ _ us hl => match us, hl with | [_], _ => rfl⟩
  have KK_Bounds : KCl K mg "Bounds" C_Bounds := ⟨PySem.W.mg_of X G aC_Bounds, ⟨pg_Bounds, hd_Bounds, po_Bounds, sa_Bounds⟩⟩
  exact ⟨_, fun s v => .of_eq rfl, fun base _ _ => (law_cal (base := base) D0 D1 D2 D3 D4 D5 D6 D7 D8 D9 D10 D11 D12 D13 D14 D15 D16 D17 D18 D19 D20 KK_Bounds mk_Bounds kc_Bounds n_Bounds_events n_Bounds_least n_Bounds_ring n_Bounds_way (PySem.W.mg_none_of X G z0) (PySem.W.mg_none_of X G z1) (PySem.W.mg_none_of X G z2) (PySem.W.mg_none_of X G z3) (PySem.W.mg_none_of X G z4) (PySem.W.mg_none_of X G z5) (PySem.W.mg_none_of X G z6) (PySem.W.mg_none_of X G z7) (PySem.W.mg_none_of X G z8) (PySem.W.mg_none_of X G z9) (PySem.W.mg_none_of X G z10) (PySem.W.mg_of X G i0)).ok⟩
end K64

namespace K64
open PySem PySem.Spec PyProof.Rows L2 TL PL
theorem e_next : F__law_next = PL.F__law_next := rfl
theorem e_plan : F__law_plan = PL.F__law_plan := rfl
theorem e_least : F__law_least = PL.F__law_least := rfl
theorem e_times : F__law_times = PL.F__law_times := rfl
theorem e_steps : F_steps_of = PL.F_steps_of := rfl
theorem e_init : F_Bounds_init = PL.F_Bounds_init := rfl
theorem e_times_by : F_times_by = PL.F_times_by := rfl
/-! ### sets, the shorter ones first -/
def okT (row : List Nat) (t : Nat) : Bool := row.isEmpty || decide (row.getLastD 0 < t)
def ext1 (things : List Nat) (row : List Nat) : List (List Nat) := (things.filter (okT row)).map fun t => row ++ [t]
def rowsAt (things : List Nat) : Nat → List (List Nat)
  | 0 => [[]]
  | k + 1 => (rowsAt things k).flatMap (ext1 things)
def lsets (things : List Nat) (most : Nat) : List (List Nat) := (List.range (most + 1)).flatMap (rowsAt things)
theorem lsets_succ (things : List Nat) (k : Nat) : lsets things (k + 1) = lsets things k ++ rowsAt things (k + 1) := by
  unfold lsets
  rw [List.range_succ (n := k + 1), List.flatMap_append]; simp
theorem row_len (things : List Nat) : ∀ (k : Nat), ∀ row ∈ rowsAt things k, row.length = k
  | 0, row, h => by simp [rowsAt] at h; subst h; rfl
  | k + 1, row, h => by
    unfold rowsAt at h
    obtain ⟨r, h1, h2⟩ := List.mem_flatMap.mp h
    unfold ext1 at h2
    obtain ⟨t, _, rfl⟩ := List.mem_map.mp h2
    simp [row_len things k r h1]
theorem ext1_len (things row : List Nat) : (ext1 things row).length ≤ things.length := by
  unfold ext1
  rw [List.length_map]
  exact List.length_filter_le _ _
theorem rows_len (things : List Nat) (k : Nat) : (rowsAt things (k + 1)).length ≤ (rowsAt things k).length * things.length := len_flat _ _ _ fun r _ => ext1_len things r
theorem ev_nil (row : List Nat) : dEq (evD row) (.tup []) = some (.bl row.isEmpty) := by
  have h : pyOk 40 (evD row) = true := by simp [evD, pyOk]
  unfold dEq
  rw [h]
  cases row <;> simp [evD, dq, dqs, pyOk]
theorem last_ix (row : List Nat) (h : row ≠ []) : atI (row.map fun e : Nat => D.int (e : Int)) (-1) = some (.int ((row.getLastD 0 : Nat) : Int)) := by
  unfold L2.atI
  have hl := List.length_pos_iff.mpr h
  simp only [List.length_map]
  have e1 : List.getLastD row 0 = row[row.length - 1] := by
    rw [List.getLastD_eq_getLast?, List.getLast?_eq_getElem?, List.getElem?_eq_getElem (by omega)]; rfl
  have e2 : L2.ixN row.length (-1) = some (row.length - 1) := by
    unfold L2.ixN
    have : ((-1 : Int) + (row.length : Int)).toNat = row.length - 1 := by omega
    simp
    omega
  rw [e2, e1]
  simp [List.getElem?_eq_getElem (show row.length - 1 < row.length by omega)]
theorem sets_ok (things : List Nat) (most : Nat) (ht : things.length ≤ 20) (hm : most ≤ 5) (hb : ∀ k ≤ most, (rowsAt things k).length ≤ 2000) :
    F__law_sets [.lst (things.map nD), .int most] = some (.lst ((lsets things most).map evD), [.lst (things.map nD), .int most]) := by
  unfold F__law_sets b__law_sets
  rw [v_run2]
  have lp := loop_inv (b := stepB (gNm 2) q4__law_sets) (ks := [2, 5, 6]) nD (fun s : List (List Nat) × List (List Nat) => [.lst (things.map nD), .int most, .non, .lst (s.1.map evD), .lst (s.2.map evD), .non, .non, .non]) (fun pre s => s = (rowsAt things pre.length, lsets things pre.length) ∧ s.2.length ≤ 2000 * (pre.length + 1)) (List.range most) [] ([[]], [[]]) ⟨rfl, by simp⟩ fun pre k post eq s ⟨h1, h2⟩ => by
    obtain ⟨ek, hk⟩ := range_split (by simpa using eq)
    rw [← ek] at h1 h2
    subst h1
    simp only at h2
    have lp : (pre ++ [k]).length = k + 1 := by simp; omega
    rw [lp]
    have b1 := hb k (by omega)
    have b2 := hb (k + 1) (by omega)
    refine ⟨(rowsAt things (k + 1), lsets things (k + 1)), ?_, rfl, by simp only [lsets_succ, List.length_append] at h2 ⊢; omega⟩
    have hrow := row_len things k
    have hmul : (rowsAt things k).length * things.length ≤ 2000 * 20 := Nat.mul_le_mul b1 ht
    have l3 := loop_ext (b := stepB (gNm 6) q3__law_sets) (ks := [6]) evD (fun acc : List (List Nat) => [.lst (things.map nD), .int most, .int k, .lst ((rowsAt things k).map evD), .lst ((lsets things k).map evD), .lst (acc.map evD), .non, .non]) (ext1 things) things.length 60000 (rowsAt things k) [] (fun r _ => ext1_len things r) (by simp; omega) fun row hr acc ha => by
      have hl := hrow row hr
      have lc := lc_map (step := stepLc [7] (gNm 7) t1__law_sets e2__law_sets) nD (fun t => if okT row t then some (evD (row ++ [t])) else none) [.lst (things.map nD), .int most, .int k, .lst ((rowsAt things k).map evD), .lst ((lsets things k).map evD), .lst (acc.map evD), evD row, .non] things fun t _ => by
        have en := ev_nil row
        unfold t1__law_sets e2__law_sets okT
        have ev1 : evD row = .tup (row.map fun e : Nat => D.int (e : Int)) := rfl
        have ev2 : evD (row ++ [t]) = .tup ((row.map fun e : Nat => D.int (e : Int)) ++ [.int (t : Int)]) := by unfold evD; rw [List.map_append]; rfl
        rw [ev1] at en
        rw [ev1, ev2]
        have ok2 : okLen ((row.map fun e : Nat => D.int (e : Int)).length + 1) = true := okLen_of (by rw [List.length_map]; omega)
        have lx := last_ix row
        have nt : nD t = .int (t : Int) := rfl
        by_cases hrw : row = []
        · subst hrw
          simp at en ok2
          simp [okLen_of, en, nt, ok2]
        · have lx := lx hrw
          have he : row.isEmpty = false := by cases row; exact absurd rfl hrw; rfl
          rw [he] at en
          generalize (row.map fun e : Nat => D.int (e : Int)) = M at *
          generalize row.getLastD 0 = L at *
          by_cases hlt : L < t
          · have hlt' : (L : Int) < (t : Int) := by omega
            simp [okLen_of, en, nt, ok2, lx, hlt', hlt, he]
          · have hlt' : ¬ (L : Int) < (t : Int) := by omega
            simp [okLen_of, en, nt, ok2, lx, hlt', hlt, he]
      have el : things.filterMap (fun t => if okT row t then some (evD (row ++ [t])) else none) = (ext1 things row).map evD := by
        unfold ext1
        rw [List.map_map, ← List.filterMap_eq_map, List.filterMap_filter]
        rfl
      rw [el] at lc
      have o1 := ext1_len things row
      unfold q3__law_sets
      have ok1 : okLen (acc.length + (ext1 things row).length) = true := okLen_of (by omega)
      simp [lc, okLen_of (n := things.length) (by omega), ok1]
    rw [List.map_nil, List.nil_append] at l3
    have ok1 : okLen ((lsets things k).length + (rowsAt things (k + 1)).length) = true := okLen_of (by omega)
    have er : (rowsAt things k).flatMap (ext1 things) = rowsAt things (k + 1) := rfl
    rw [er] at l3
    have en : nD k = .int (k : Int) := rfl
    unfold q4__law_sets
    simp [okLen_of, en, l3, ok1, lsets_succ]
  obtain ⟨s, e1, ⟨e2, _⟩⟩ := lp
  subst e2
  simp at e1
  have s62 : small62 (most : Int) = true := s62_of (by omega) (by omega)
  have en : intsD 0 most = (List.range most).map nD := ints_nD most
  simp [okLen_of, s62, en, evD] at e1 ⊢
  simp [e1]
end K64

namespace K64
open PySem PySem.Spec PyProof.Rows L2 TL PL
/-! combinations are the sets -/
theorem mem_rows (things : List Nat) : ∀ (k : Nat), ∀ row ∈ rowsAt things k, ∀ j ∈ row, j ∈ things
  | 0, row, h, j, hj => by simp [rowsAt] at h; subst h; simp at hj
  | k + 1, row, h, j, hj => by
    unfold rowsAt at h
    obtain ⟨r, h1, h2⟩ := List.mem_flatMap.mp h
    unfold ext1 at h2
    obtain ⟨t, h3, rfl⟩ := List.mem_map.mp h2
    rcases List.mem_append.mp hj with z | z
    · exact mem_rows things k r h1 j z
    · have : j = t := by simpa using z
      subst this
      exact (List.mem_filter.mp h3).1
theorem cmb_dec : ∀ L, L < 21 → ∀ k, k < 4 → rowsC L k = some (rowsAt (List.range L) k) := by decide +kernel
theorem cnt_dec : ∀ L, L < 21 → ∀ k, k < 4 → (rowsAt (List.range L) k).length ≤ 2000 := by decide +kernel
theorem cmb_ev0 : ∀ n, n < 6 → ∀ k, k < n → (rowsC (n - 1) k).map (fun r => r.map fun idx => idx.map fun j => j + 1) = some (rowsAt (events n) k) := by decide +kernel
theorem cnt_ev : ∀ n, n < 6 → ∀ k, k < n → (rowsAt (events n) k).length ≤ 2000 := by decide +kernel
theorem lt_ev0 : ∀ n, n < 6 → ∀ k, k < n → ∀ idx ∈ (rowsC (n - 1) k).getD [], ∀ j ∈ idx, j < n - 1 := by decide +kernel
theorem cmb_rng (L k : Nat) (hL : L ≤ 20) (hk : k ≤ 3) : cmbD (intsD 0 L) (k : Int) = some ((rowsAt (List.range L) k).map evD) := by
  unfold cmbD
  rw [if_pos ⟨by omega, by omega, by rw [intsD_len]; exact okS_of (by omega)⟩, intsD_len, Int.toNat_natCast, cmb_dec L (by omega) k (by omega), Option.map_some]
  congr 1
  apply List.map_congr_left
  intro idx hi
  unfold cmbRow evD
  congr 1
  apply List.map_congr_left
  intro j hj
  have := List.mem_range.mp (mem_rows _ _ idx hi j hj)
  unfold intsD
  rw [List.getD_eq_getElem?_getD, List.getElem?_map, List.getElem?_range this]
  simp
theorem cmb_ev (n k : Nat) (hn : n < 6) (hk : k < n) : cmbD (intsD 1 (n - 1)) (k : Int) = some ((rowsAt (events n) k).map evD) := by
  have h0 := cmb_ev0 n hn k hk
  have h1 := lt_ev0 n hn k hk
  unfold cmbD
  rw [if_pos ⟨by omega, by omega, by rw [intsD_len]; exact okS_of (by omega)⟩, intsD_len, Int.toNat_natCast]
  cases h : rowsC (n - 1) k with
  | none => rw [h] at h0; cases h0
  | some rows =>
    rw [h] at h0 h1
    simp only [Option.map_some, Option.getD_some, Option.some.injEq] at h0 h1 ⊢
    rw [← h0, List.map_map]
    apply List.map_congr_left
    intro idx hi
    simp only [Function.comp]
    unfold cmbRow evD
    congr 1
    rw [List.map_map]
    apply List.map_congr_left
    intro j hj
    have := h1 idx hi j hj
    unfold intsD
    rw [List.getD_eq_getElem?_getD, List.getElem?_map, List.getElem?_range this]
    simp
    omega
theorem seqInts_ev (m : List Nat) : seqInts (evD m) = some (m.map fun e : Nat => (e : Int)) := by
  have := getInts_of (m.map fun e : Nat => (e : Int))
  rw [List.map_map] at this
  exact this
theorem notin_ok (e : Nat) (m : List Nat) : dNotInF (.int e) (evD m) = some (.bl (!m.contains e)) := by
  unfold dNotInF
  simp only [seqInts_ev, Option.map_some, Option.some.injEq, D.bl.injEq, List.any_map]
  congr 1
  rw [Bool.eq_iff_iff]
  simp
  exact ⟨fun ⟨x, h1, h2⟩ => (show x = e by omega) ▸ h1, fun h => ⟨e, h, rfl⟩⟩
/-! == of what is told -/
theorem rws_ints : ∀ (l : List Int), (∀ x ∈ l, x.natAbs ≤ 1000000000000000000) → rws (l.map D.int) = 22 * l.length
  | [], _ => rfl
  | x :: l, h => by
    have hx := h x (by simp)
    rw [List.map_cons]
    unfold rws
    rw [rws_ints l fun y hy => h y (by simp [hy])]
    unfold rw
    rw [if_pos (Nat.ble_eq_true_of_le hx)]
    simp; omega
theorem same_ok (d : D) (h1 : pyOk 40 d = true) (h2 : rw d ≤ 10000000) : F__law_same [d, d] = some (.bl true, [d, d]) := by
  have e : reprD d = some (.str (py d).shown) := by
    unfold reprD
    rw [h1, Nat.ble_eq_true_of_le h2]; rfl
  unfold F__law_same b__law_same
  rw [v_run2]
  simp [e]
theorem ev_rw (m : List Nat) (h : ∀ e ∈ m, e ≤ 1000) (hl : m.length ≤ 100) : pyOk 40 (evD m) = true ∧ rw (evD m) ≤ 3000 := by
  constructor
  · simp [evD, pyOk]
  · have := rws_ints (m.map fun e : Nat => (e : Int)) fun x hx => by
      obtain ⟨e, h1, rfl⟩ := List.mem_map.mp hx
      have := h e h1
      simp; omega
    rw [List.map_map] at this
    show rws _ + 3 ≤ 3000
    have e : (m.map fun e : Nat => D.int (e : Int)) = m.map (D.int ∘ fun e : Nat => (e : Int)) := rfl
    rw [e, this]
    simp; omega
end K64

namespace K64
open PySem PySem.Spec PyProof.Rows L2 TL PL
/-! Bounds and the law's least bounds -/
theorem ring_least {n : Nat} {T : List Stp} {L : List Link} (hn : n ≤ 6) (h : SOk n 60 L) (hT : ∀ s, s ∈ T ↔ s ∈ stepsOf L) : ((ofSteps n T).ring = none ↔ least n L ≠ none) ∧ ((ofSteps n T).ring = none → TT n 60 (ofSteps n T) L (n + T.length * (n * n))) := by
  have hin : ∀ s ∈ T, s.i < n ∧ s.j < n := fun s hs => by
    have := h.steps s ((hT s).mp hs)
    exact ⟨this.1, this.2.1⟩
  have B := BQ.of n T hin
  refine ⟨?_, fun hr => ⟨⟨T, B, hT⟩, hr, h⟩⟩
  rw [ring_iff B.p.I, Neg.congr hT]
  have := (least_fw hn (U := 60) ⟨by omega, by omega⟩ h).1
  constructor
  · exact fun a b => a (this.mp b)
  · exact fun a b => a (this.mpr b)
/-! events kept at their old times -/
def keptE (n : Nat) (moved : List Nat) : List Nat := (events n).filter fun e => !moved.contains e
def fixL (old : List Int) (e : Nat) : Link := ⟨0, e, old.getD e 0, some (old.getD e 0)⟩
def fix1 (old : List Int) (e : Nat) : List Stp := [⟨0, e, old.getD e 0⟩, ⟨e, 0, -(old.getD e 0)⟩]
def keptL (n : Nat) (old : List Int) (moved : List Nat) : List Link := (keptE n moved).map (fixL old)
def keptT (n : Nat) (ls : List Link) (old : List Int) (moved : List Nat) : List Stp := stepsOf ls ++ (keptE n moved).flatMap (fix1 old)
theorem keptE_mem {n : Nat} {moved : List Nat} {e : Nat} (h : e ∈ keptE n moved) : 1 ≤ e ∧ e < n := mem_events (List.mem_filter.mp h).1
theorem keptE_len (n : Nat) (moved : List Nat) : (keptE n moved).length ≤ n := by
  have := List.length_filter_le (fun e => !moved.contains e) (events n)
  have h2 : (events n).length = n - 1 := by simp [events]
  unfold keptE
  omega
theorem keptT_mem (n : Nat) (ls : List Link) (old : List Int) (moved : List Nat) (s : Stp) : s ∈ keptT n ls old moved ↔ s ∈ stepsOf (ls ++ keptL n old moved) := by
  unfold keptT keptL stepsOf
  rw [List.flatMap_append, List.mem_append, List.mem_append]
  have : (s ∈ (keptE n moved).flatMap (fix1 old)) ↔ s ∈ ((keptE n moved).map (fixL old)).flatMap stepsOf1 := by
    simp only [List.mem_flatMap, List.mem_map]
    constructor
    · rintro ⟨e, h1, h2⟩
      refine ⟨_, ⟨e, h1, rfl⟩, ?_⟩
      simp [fix1, fixL, stepsOf1] at h2 ⊢
      exact h2.symm
    · rintro ⟨_, ⟨e, h1, rfl⟩, h2⟩
      refine ⟨e, h1, ?_⟩
      simp [fix1, fixL, stepsOf1] at h2 ⊢
      exact h2.symm
  rw [this]
theorem SOk.append {n : Nat} {U : Int} {l m : List Link} (h : SOk n U l) (k : SOk n U m) : SOk n U (l ++ m) := fun x hx => (List.mem_append.mp hx).elim (h x) (k x)
def OldOk (n : Nat) (old : List Int) : Prop := old.length = n ∧ ∀ t ∈ old, -2 ≤ t ∧ t ≤ 6
theorem OldOk.get {n : Nat} {old : List Int} (h : OldOk n old) {e : Nat} (he : e < n) : -2 ≤ old.getD e 0 ∧ old.getD e 0 ≤ 6 := by
  refine h.2 _ ?_
  rw [List.getD_eq_getElem?_getD, List.getElem?_eq_getElem (by rw [h.1]; exact he)]
  simp
theorem keptL_ok {n : Nat} {old : List Int} (h : OldOk n old) (moved : List Nat) : SOk n 60 (keptL n old moved) := fun l hl => by
  unfold keptL at hl
  obtain ⟨e, h1, rfl⟩ := List.mem_map.mp hl
  have h2 := keptE_mem h1
  have h3 := h.get h2.2
  refine ⟨by show 0 < n; omega, h2.2, by show 0 ≠ e; omega, by show -60 ≤ old.getD e 0 ∧ old.getD e 0 ≤ 60; omega, fun x hx => ?_⟩
  have hx : old.getD e 0 = x := Option.some.inj hx
  omega
theorem keptT_in {n : Nat} {ls : List Link} {old : List Int} (h : SOk n 60 ls) (ho : OldOk n old) (moved : List Nat) : ∀ s ∈ keptT n ls old moved, s.i < n ∧ s.j < n := fun s hs => by
  have := (SOk.append h (keptL_ok ho moved)).steps s ((keptT_mem n ls old moved s).mp hs)
  exact ⟨this.1, this.2.1⟩
theorem keptT_len (n : Nat) (ls : List Link) (old : List Int) (moved : List Nat) : (keptT n ls old moved).length ≤ ls.length * 2 + n * 2 := by
  unfold keptT
  rw [List.length_append]
  have h1 := stepsOf_len ls
  have h2 := len_flat (fix1 old) 2 (keptE n moved) fun e _ => by simp [fix1]
  have h3 := keptE_len n moved
  omega
/-- what is told with these moved -/
def tellM (n : Nat) (ls : List Link) (old : List Int) (moved : List Nat) : Option D :=
  if least n (ls ++ keptL n old moved) = none then none else some (.tup [evD moved, .tup ((timesB n (ofSteps n (keptT n ls old moved))).map D.int)])
theorem fixed_ok {n : Nat} {old : List Int} (ho : OldOk n old) (hn : n ≤ 5) (kept : List Nat) (hk : ∀ e ∈ kept, e < n) (hl : kept.length ≤ 100) :
    F_fixed [.tup (old.map D.int), .lst (kept.map nD)] = some (.lst ((kept.flatMap (fix1 old)).map sD), [.tup (old.map D.int), .lst (kept.map nD)]) := by
  unfold F_fixed b_fixed
  rw [v_run2]
  have lp := loop_ext (b := stepB (gNm 3) q1_fixed) (ks := [3]) nD (fun acc : List Stp => [.tup (old.map D.int), .lst (kept.map nD), .lst (acc.map sD), .non]) (fix1 old) 2 1000 kept [] (fun e _ => by simp [fix1]) (by simp; omega) fun e he acc ha => by
    have a1 := ix_s D.int old (e : Int) ⟨by omega, by rw [ho.1]; have := hk e he; omega⟩
    simp at a1
    unfold q1_fixed fix1
    simp [nD, okLen_of, a1, v_appOf, okLen_of (n := acc.length + 1) (by omega), okLen_of (n := acc.length + 1 + 1) (by omega), sD]
  simp only [List.map_nil, List.nil_append] at lp
  simp [okLen_of, lp]
theorem mend1 {n : Nat} {ls : List Link} {old : List Int} (hn : n ≤ 5) (h : POk n 60 ls) (ho : OldOk n old) (moved : List Nat) (many : D) :
    (∀ d, tellM n ls old moved = some d → ∃ r, stepB (gNm 4) q3_mended (evD moved) [planD n ls, .tup (old.map D.int), .lst ((events n).map nD), many, .non, .non, .non, .non] = some (.rt d r)) ∧
    (tellM n ls old moved = none → (stepB (gNm 4) q3_mended (evD moved) [planD n ls, .tup (old.map D.int), .lst ((events n).map nD), many, .non, .non, .non, .non]).bind (nxOf [4, 5, 6]) = some [planD n ls, .tup (old.map D.int), .lst ((events n).map nD), many, .non, .non, .non, .non]) := by
  have lc := lc_map (step := stepLc [7] (gNm 7) t1_mended e2_mended) nD (fun e => if !moved.contains e then some (nD e) else none) [planD n ls, .tup (old.map D.int), .lst ((events n).map nD), many, evD moved, .non, .non, .non] (events n) fun e _ => by
    have nn := notin_ok e moved
    unfold t1_mended e2_mended
    generalize evD moved = M at *
    cases hc : moved.contains e <;> (rw [hc] at nn; simp [nD, nn])
  have el : (events n).filterMap (fun e => if !moved.contains e then some (nD e) else none) = (keptE n moved).map nD := by
    unfold keptE
    rw [← List.filterMap_eq_map, List.filterMap_filter]
    rfl
  rw [el] at lc
  have f1 := fixed_ok ho hn (keptE n moved) (fun e he => (keptE_mem he).2) (by have := keptE_len n moved; omega)
  have s1 := steps_ok ls (.tup (ls.map linkD)) rfl (by have := h.len; omega)
  have kl := keptT_len n ls old moved
  have hlen := h.len
  have i1 := init_ok n (keptT n ls old moved) (.lst ((keptT n ls old moved).map sD)) rfl (keptT_in h.ok ho moved) (by omega) (by omega)
  have rl := ring_least (n := n) (by omega) (SOk.append h.ok (keptL_ok ho moved)) (keptT_mem n ls old moved)
  have ecat : (stepsOf ls).map sD ++ ((keptE n moved).flatMap (fix1 old)).map sD = (keptT n ls old moved).map sD := by unfold keptT; rw [List.map_append]
  have okc : okLen (((stepsOf ls).map sD).length + (((keptE n moved).flatMap (fix1 old)).map sD).length) = true := okLen_of (by rw [← List.length_append, ecat, List.length_map]; omega)
  have le : (events n).length ≤ 5 := by simp [events]; omega
  have px0 : dIx (planD n ls) (.int 0) = some (.int n) := rfl
  have px1 : dIx (planD n ls) (.int 1) = some (.tup (ls.map linkD)) := rfl
  generalize planD n ls = PP at *
  unfold tellM
  by_cases hb : least n (ls ++ keptL n old moved) = none
  · rw [if_pos hb]
    refine ⟨(fun d e => nomatch e), fun _ => ?_⟩
    have hr : (ofSteps n (keptT n ls old moved)).ring ≠ none := fun z => (rl.1.mp z) hb
    obtain ⟨rg, hrg⟩ := Option.ne_none_iff_exists'.mp hr
    generalize ofSteps n (keptT n ls old moved) = b at *
    unfold q3_mended
    generalize evD moved = M at *
    simp [px0, px1, e_steps, e_init, okLen_of, okLen_of (n := (events n).length) (by omega), lc, s1, f1]
    simp at okc
    simp [okc, ecat, i1, hrg, opD, evD]
  · rw [if_neg hb]
    refine ⟨fun d e => ?_, (fun e => nomatch e)⟩
    have hr := rl.1.mpr hb
    have T := rl.2 hr
    have t1 := times_ok T (by omega) ⟨by omega, by omega⟩ (by
      have : (keptT n ls old moved).length * (n * n) ≤ 100 * 25 := Nat.mul_le_mul (by omega) (Nat.mul_le_mul hn hn)
      omega)
    generalize ofSteps n (keptT n ls old moved) = b at *
    cases e
    unfold q3_mended
    generalize evD moved = M at *
    simp [px0, px1, e_steps, e_init, e_times_by, okLen_of, okLen_of (n := (events n).length) (by omega), lc, s1, f1]
    simp at okc
    simp [okc, ecat, i1, hr, opD, t1, okLen_of]
end K64

namespace K64
open PySem PySem.Spec PyProof.Rows L2 TL PL
theorem loop_first {α : Type} {b : D → Rho → Option Out} {ks : List Nat} (emb : α → D) (ρ : Rho) (g : α → Option D) : ∀ (l : List α),
    (∀ a ∈ l, (∀ d, g a = some d → ∃ r, b (emb a) ρ = some (.rt d r)) ∧ (g a = none → (b (emb a) ρ).bind (nxOf ks) = some ρ)) →
    (∀ d, l.findSome? g = some d → ∃ r, loopF b ks (l.map emb) ρ = some (.rt d r)) ∧ (l.findSome? g = none → loopF b ks (l.map emb) ρ = some (.nx ρ))
  | [], h => ⟨fun d e => by simp at e, fun _ => rfl⟩
  | a :: l, h => by
    obtain ⟨h1, h2⟩ := h a (by simp)
    obtain ⟨h3, h4⟩ := loop_first emb ρ g l fun a ha => h a (by simp [ha])
    cases hg : g a with
    | some d =>
      obtain ⟨r, e⟩ := h1 d hg
      refine ⟨fun d' e' => ⟨r, ?_⟩, fun e' => ?_⟩
      · rw [List.findSome?_cons, hg] at e'
        cases e'
        rw [List.map_cons, loop_rt e]
      · rw [List.findSome?_cons, hg] at e'; cases e'
    | none =>
      rw [List.findSome?_cons, hg, List.map_cons, loop_go (h2 hg)]
      exact ⟨h3, h4⟩
theorem exo {o : Option (D × List D)} {d : D} (h : o.map (·.1) = some d) : ∃ l, o = some (d, l) := by
  cases o with
  | none => cases h
  | some p => obtain ⟨a, b⟩ := p; cases h; exact ⟨b, rfl⟩
theorem fs_flat {α β γ : Type} (g : β → Option γ) (f : α → List β) : ∀ l : List α, (l.flatMap f).findSome? g = l.findSome? fun a => (f a).findSome? g
  | [] => rfl
  | a :: l => by
    rw [List.flatMap_cons, List.findSome?_append, List.findSome?_cons, fs_flat g f l]
    cases (f a).findSome? g <;> rfl
theorem mended_ok {n : Nat} {ls : List Link} {old : List Int} (hn : n ≤ 5) (h1 : 1 ≤ n) (h : POk n 60 ls) (ho : OldOk n old) :
    ∃ l, F_mended [planD n ls, .tup (old.map D.int)] = some (opD id ((lsets (events n) (n - 1)).findSome? (tellM n ls old)), l) := by
  have key := loop_first (b := stepB (gNm 3) q4_mended) (ks := [3, 4, 5, 6]) nD [planD n ls, .tup (old.map D.int), .lst ((events n).map nD), .non, .non, .non, .non, .non] (fun k => (rowsAt (events n) k).findSome? (tellM n ls old)) (List.range n) fun k hk => by
    have hk := List.mem_range.mp hk
    have inner := loop_first (b := stepB (gNm 4) q3_mended) (ks := [4, 5, 6]) evD [planD n ls, .tup (old.map D.int), .lst ((events n).map nD), .int k, .non, .non, .non, .non] (tellM n ls old) (rowsAt (events n) k) fun m _ => mend1 hn h ho m (.int k)
    have ec := cmb_ev n k (by omega) hk
    have e1 : intsD 1 (n - 1) = (events n).map nD := ints1 (n - 1)
    rw [e1] at ec
    have ei : ∀ z0 z1 z4 z5 z6 z7, iCmb (aCons (eVar 2) (aCons (eVar 3) aNil)) [z0, z1, .lst ((events n).map nD), .int (k : Int), z4, z5, z6, z7] = some ((rowsAt (events n) k).map evD, [z0, z1, .lst ((events n).map nD), .int (k : Int), z4, z5, z6, z7]) := by
      intro z0 z1 z4 z5 z6 z7
      unfold iCmb
      simp [ec]
    have en : nD k = .int (k : Int) := rfl
    rw [en]
    generalize planD n ls = PP at *
    unfold q4_mended
    refine ⟨fun d e => ?_, fun e => ?_⟩
    · obtain ⟨r, e'⟩ := inner.1 d e
      exact ⟨r, by simp [ei, e']⟩
    · have e' := inner.2 e
      simp [ei, e']
  rw [← fs_flat (tellM n ls old) (rowsAt (events n))] at key
  have es : lsets (events n) (n - 1) = (List.range n).flatMap (rowsAt (events n)) := by
    unfold lsets
    rw [show n - 1 + 1 = n by omega]
  rw [← es] at key
  have px0 : dIx (planD n ls) (.int 0) = some (.int n) := rfl
  have s1 : small62 (1 : Int) = true := s62_of (by omega) (by omega)
  have s2 : small62 (n : Int) = true := s62_of (by omega) (by omega)
  have e1 : intsD 1 (n - 1) = (events n).map nD := ints1 (n - 1)
  have e2 : ((n : Int) - 1).toNat = n - 1 := by omega
  have rg : ∀ ρ, rg2Of (.v (.int 1)) (.v (.int n)) ρ = some (.lst ((events n).map nD), ρ) := fun ρ => by
    rw [v_rg2Of 1 n ρ s1 s2 (okLen_of (by omega)), e2, e1]
  generalize planD n ls = PP at *
  unfold F_mended b_mended
  rw [v_run2]
  cases hf : (lsets (events n) (n - 1)).findSome? (tellM n ls old) with
  | some d =>
    obtain ⟨r, e⟩ := key.1 d hf
    refine exo ?_
    simp [px0, rg, s2, ints_nD, e, opD]
  | none =>
    have e := key.2 hf
    refine exo ?_
    simp [px0, rg, s2, ints_nD, e, opD]
end K64

namespace K64
open PySem PySem.Spec PyProof.Rows L2 TL PL
/-! links left out -/
def leftL (ls : List Link) (places : List Nat) : List Link := ((List.range ls.length).filter fun k => !places.contains k).map fun k => ls.getD k default
def tellS (n : Nat) (ls : List Link) (places : List Nat) : Option D := if least n (leftL ls places) = none then none else some (evD places)
theorem leftL_len (ls : List Link) (places : List Nat) : (leftL ls places).length ≤ ls.length := by
  unfold leftL
  rw [List.length_map]
  have := List.length_filter_le (fun k => !places.contains k) (List.range ls.length)
  rw [List.length_range] at this
  exact this
theorem getD_mem {α : Type} [Inhabited α] {l : List α} {k : Nat} (h : k < l.length) : l.getD k default ∈ l := by
  rw [List.getD_eq_getElem?_getD, List.getElem?_eq_getElem h]
  simp
theorem leftL_ok {n : Nat} {U : Int} {ls : List Link} (h : SOk n U ls) (places : List Nat) : SOk n U (leftL ls places) := fun l hl => by
  unfold leftL at hl
  obtain ⟨k, h1, rfl⟩ := List.mem_map.mp hl
  exact h _ (getD_mem (List.mem_range.mp (List.mem_filter.mp h1).1))
def enL (ls : List Link) (k : Nat) : D := .tup [.int (k : Int), linkD (ls.getD k default)]
theorem enu_eq (ls : List Link) : enuD (ls.map linkD) = (List.range ls.length).map (enL ls) := by
  unfold enuD enL
  apply List.ext_getElem
  · simp
  · intro i h1 h2
    simp at h1
    simp [List.getD_eq_getElem?_getD, h1]
theorem strain1 {n : Nat} {ls : List Link} (hn : n ≤ 5) (h : POk n 60 ls) (places : List Nat) (pl many : D) :
    (∀ d, tellS n ls places = some d → ∃ r, stepB (gNm 4) q3_strain (evD places) [pl, many, .int n, .tup (ls.map linkD), .non, .non, .non, .non] = some (.rt d r)) ∧
    (tellS n ls places = none → (stepB (gNm 4) q3_strain (evD places) [pl, many, .int n, .tup (ls.map linkD), .non, .non, .non, .non]).bind (nxOf [4, 5]) = some [pl, many, .int n, .tup (ls.map linkD), .non, .non, .non, .non]) := by
  have lc := lc_map (step := stepLc [6, 7] (gTp (gsCons (gNm 6) (gsCons (gNm 7) gsNil))) t1_strain e2_strain) (enL ls) (fun k => if !places.contains k then some (linkD (ls.getD k default)) else none) [pl, many, .int n, .tup (ls.map linkD), evD places, .non, .non, .non] (List.range ls.length) fun k _ => by
    have nn := notin_ok k places
    unfold t1_strain e2_strain enL
    generalize evD places = M at *
    generalize linkD (ls.getD k default) = LD
    cases hc : places.contains k <;> (rw [hc] at nn; simp [nn])
  have el : (List.range ls.length).filterMap (fun k => if !places.contains k then some (linkD (ls.getD k default)) else none) = (leftL ls places).map linkD := by
    unfold leftL
    rw [List.map_map, ← List.filterMap_eq_map, List.filterMap_filter]
    rfl
  rw [el] at lc
  have ll := leftL_len ls places
  have hlen := h.len
  have lok := leftL_ok h.ok places
  have s1 := steps_ok (leftL ls places) (.lst ((leftL ls places).map linkD)) rfl (by omega)
  have sl := stepsOf_len (leftL ls places)
  have i1 := init_ok n (stepsOf (leftL ls places)) (.lst ((stepsOf (leftL ls places)).map sD)) rfl (fun s hs => ⟨(lok.steps s hs).1, (lok.steps s hs).2.1⟩) (by omega) (by omega)
  have rl := ring_least (n := n) (T := stepsOf (leftL ls places)) (by omega) lok fun s => Iff.rfl
  have ei : ∀ z0 z1 z2 z4 z5 z6 z7, iEnu (aCons (eVar 3) aNil) [z0, z1, z2, .tup (ls.map linkD), z4, z5, z6, z7] = some ((List.range ls.length).map (enL ls), [z0, z1, z2, .tup (ls.map linkD), z4, z5, z6, z7]) := by
    intro z0 z1 z2 z4 z5 z6 z7
    unfold iEnu
    simp [enu_eq]
  have okl : okLen ls.length = true := okLen_of (by omega)
  unfold tellS
  by_cases hb : least n (leftL ls places) = none
  · rw [if_pos hb]
    refine ⟨(fun d e => nomatch e), fun _ => ?_⟩
    have hr : (ofSteps n (stepsOf (leftL ls places))).ring ≠ none := fun z => (rl.1.mp z) hb
    obtain ⟨rg, hrg⟩ := Option.ne_none_iff_exists'.mp hr
    have ra := ring_at (ofSteps n (stepsOf (leftL ls places)))
    rw [hrg] at ra
    generalize ofSteps n (stepsOf (leftL ls places)) = b at *
    unfold q3_strain
    generalize evD places = M at *
    simp [e_steps, e_init, okLen_of, okl, ei, lc, s1, i1, eAt, ra, opD, evD]
  · rw [if_neg hb]
    refine ⟨fun d e => ?_, (fun e => nomatch e)⟩
    have hr := rl.1.mpr hb
    have ra := ring_at (ofSteps n (stepsOf (leftL ls places)))
    rw [hr] at ra
    generalize ofSteps n (stepsOf (leftL ls places)) = b at *
    cases e
    unfold q3_strain
    generalize evD places = M at *
    simp [e_steps, e_init, okLen_of, okl, ei, lc, s1, i1, eAt, ra, opD]
theorem strain_ok {n : Nat} {ls : List Link} (hn : n ≤ 5) (h : POk n 60 ls) : ∃ l, F_strain [planD n ls] = some (opD id ((lsets (List.range ls.length) 3).findSome? (tellS n ls)), l) := by
  have hlen := h.len
  have s2 : small62 (ls.length : Int) = true := s62_of (by omega) (by omega)
  have okl : okLen ls.length = true := okLen_of (by omega)
  have key := loop_first (b := stepB (gNm 1) q4_strain) (ks := [1, 4, 5]) nD [planD n ls, .non, .int n, .tup (ls.map linkD), .non, .non, .non, .non] (fun k => (rowsAt (List.range ls.length) k).findSome? (tellS n ls)) (List.range 4) fun k hk => by
    have hk := List.mem_range.mp hk
    have inner := loop_first (b := stepB (gNm 4) q3_strain) (ks := [4, 5]) evD [planD n ls, .int k, .int n, .tup (ls.map linkD), .non, .non, .non, .non] (tellS n ls) (rowsAt (List.range ls.length) k) fun m _ => strain1 hn h m (planD n ls) (.int k)
    have ec := cmb_rng ls.length k hlen (by omega)
    have ei : ∀ z0 z2 z4 z5 z6 z7, iCmbR (eCa (f1 lenD) (aCons (eVar 3) aNil)) (eVar 1) [z0, .int (k : Int), z2, .tup (ls.map linkD), z4, z5, z6, z7] = some ((rowsAt (List.range ls.length) k).map evD, [z0, .int (k : Int), z2, .tup (ls.map linkD), z4, z5, z6, z7]) := by
      intro z0 z2 z4 z5 z6 z7
      unfold iCmbR
      simp [ec, okl, s2]
    have en : nD k = .int (k : Int) := rfl
    rw [en]
    generalize planD n ls = PP at *
    unfold q4_strain
    refine ⟨fun d e => ?_, fun e => ?_⟩
    · obtain ⟨r, e'⟩ := inner.1 d e
      exact ⟨r, by simp [ei, e']⟩
    · have e' := inner.2 e
      simp [ei, e']
  rw [← fs_flat (tellS n ls) (rowsAt (List.range ls.length))] at key
  have es : (List.range 4).flatMap (rowsAt (List.range ls.length)) = lsets (List.range ls.length) 3 := rfl
  rw [es] at key
  have s4 : small62 (4 : Int) = true := s62_of (by omega) (by omega)
  have e4 : intsD 0 4 = (List.range 4).map nD := ints_nD 4
  generalize lsets (List.range ls.length) 3 = SS at *
  generalize hR : List.range 4 = R4 at *
  unfold F_strain b_strain
  rw [v_run1]
  cases hf : SS.findSome? (tellS n ls) with
  | some d =>
    obtain ⟨r, e⟩ := key.1 d hf
    refine exo ?_
    simp [planD] at e ⊢
    simp [s4, e4, e, opD]
  | none =>
    have e := key.2 hf
    refine exo ?_
    simp [planD] at e ⊢
    simp [s4, e4, e, opD]
end K64

namespace K64
open PySem PySem.Spec PyProof.Rows L2 TL PL
/-! plans that agree -/
structure AllOk (n : Nat) (Ls : List (List Link)) : Prop where
  ok : ∀ ls ∈ Ls, POk n 60 ls
  len : Ls.length ≤ 3
theorem cat_ok {n : Nat} {Ls : List (List Link)} (h : ∀ ls ∈ Ls, POk n 60 ls) : SOk n 60 Ls.flatten := fun l hl => by
  obtain ⟨ls, h1, h2⟩ := List.mem_flatten.mp hl
  exact (h ls h1).ok l h2
theorem cat_len {n : Nat} : ∀ (Ls : List (List Link)), (∀ ls ∈ Ls, POk n 60 ls) → Ls.flatten.length ≤ Ls.length * 20
  | [], _ => by simp
  | a :: r, h => by
    have h1 := (h a (by simp)).len
    have h2 := cat_len r fun ls hl => h ls (by simp [hl])
    simp [Nat.succ_mul]; simp at h2; omega
theorem stepsOf_app (a b : List Link) : stepsOf (a ++ b) = stepsOf a ++ stepsOf b := by unfold stepsOf; rw [List.flatMap_append]
theorem max_same (n : Nat) (l : List (List Link)) (h : l ≠ []) : maxD (.lst (l.map fun _ => D.int (n : Int))) = some (.int (n : Int)) := by
  have go : ∀ r : List (List Link), (r.map fun _ => (n : Int)).foldl (fun m x => if x > m then x else m) (n : Int) = n := by
    intro r
    induction r with
    | nil => rfl
    | cons a r ih => simp [ih]
  cases l with
  | nil => exact absurd rfl h
  | cons a r =>
    have e := getInts_of ((a :: r).map fun _ => (n : Int))
    rw [List.map_map] at e
    show (getInts _).bind _ = _
    have e' : getInts ((a :: r).map fun _ => D.int (n : Int)) = some ((a :: r).map fun _ => (n : Int)) := e
    rw [e']
    simp only [Option.bind_some, List.map_cons, lmax, Option.map_some, go]
theorem have_ok {n : Nat} (hn : n ≤ 5) (Ls : List (List Link)) (h : AllOk n Ls) (hne : Ls ≠ []) : F_have_times [.lst (Ls.map (planD n))] = some (.bl (decide (least n Ls.flatten ≠ none)), [.lst (Ls.map (planD n))]) := by
  have hl := h.len
  have lp := loop_pre (b := stepB (gNm 2) q1_have_times) (ks := [2]) (planD n) (fun acc : List Link => [.lst (Ls.map (planD n)), .lst ((stepsOf acc).map sD), .non]) (fun acc ls => acc ++ ls) [] Ls fun pre ls post eq => by
    have mem : ∀ x ∈ pre, POk n 60 x := fun x hx => h.ok x (by rw [eq]; simp [hx])
    have m1 := h.ok ls (by rw [eq]; simp)
    have hp : pre.length ≤ 3 := by
      have : pre.length ≤ Ls.length := by rw [eq]; simp
      omega
    have fl : pre.foldl (fun acc ls => acc ++ ls) [] = pre.flatten := by
      have go : ∀ (r : List (List Link)) (a : List Link), r.foldl (fun acc ls => acc ++ ls) a = a ++ r.flatten := by
        intro r
        induction r with
        | nil => intro a; simp
        | cons b r ih => intro a; simp [ih]
      simpa using go pre []
    rw [fl]
    have cl := cat_len pre mem
    have l1 := stepsOf_len pre.flatten
    have l2 := stepsOf_len ls
    have l3 := m1.len
    have s1 := steps_ok ls (.tup (ls.map linkD)) rfl (by omega)
    have px1 : dIx (planD n ls) (.int 1) = some (.tup (ls.map linkD)) := rfl
    have ok1 : okLen ((stepsOf pre.flatten).length + (stepsOf ls).length) = true := okLen_of (by omega)
    rw [stepsOf_app]
    generalize planD n ls = PP at *
    unfold q1_have_times
    simp [px1, e_steps, s1, okLen_of, extOf, ok1]
  have fl : Ls.foldl (fun acc ls => acc ++ ls) [] = Ls.flatten := by
    have go : ∀ (r : List (List Link)) (a : List Link), r.foldl (fun acc ls => acc ++ ls) a = a ++ r.flatten := by
      intro r
      induction r with
      | nil => intro a; simp
      | cons b r ih => intro a; simp [ih]
    simpa using go Ls []
  rw [fl] at lp
  have cl := cat_len Ls h.ok
  have ls1 := stepsOf_len Ls.flatten
  have lok := cat_ok h.ok
  have lc := lc_all (step := stepLc [2] (gNm 2) tYesF e2_have_times) (planD n) (fun _ => D.int (n : Int)) [.lst (Ls.map (planD n)), .lst ((stepsOf Ls.flatten).map sD), .non] Ls fun ls _ => by
    have px0 : dIx (planD n ls) (.int 0) = some (.int n) := rfl
    generalize planD n ls = PP at *
    unfold e2_have_times tYesF
    simp [px0]
  have mx := max_same n Ls hne
  have i1 := init_ok n (stepsOf Ls.flatten) (.lst ((stepsOf Ls.flatten).map sD)) rfl (fun s hs => ⟨(lok.steps s hs).1, (lok.steps s hs).2.1⟩) (by omega) (by omega)
  have rl := (ring_least (n := n) (T := stepsOf Ls.flatten) (by omega) lok fun s => Iff.rfl).1
  have ra := ring_at (ofSteps n (stepsOf Ls.flatten))
  have okl : okLen (Ls.map (planD n)).length = true := okLen_of (by rw [List.length_map]; omega)
  have e0 : stepsOf [] = [] := rfl
  rw [e0, List.map_nil] at lp
  have hd : isNonD (opD evD (ofSteps n (stepsOf Ls.flatten)).ring) = decide (least n Ls.flatten ≠ none) := by
    cases hr : (ofSteps n (stepsOf Ls.flatten)).ring with
    | none => rw [decide_eq_true (rl.mp hr)]; rfl
    | some r => rw [decide_eq_false (fun z => by have := rl.mpr z; rw [hr] at this; cases this)]; rfl
  rw [← hd]
  generalize ofSteps n (stepsOf Ls.flatten) = b at *
  generalize opD evD b.ring = RR at *
  generalize (Ls.map fun _ => D.int (n : Int)) = NS at *
  generalize Ls.map (planD n) = W at *
  unfold F_have_times b_have_times
  rw [v_run1]
  simp [okLen_of, okl, lp, lc, mx, e_init, i1, eAt, ra]
theorem agree_ok {n : Nat} (hn : n ≤ 5) (a b : List Link) (ha : POk n 60 a) (hb : POk n 60 b) : ∃ l, F_agree [planD n a, planD n b] = some (.bl (decide (least n (a ++ b) ≠ none)), l) := by
  have h := have_ok hn [a, b] ⟨fun x hx => by
    simp at hx
    rcases hx with rfl | rfl
    · exact ha
    · exact hb, by simp⟩ (by simp)
  simp only [List.map_cons, List.map_nil, List.flatten_cons, List.flatten_nil, List.append_nil] at h
  refine exo ?_
  unfold F_agree b_agree
  rw [v_run2]
  simp [okLen_of, h]
/-! the first quarrel -/
def pickL (Ls : List (List Link)) (places : List Nat) : List (List Link) := places.map fun p => Ls.getD p default
def tellQ (n : Nat) (Ls : List (List Link)) (places : List Nat) : Option D := if least n (pickL Ls places).flatten = none then some (evD places) else none
theorem pick_ok {n : Nat} {Ls : List (List Link)} (h : AllOk n Ls) {places : List Nat} (hp : ∀ p ∈ places, p < Ls.length) (hl : places.length ≤ 3) : AllOk n (pickL Ls places) := ⟨fun ls hls => by
  unfold pickL at hls
  obtain ⟨p, h1, rfl⟩ := List.mem_map.mp hls
  exact h.ok _ (getD_mem (hp p h1)), by unfold pickL; simpa using hl⟩
theorem quarrel1 {n : Nat} {Ls : List (List Link)} (hn : n ≤ 5) (h : AllOk n Ls) (places : List Nat) (hp : ∀ p ∈ places, p < Ls.length) (hl : places.length ≤ 3) (hne : places ≠ []) (many : D) :
    (∀ d, tellQ n Ls places = some d → ∃ r, stepB (gNm 2) q2_first_quarrel (evD places) [.lst (Ls.map (planD n)), many, .non, .non] = some (.rt d r)) ∧
    (tellQ n Ls places = none → (stepB (gNm 2) q2_first_quarrel (evD places) [.lst (Ls.map (planD n)), many, .non, .non]).bind (nxOf [2]) = some [.lst (Ls.map (planD n)), many, .non, .non]) := by
  have lc := lc_all (step := stepLc [3] (gNm 3) tYesF e1_first_quarrel) nD (fun p => planD n (Ls.getD p default)) [.lst (Ls.map (planD n)), many, evD places, .non] places fun p hpp => by
    have a1 := ix_s (planD n) Ls (p : Int) ⟨by omega, by have := hp p hpp; omega⟩
    rw [Int.toNat_natCast] at a1
    have en : nD p = .int (p : Int) := rfl
    rw [en]
    generalize planD n (Ls.getD p default) = PP at *
    generalize Ls.map (planD n) = W at *
    unfold e1_first_quarrel tYesF
    simp [a1]
  have em : (places.map fun p => planD n (Ls.getD p default)) = (pickL Ls places).map (planD n) := by unfold pickL; rw [List.map_map]; rfl
  rw [em] at lc
  have hv := have_ok hn (pickL Ls places) (pick_ok h hp hl) (by unfold pickL; simpa using hne)
  have sq : seqD (.v (evD places)) = some (places.map nD) := rfl
  have okl : okLen (places.map nD).length = true := okLen_of (by rw [List.length_map]; omega)
  generalize Ls.map (planD n) = W at *
  generalize (pickL Ls places).map (planD n) = V at *
  unfold tellQ
  generalize places.map nD = PN at *
  by_cases hb : least n (pickL Ls places).flatten = none
  · rw [if_pos hb]
    refine ⟨fun d e => ?_, (fun e => nomatch e)⟩
    cases e
    rw [decide_eq_false (fun z => z hb)] at hv
    generalize evD places = M at *
    unfold q2_first_quarrel
    simp [sq, okl, lc, hv]
  · rw [if_neg hb]
    refine ⟨(fun d e => nomatch e), fun _ => ?_⟩
    rw [decide_eq_true hb] at hv
    generalize evD places = M at *
    unfold q2_first_quarrel
    simp [sq, okl, lc, hv]
theorem quarrel_ok {n : Nat} {Ls : List (List Link)} (hn : n ≤ 5) (h : AllOk n Ls) : ∃ l, F_first_quarrel [.lst (Ls.map (planD n))] = some (opD id (((List.range Ls.length).flatMap fun i => rowsAt (List.range Ls.length) (1 + i)).findSome? (tellQ n Ls)), l) := by
  have hlen := h.len
  have s2 : small62 (Ls.length : Int) = true := s62_of (by omega) (by omega)
  have okl : okLen Ls.length = true := okLen_of (by omega)
  have key := loop_first (b := stepB (gNm 1) q3_first_quarrel) (ks := [1, 2]) (fun i : Nat => nD (1 + i)) [.lst (Ls.map (planD n)), .non, .non, .non] (fun i => (rowsAt (List.range Ls.length) (1 + i)).findSome? (tellQ n Ls)) (List.range Ls.length) fun i hi => by
    have hi := List.mem_range.mp hi
    have inner := loop_first (b := stepB (gNm 2) q2_first_quarrel) (ks := [2]) evD [.lst (Ls.map (planD n)), nD (1 + i), .non, .non] (tellQ n Ls) (rowsAt (List.range Ls.length) (1 + i)) fun m hm => by
      have rl := row_len _ _ m hm
      exact quarrel1 hn h m (fun p hp => List.mem_range.mp (mem_rows _ _ m hm p hp)) (by omega) (fun z => by rw [z] at rl; simp at rl; omega) (nD (1 + i))
    have ec := cmb_rng Ls.length (1 + i) (by omega) (by omega)
    have ei : ∀ z2 z3, iCmbR (eCa (f1 lenD) (aCons (eVar 0) aNil)) (eVar 1) [.lst (Ls.map (planD n)), nD (1 + i), z2, z3] = some ((rowsAt (List.range Ls.length) (1 + i)).map evD, [.lst (Ls.map (planD n)), nD (1 + i), z2, z3]) := by
      intro z2 z3
      have en : nD (1 + i) = .int ((1 + i : Nat) : Int) := rfl
      rw [en]
      unfold iCmbR
      generalize ((1 + i : Nat) : Int) = K at *
      simp [ec, okl, s2]
    generalize nD (1 + i) = K at *
    generalize Ls.map (planD n) = W at *
    unfold q3_first_quarrel
    refine ⟨fun d e => ?_, fun e => ?_⟩
    · obtain ⟨r, e'⟩ := inner.1 d e
      exact ⟨r, by simp [ei, e']⟩
    · have e' := inner.2 e
      simp [ei, e']
  rw [← fs_flat (tellQ n Ls) (fun i => rowsAt (List.range Ls.length) (1 + i))] at key
  have s3 : small62 ((Ls.length : Int) + 1) = true := s62_of (by omega) (by omega)
  have s1 : small62 (1 : Int) = true := s62_of (by omega) (by omega)
  have e3 : ((Ls.length : Int) + 1 - 1).toNat = Ls.length := by omega
  have e4 : intsD 1 Ls.length = (List.range Ls.length).map fun i : Nat => nD (1 + i) := by
    unfold intsD
    apply List.map_congr_left
    intro a _
    simp [nD]
  generalize ((List.range Ls.length).flatMap fun i => rowsAt (List.range Ls.length) (1 + i)) = SS at *
  have ll : (Ls.map (planD n)).length = Ls.length := by simp
  generalize Ls.map (planD n) = W at *
  generalize ((List.range Ls.length).map fun i : Nat => nD (1 + i)) = RR at *
  generalize Ls.length = m at *
  subst ll
  unfold F_first_quarrel b_first_quarrel
  rw [v_run1]
  cases hf : SS.findSome? (tellQ n Ls) with
  | some d =>
    obtain ⟨r, e⟩ := key.1 d hf
    refine exo ?_
    simp [okl, s1, s3, e3, e4, e, opD]
  | none =>
    have e := key.2 hf
    refine exo ?_
    simp [okl, s1, s3, e3, e4, e, opD]
end K64

namespace K64
open PySem PySem.Spec PyProof.Rows L2 TL PL
/-! how great the told times are -/
theorem vals_many {n : Nat} (hn : n ≤ 6) : ∀ (l : List Nat) {U : Int} {b : Bs} {ls : List Link} {k : Nat} {ts : List Int}, TT n U b ls k → 0 ≤ U → 5 ^ l.length * U ≤ 1000000 → (∀ e ∈ l, 1 ≤ e ∧ e < n) →
    ∀ t ∈ (l.foldl tB (b, ts)).2, t ∈ ts ∨ (-1000000 ≤ t ∧ t ≤ 1000000)
  | [], U, b, ls, k, ts, T, _, _, _, t, ht => .inl ht
  | e :: l, U, b, ls, k, ts, T, h0, h, hl, t, ht => by
    have he := hl e (by simp)
    have ep : (5 : Int) ^ (e :: l).length * U = 5 ^ l.length * (5 * U) := by
      rw [List.length_cons, Int.pow_succ, Int.mul_assoc]
    rw [ep] at h
    have one : (1 : Int) ≤ 5 ^ l.length := by
      have : (0 : Int) < 5 ^ l.length := Int.pow_pos (by omega)
      omega
    have hU : 5 * U ≤ 1000000 := by
      have : 1 * (5 * U) ≤ 5 ^ l.length * (5 * U) := Int.mul_le_mul_of_nonneg_right one (by omega)
      omega
    obtain ⟨T2, _, t1, t2⟩ := T.step (ts := ts) hn ⟨h0, by omega⟩ he.2 he.1
    rw [List.foldl_cons] at ht
    have hq : tB (b, ts) e = ((tB (b, ts) e).1, (tB (b, ts) e).2) := rfl
    rw [hq] at ht
    rcases vals_many hn l (ts := (tB (b, ts) e).2) T2 (by omega) h (fun e he => hl e (by simp [he])) t ht with z | z
    · simp only [PL.tB] at z
      rcases List.mem_append.mp z with z | z
      · exact .inl z
      · have : t = timeOf (b.lk e 0) (b.lk 0 e) := by simpa using z
        exact .inr (by omega)
    · exact .inr z
theorem timesB_ok {n : Nat} {b : Bs} {ls : List Link} {k : Nat} (T : TT n 60 b ls k) (hn : n ≤ 5) : (timesB n b).length ≤ 6 ∧ ∀ t ∈ timesB n b, t.natAbs ≤ 1000000000000000000 := by
  have le : (events n).length = n - 1 := by simp [events]
  have pw : (5 : Int) ^ (events n).length * 60 ≤ 1000000 := pw5 (by omega) ⟨by omega, by omega⟩
  have h1 := (TT.many (ts := [0]) (by omega) (events n) T (by omega) pw fun x hx => mem_events hx).2.2
  refine ⟨by unfold timesB; rw [h1]; simp; omega, fun t ht => ?_⟩
  rcases vals_many (ts := [0]) (by omega) (events n) T (by omega) pw (fun x hx => mem_events hx) t ht with z | z
  · have : t = 0 := by simpa using z
    subst this; decide
  · omega
def Good (d : D) : Prop := pyOk 40 d = true ∧ rw d ≤ 10000000
theorem Good.same {d : D} (h : Good d) : F__law_same [d, d] = some (.bl true, [d, d]) := same_ok d h.1 h.2
theorem good_ev (m : List Nat) (h : ∀ e ∈ m, e ≤ 1000) (hl : m.length ≤ 100) : Good (evD m) := ⟨(ev_rw m h hl).1, by have := (ev_rw m h hl).2; omega⟩
theorem good_op {α : Type} {g : α → Option D} {l : List α} (h : ∀ a ∈ l, ∀ d, g a = some d → Good d) : Good (opD id (l.findSome? g)) := by
  cases e : l.findSome? g with
  | none => exact ⟨by simp [opD, pyOk], by simp [opD, rw]⟩
  | some d =>
    obtain ⟨a, h1, h2⟩ := List.exists_of_findSome?_eq_some e
    exact h a h1 d h2
theorem good_tellM {n : Nat} {ls : List Link} {old : List Int} (hn : n ≤ 5) (h : POk n 60 ls) (ho : OldOk n old) (moved : List Nat) (hm : ∀ e ∈ moved, e ≤ 1000) (hl : moved.length ≤ 100) {d : D} (e : tellM n ls old moved = some d) : Good d ∧ isNonD d = false := by
  unfold tellM at e
  by_cases hb : least n (ls ++ keptL n old moved) = none
  · rw [if_pos hb] at e; cases e
  · rw [if_neg hb] at e
    cases e
    have rl := ring_least (n := n) (by omega) (SOk.append h.ok (keptL_ok ho moved)) (keptT_mem n ls old moved)
    obtain ⟨t1, t2⟩ := timesB_ok (rl.2 (rl.1.mpr hb)) hn
    obtain ⟨g1, g2⟩ := ev_rw moved hm hl
    refine ⟨⟨?_, ?_⟩, rfl⟩
    · simp [evD, pyOk]
    · show rw (evD moved) + 2 + (rws ((timesB n _).map D.int) + 3 + 2 + 0) + 3 ≤ 10000000
      rw [rws_ints _ t2]
      omega
/-! a search in the law's way -/
theorem due_loop {α : Type} {b : D → Rho → Option Out} {ks : List Nat} (emb : α → D) (st : D → Rho) (g : α → Option D) : ∀ (l : List α), (∀ a ∈ l, ∀ d, g a = some d → isNonD d = false) →
    (∀ a ∈ l, (b (emb a) (st .non)).bind (nxOf ks) = some (st (opD id (g a))) ∧ ∀ d, isNonD d = false → (b (emb a) (st d)).bind (nxOf ks) = some (st d)) → loopF b ks (l.map emb) (st .non) = some (.nx (st (opD id (l.findSome? g))))
  | [], _, _ => rfl
  | a :: l, hg, h => by
    obtain ⟨h1, h2⟩ := h a (by simp)
    rw [List.map_cons, loop_go h1, List.findSome?_cons]
    cases e : g a with
    | none => exact due_loop emb st g l (fun a ha => hg a (by simp [ha])) fun a ha => h a (by simp [ha])
    | some d =>
      have hd := hg a (by simp) d e
      have go : ∀ l' : List α, (∀ a ∈ l', a ∈ l) → loopF b ks (l'.map emb) (st d) = some (.nx (st d)) := by
        intro l'
        induction l' with
        | nil => intro _; rfl
        | cons a' l' ih =>
          intro hl'
          rw [List.map_cons, loop_go ((h a' (by simp [hl' a' (by simp)])).2 d hd)]
          exact ih fun x hx => hl' x (by simp [hx])
      exact go l fun a ha => ha
end K64

namespace K64
open PySem PySem.Spec PyProof.Rows L2 TL PL
theorem e_agree (b : Bool) : dIs (.bl b) (.bl true) = some (.bl b) := by cases b <;> rfl
theorem isNon_al {α : Type} (em : α → D) (l : AL α) : isNonD (alD em l) = false := rfl
theorem imm_ev (a : List Nat) : imm (evD a) = true := by
  unfold evD imm
  induction a with
  | nil => rfl
  | cons x r ih => simpa [imms, imm] using ih
section
variable {n : Nat} {ls : List Link} {w0 dr W OD told : D}
/-! the law's end: the first quarrel -/
theorem q12_ok (hn : n ≤ 5) {Ls : List (List Link)} (h : AllOk n Ls) (places : List Nat) (hp : ∀ p ∈ places, p < Ls.length) (hl : places.length ≤ 3) (LS : D) :
    (stepB (gNm 6) q12_law (evD places) [w0, dr, W, OD, .non, .non, .non, told, .lst (Ls.map (planD n)), .non, .int n, LS, .non, .non, .non, .non, .non, .non]).bind (nxOf [6, 14, 15]) = some [w0, dr, W, OD, opD id (tellQ n Ls places), .non, .non, told, .lst (Ls.map (planD n)), .non, .int n, LS, .non, .non, .non, .non, .non, .non] ∧
    ∀ d, isNonD d = false → (stepB (gNm 6) q12_law (evD places) [w0, dr, W, OD, d, .non, .non, told, .lst (Ls.map (planD n)), .non, .int n, LS, .non, .non, .non, .non, .non, .non]).bind (nxOf [6, 14, 15]) = some [w0, dr, W, OD, d, .non, .non, told, .lst (Ls.map (planD n)), .non, .int n, LS, .non, .non, .non, .non, .non, .non] := by
  have heap : ∀ due M : D, loopF (stepB (gNm 15) q11_law) [15] (places.map nD) [w0, dr, W, OD, due, .non, M, told, .lst (Ls.map (planD n)), .non, .int n, LS, .non, .non, .tup [], .non, .non, .non] = some (.nx [w0, dr, W, OD, due, .non, M, told, .lst (Ls.map (planD n)), .non, .int n, LS, .non, .non, .tup ((pickL Ls places).flatten.map linkD), .non, .non, .non]) := fun due M => by
    have lp := loop_pre (b := stepB (gNm 15) q11_law) (ks := [15]) nD (fun acc : List Link => [w0, dr, W, OD, due, .non, M, told, .lst (Ls.map (planD n)), .non, .int n, LS, .non, .non, .tup (acc.map linkD), .non, .non, .non]) (fun acc p => acc ++ Ls.getD p default) [] places fun pre p post eq => by
      have fl : ∀ r : List Nat, r.foldl (fun acc p => acc ++ Ls.getD p default) [] = (pickL Ls r).flatten := by
        have go : ∀ (r : List Nat) (a : List Link), r.foldl (fun acc p => acc ++ Ls.getD p default) a = a ++ (pickL Ls r).flatten := by
          intro r
          induction r with
          | nil => intro a; simp [pickL]
          | cons b r ih => intro a; rw [List.foldl_cons, ih]; simp [pickL]
        intro r; simpa using go r []
      rw [fl]
      have mem : ∀ x ∈ pre, x < Ls.length := fun x hx => hp x (by rw [eq]; simp [hx])
      have hpre : pre.length ≤ 3 := by
        have : pre.length ≤ places.length := by rw [eq]; simp
        omega
      have m1 := hp p (by rw [eq]; simp)
      have c1 := cat_len (pickL Ls pre) (pick_ok h mem hpre).ok
      have c2 := (h.ok _ (getD_mem m1)).len
      have c3 : (pickL Ls pre).length = pre.length := by simp [pickL]
      have a1 := ix_s (planD n) Ls (p : Int) ⟨by omega, by omega⟩
      rw [Int.toNat_natCast] at a1
      have px1 : dIx (planD n (Ls.getD p default)) (.int 1) = some (.tup ((Ls.getD p default).map linkD)) := rfl
      have en : nD p = .int (p : Int) := rfl
      have ok1 : okLen ((pickL Ls pre).flatten.length + (Ls.getD p default).length) = true := okLen_of (by omega)
      rw [en, List.map_append]
      generalize planD n (Ls.getD p default) = PP at *
      generalize Ls.map (planD n) = V at *
      generalize Ls.getD p default = L1 at *
      generalize (pickL Ls pre).flatten = L0 at *
      unfold q11_law
      simp [a1, px1, ok1]
    have fl : places.foldl (fun acc p => acc ++ Ls.getD p default) [] = (pickL Ls places).flatten := by
      have go : ∀ (r : List Nat) (a : List Link), r.foldl (fun acc p => acc ++ Ls.getD p default) a = a ++ (pickL Ls r).flatten := by
        intro r
        induction r with
        | nil => intro a; simp [pickL]
        | cons b r ih => intro a; rw [List.foldl_cons, ih]; simp [pickL]
      simpa using go places []
    rw [fl] at lp
    exact lp
  have sq : seqD (.v (evD places)) = some (places.map nD) := rfl
  have okl : okLen (places.map nD).length = true := okLen_of (by rw [List.length_map]; omega)
  have c1 := cat_len (pickL Ls places) (pick_ok h hp hl).ok
  have c3 : (pickL Ls places).length = places.length := by simp [pickL]
  have lo := least_ok (n := n) (ls := (pickL Ls places).flatten) (w := .tup ((pickL Ls places).flatten.map linkD)) rfl (by omega) (by omega)
  unfold tellQ
  generalize (pickL Ls places).flatten = L0 at *
  generalize Ls.map (planD n) = V at *
  generalize places.map nD = PN at *
  generalize evD places = M at *
  refine ⟨?_, fun d hd => ?_⟩
  · have hp := heap .non M
    cases hb : least n L0 with
    | none =>
      rw [hb] at lo
      rw [if_pos rfl]
      unfold q12_law
      simp [okLen_of, sq, okl, hp, e_least, lo, opD]
    | some l =>
      rw [hb] at lo
      rw [if_neg (by simp)]
      unfold q12_law
      simp [okLen_of, sq, okl, hp, e_least, lo, opD, isNon_al]
  · have hp := heap d M
    unfold q12_law
    simp [okLen_of, sq, okl, hp, hd]
theorem tail_sets (m : Nat) (L : List Nat) : (lsets L m).tail = (List.range m).flatMap fun i => rowsAt L (1 + i) := by
  unfold lsets
  rw [List.range_succ_eq_map, List.flatMap_cons]
  have : rowsAt L 0 = [[]] := rfl
  rw [this, List.flatMap_map]
  simp [Nat.add_comm]
theorem p15_ok (hn : n ≤ 5) {Ls : List (List Link)} (h : AllOk n Ls) (LS due : D) : Tru p15_law [w0, dr, W, OD, due, .non, .non, told, .lst (Ls.map (planD n)), .non, .int n, LS, .non, .non, .non, .non, .non, .non] := by
  have hl := h.len
  unfold p15_law
  refine Tru.seq (ρ1 := [w0, dr, W, OD, .non, .non, .non, told, .lst (Ls.map (planD n)), .non, .int n, LS, .non, .non, .non, .non, .non, .non]) (by simp) ?_
  have so := sets_ok (List.range Ls.length) Ls.length (by simp; omega) (by omega) fun k hk => cnt_dec Ls.length (by omega) k (by omega)
  have lp := due_loop (b := stepB (gNm 6) q12_law) (ks := [6, 14, 15]) evD (fun d => [w0, dr, W, OD, d, .non, .non, told, .lst (Ls.map (planD n)), .non, .int n, LS, .non, .non, .non, .non, .non, .non]) (tellQ n Ls) (lsets (List.range Ls.length) Ls.length).tail (fun a _ d e => by
    unfold tellQ at e
    split at e
    · cases e; rfl
    · cases e) fun a ha => by
    rw [tail_sets] at ha
    obtain ⟨i, hi, ha⟩ := List.mem_flatMap.mp ha
    have hi := List.mem_range.mp hi
    have rl := row_len _ _ a ha
    exact q12_ok hn h a (fun p hp => List.mem_range.mp (mem_rows _ _ a ha p hp)) (by omega) LS
  obtain ⟨l, fq⟩ := quarrel_ok hn h
  rw [← tail_sets] at fq
  have gd : Good (opD id ((lsets (List.range Ls.length) Ls.length).tail.findSome? (tellQ n Ls))) := good_op fun a ha d e => by
    rw [tail_sets] at ha
    obtain ⟨i, hi, ha⟩ := List.mem_flatMap.mp ha
    have hi := List.mem_range.mp hi
    have rl := row_len _ _ a ha
    have g1 := good_ev a (fun p hp => by have := List.mem_range.mp (mem_rows _ _ a ha p hp); omega) (by omega)
    unfold tellQ at e
    split at e
    · cases e; exact g1
    · cases e
  have sm := gd.same
  have im : immR .sh (opD id ((lsets (List.range Ls.length) Ls.length).tail.findSome? (tellQ n Ls))) = true := by
    cases e : (lsets (List.range Ls.length) Ls.length).tail.findSome? (tellQ n Ls) with
    | none => rfl
    | some d =>
      obtain ⟨a, ha, e⟩ := List.exists_of_findSome?_eq_some e
      unfold tellQ at e
      split at e
      · cases e
        exact imm_ev a
      · cases e
  have cl : (lsets (List.range Ls.length) Ls.length).length ≤ 10000 := by
    unfold lsets
    have := len_flat (rowsAt (List.range Ls.length)) 2000 (List.range (Ls.length + 1)) fun k hk => cnt_dec Ls.length (by omega) k (by have := List.mem_range.mp hk; omega)
    rw [List.length_range] at this
    omega
  have ct : cutD ((lsets (List.range Ls.length) Ls.length).map evD) (some 1) none = (lsets (List.range Ls.length) Ls.length).tail.map evD := by
    rw [cut_from _ 1 (by omega), List.map_tail, ← List.drop_one]
    rfl
  have okt : okLen ((lsets (List.range Ls.length) Ls.length).length - 1) = true := okLen_of (by omega)
  have okl : okLen Ls.length = true := okLen_of (by omega)
  have s62 : small62 (Ls.length : Int) = true := s62_of (by omega) (by omega)
  have en : intsD 0 Ls.length = (List.range Ls.length).map nD := ints_nD Ls.length
  unfold p16_law
  refine Tru.seq (ρ1 := [w0, dr, W, OD, opD id ((lsets (List.range Ls.length) Ls.length).tail.findSome? (tellQ n Ls)), .non, .non, told, .lst (Ls.map (planD n)), .non, .int n, LS, .non, .non, .non, .non, .non, .non]) ?_ ?_
  · generalize (lsets (List.range Ls.length) Ls.length).tail.findSome? (tellQ n Ls) = FS at *
    generalize lsets (List.range Ls.length) Ls.length = SS at *
    generalize (List.range Ls.length).map nD = RR at *
    rw [List.map_tail] at lp ct
    simp [oRg1, okl, s62, en, so, ct, okt, lp]
  · generalize opD id ((lsets (List.range Ls.length) Ls.length).tail.findSome? (tellQ n Ls)) = FS at *
    generalize Ls.map (planD n) = V at *
    unfold p17_law
    exact ⟨_, by simp [fq, im, sm]; rfl⟩
end
end K64

namespace K64
open PySem PySem.Spec PyProof.Rows L2 TL PL
section
variable {n : Nat} {ls : List Link} {w0 dr W OD told : D}
theorem p14_ok (hn : n ≤ 5) {Ls : List (List Link)} (h : AllOk n Ls) (h2 : 2 ≤ Ls.length) (LS due : D) : Tru p14_law [w0, dr, W, OD, due, .non, .non, told, .lst (Ls.map (planD n)), .non, .int n, LS, .non, .non, .non, .non, .non, .non] := by
  unfold p14_law
  refine Tru.seq ?_ (p15_ok (w0 := w0) (dr := dr) (W := W) (OD := OD) (told := told) hn h LS due)
  have hl := h.len
  have a0 := ix_s (planD n) Ls 0 ⟨by omega, by omega⟩
  have a1 := ix_s (planD n) Ls 1 ⟨by omega, by omega⟩
  have z0 : (0 : Int).toNat = 0 := rfl
  have z1 : (1 : Int).toNat = 1 := rfl
  rw [z0] at a0
  rw [z1] at a1
  have m0 := h.ok _ (getD_mem (l := Ls) (k := 0) (by omega))
  have m1 := h.ok _ (getD_mem (l := Ls) (k := 1) (by omega))
  generalize Ls.getD 0 default = A at *
  generalize Ls.getD 1 default = B at *
  have pa : dIx (planD n A) (.int 1) = some (.tup (A.map linkD)) := rfl
  have pb : dIx (planD n B) (.int 1) = some (.tup (B.map linkD)) := rfl
  obtain ⟨l, ag⟩ := agree_ok hn A B m0 m1
  have l0 := m0.len
  have l1 := m1.len
  have lo := least_ok (n := n) (ls := A ++ B) (w := .tup ((A ++ B).map linkD)) rfl (by simp; omega) (by omega)
  rw [List.map_append] at lo
  have okc : okLen (A.length + B.length) = true := okLen_of (by omega)
  generalize planD n A = PA at *
  generalize planD n B = PB at *
  generalize Ls.map (planD n) = V at *
  cases hb : least n (A ++ B) with
  | none =>
    rw [hb] at lo ag
    have d1 : dNe (.bl false) (.bl false) = some (.bl false) := by kernel_rfl
    simp at ag
    simp [a0, a1, ag, pa, pb, okc, e_least, lo, opD, d1]
  | some x =>
    rw [hb] at lo ag
    have d1 : dNe (.bl true) (.bl true) = some (.bl false) := by kernel_rfl
    simp at ag
    simp [a0, a1, ag, pa, pb, okc, e_least, lo, opD, isNon_al, d1]
theorem max2 (a b : Nat) : maxS (.tup [.int (a : Int), .int (b : Int)]) = some (.int ((max a b : Nat) : Int)) := by
  show some (D.int (if (b : Int) > (a : Int) then (b : Int) else (a : Int))) = _
  congr 2
  split <;> omega
theorem cut2 (l : Link) : cutD [.int (l.i : Int), .int (l.j : Int), .int l.low, opD D.int l.high] none (some 2) = [.int (l.i : Int), .int (l.j : Int)] := by
  rw [cut_to _ 2 (by omega)]
  rfl
def inL (n : Nat) (ls : List Link) : List Link := ls.filter fun l => decide (max l.i l.j < n)
theorem inL_ok {n m : Nat} {ls : List Link} (h : POk m 60 ls) : POk n 60 (inL n ls) := by
  refine ⟨fun l hl => ?_, Nat.le_trans (List.length_filter_le _ _) h.len, h.asc.sublist List.filter_sublist, fun l hl => h.hi l (List.mem_filter.mp hl).1⟩
  have h1 := List.mem_filter.mp hl
  have h2 := h.ok l h1.1
  have h3 : max l.i l.j < n := by simpa using h1.2
  exact ⟨by omega, by omega, h2.2.2⟩
theorem q10_ok (ns : List Int) (s : Dr) (hs : s.ok) (hn : n ≤ 5) {Ls : List (List Link)} (h : ∀ l ∈ Ls, POk n 60 l) (hl : Ls.length ≤ 2) (LS due k : D) : ∃ s' l, s'.ok ∧ POk n 60 l ∧
    (stepB (gNm 9) q10_law k [w0, drD ns s, W, OD, due, .non, .non, told, .lst (Ls.map (planD n)), .non, .int n, LS, .non, .non, .non, .non, .non, .non]).bind (nxOf [9, 13]) = some [w0, drD ns s', W, OD, due, .non, .non, told, .lst ((Ls ++ [l]).map (planD n)), .non, .int n, LS, .non, .non, .non, .non, .non, .non] := by
  obtain ⟨s', m, L, ok', h1, h2, hP, e⟩ := plan_ok ns s hs 5 4 (by omega) (.inl rfl)
  have e5 : ((5 : Nat) : Int) = 5 := rfl
  have e4 : ((4 : Nat) : Int) = 4 := rfl
  rw [e5, e4] at e
  refine ⟨s', inL n L, ok', inL_ok hP, ?_⟩
  have lc := lc_map (step := stepLc [17] (gNm 17) t8_law e9_law) linkD (fun l => if decide (max l.i l.j < n) then some (linkD l) else none) [w0, drD ns s', W, OD, due, .non, .non, told, .lst (Ls.map (planD n)), k, .int n, LS, .non, planD m L, .non, .non, .non, .non] L fun l _ => by
    have m2 := max2 l.i l.j
    have c2 := cut2 l
    have el : linkD l = .tup [.int (l.i : Int), .int (l.j : Int), .int l.low, opD D.int l.high] := rfl
    rw [el]
    generalize [D.int (l.i : Int), .int (l.j : Int), .int l.low, opD D.int l.high] = T at *
    generalize Ls.map (planD n) = V at *
    generalize planD m L = PP at *
    generalize hM : max l.i l.j = M at *
    unfold t8_law e9_law
    by_cases hlt : M < n
    · have hlt' : (M : Int) < (n : Int) := by omega
      simp [c2, m2, hlt, hlt']
    · have hlt' : ¬ (M : Int) < (n : Int) := by omega
      simp [c2, m2, hlt, hlt']
  have el : L.filterMap (fun l => if decide (max l.i l.j < n) then some (linkD l) else none) = (inL n L).map linkD := by
    unfold inL
    rw [← List.filterMap_eq_map, List.filterMap_filter]
    rfl
  rw [el] at lc
  have px1 : dIx (planD m L) (.int 1) = some (.tup (L.map linkD)) := rfl
  have lenL := hP.len
  have lenI : (inL n L).length ≤ 20 := (inL_ok (n := n) hP).len
  have okL : okLen (L.map linkD).length = true := okLen_of (by rw [List.length_map]; omega)
  have okI : okLen ((inL n L).map linkD).length = true := okLen_of (by rw [List.length_map]; omega)
  have okA : okLen ((Ls.map (planD n)).length + 1) = true := okLen_of (by rw [List.length_map]; omega)
  have ep : planD n (inL n L) = .tup [.int n, .tup ((inL n L).map linkD)] := rfl
  rw [List.map_append, List.map_cons, List.map_nil, ep]
  generalize (inL n L).map linkD = IL at *
  generalize L.map linkD = LL at *
  generalize Ls.map (planD n) = V at *
  generalize planD m L = PP at *
  unfold q10_law
  simp [e_plan, e, px1, okL, lc, okI, okLen_of, v_appOf, okA]
theorem p12_ok (ns : List Int) (s : Dr) (hs : s.ok) (hn : n ≤ 5) (h : POk n 60 ls) (LS due : D) (hW : W = planD n ls) : Tru p12_law [w0, drD ns s, W, OD, due, .non, .non, told, .non, .non, .int n, LS, .non, .non, .non, .non, .non, .non] := by
  obtain ⟨v, s1, ok1, lt1, e1⟩ := next_eq ns s hs 2 (by omega) (by omega)
  have h1ls : ∀ l ∈ [ls], POk n 60 l := fun l hl => by
    have : l = ls := by simpa using hl
    subst this; exact h
  have key := loop_inv (b := stepB (gNm 9) q10_law) (ks := [9, 13]) nD (fun st : Dr × List (List Link) => [w0, drD ns st.1, W, OD, due, .non, .non, told, .lst (st.2.map (planD n)), .non, .int n, LS, .non, .non, .non, .non, .non, .non]) (fun pre st => st.1.ok ∧ (∀ l ∈ st.2, POk n 60 l) ∧ st.2.length = pre.length + 1) (List.range (1 + v)) [] (s1, [ls]) ⟨ok1, h1ls, rfl⟩ fun pre k post eq st ⟨k1, k2, k3⟩ => by
    obtain ⟨ek, hk⟩ := range_split (by simpa using eq)
    obtain ⟨s, Ls⟩ := st
    simp only at k1 k2 k3
    obtain ⟨s', l, ok', hl, e⟩ := q10_ok (w0 := w0) (W := W) (OD := OD) (told := told) ns s k1 hn k2 (by omega) LS due (nD k)
    exact ⟨(s', Ls ++ [l]), e, ok', (fun x hx => (List.mem_append.mp hx).elim (k2 x) fun z => by
      have : x = l := by simpa using z
      subst this; exact hl), by simp; omega⟩
  obtain ⟨⟨s2, Ls⟩, e2, k1, k2, k3⟩ := key
  simp only [List.nil_append, List.length_range] at k1 k2 k3
  unfold p12_law
  refine Tru.seq (ρ1 := [w0, drD ns s, W, OD, due, .non, .non, told, .lst [W], .non, .int n, LS, .non, .non, .non, .non, .non, .non]) (by simp [okLen_of]) ?_
  unfold p13_law
  refine Tru.seq ?_ (p14_ok (dr := drD ns s2) (w0 := w0) (W := W) (OD := OD) (told := told) hn ⟨k2, by omega⟩ (by omega) LS due)
  have s62 : small62 (1 + (v : Int)) = true := s62_of (by omega) (by omega)
  have e3 : (1 + (v : Int)).toNat = 1 + v := by omega
  have e4 : intsD 0 (1 + v) = (List.range (1 + v)).map nD := ints_nD (1 + v)
  simp only [List.map_cons, List.map_nil, ← hW] at e2
  generalize (List.range (1 + v)).map nD = RR at *
  generalize Ls.map (planD n) = V at *
  simp [e_next, e1, s62, e3, e4, e2]
end
end K64

namespace K64
open PySem PySem.Spec PyProof.Rows L2 TL PL
section
variable {n : Nat} {ls : List Link} {w0 dr W OD told : D}
theorem q7_ok (hn : n ≤ 5) (h : POk n 60 ls) (places : List Nat) :
    (stepB (gNm 6) q7_law (evD places) [w0, dr, W, OD, .non, .non, .non, .non, .non, .non, .int n, .tup (ls.map linkD), .non, .non, .non, .non, .non, .non]).bind (nxOf [6]) = some [w0, dr, W, OD, opD id (tellS n ls places), .non, .non, .non, .non, .non, .int n, .tup (ls.map linkD), .non, .non, .non, .non, .non, .non] ∧
    ∀ d, isNonD d = false → (stepB (gNm 6) q7_law (evD places) [w0, dr, W, OD, d, .non, .non, .non, .non, .non, .int n, .tup (ls.map linkD), .non, .non, .non, .non, .non, .non]).bind (nxOf [6]) = some [w0, dr, W, OD, d, .non, .non, .non, .non, .non, .int n, .tup (ls.map linkD), .non, .non, .non, .non, .non, .non] := by
  have lc := lc_map (step := stepLc [9] (gNm 9) t5_law e6_law) nD (fun k => if !places.contains k then some (linkD (ls.getD k default)) else none) [w0, dr, W, OD, .non, .non, evD places, .non, .non, .non, .int n, .tup (ls.map linkD), .non, .non, .non, .non, .non, .non] (List.range ls.length) fun k hk => by
    have hk := List.mem_range.mp hk
    have nn := notin_ok k places
    have a1 := ix_s linkD ls (k : Int) ⟨by omega, by omega⟩
    rw [Int.toNat_natCast] at a1
    unfold t5_law e6_law
    generalize evD places = M at *
    generalize linkD (ls.getD k default) = LD at *
    generalize ls.map linkD = LL at *
    cases hc : places.contains k <;> (rw [hc] at nn; simp [nD, nn, a1])
  have el : (List.range ls.length).filterMap (fun k => if !places.contains k then some (linkD (ls.getD k default)) else none) = (leftL ls places).map linkD := by
    unfold leftL
    rw [List.map_map, ← List.filterMap_eq_map, List.filterMap_filter]
    rfl
  rw [el] at lc
  have hl := h.len
  have ll := leftL_len ls places
  have lo := least_ok (n := n) (ls := leftL ls places) (w := .lst ((leftL ls places).map linkD)) rfl (by omega) (by omega)
  have okl : okLen ls.length = true := okLen_of (by omega)
  have s62 : small62 (ls.length : Int) = true := s62_of (by omega) (by omega)
  have en : intsD 0 ls.length = (List.range ls.length).map nD := ints_nD ls.length
  unfold tellS
  generalize leftL ls places = L0 at *
  generalize evD places = M at *
  generalize hR : (List.range ls.length).map nD = RR at *
  have okr : okLen RR.length = true := by rw [← hR]; simpa using okl
  refine ⟨?_, fun d hd => ?_⟩
  · cases hb : least n L0 with
    | none =>
      rw [hb] at lo
      rw [if_pos rfl]
      unfold q7_law
      simp [okl, s62, en, okr, lc, e_least, lo, opD]
    | some l =>
      rw [hb] at lo
      rw [if_neg (by simp)]
      unfold q7_law
      simp [okl, s62, en, okr, lc, e_least, lo, opD, isNon_al]
  · unfold q7_law
    simp [hd]
theorem p7_ok (ns : List Int) (s : Dr) (hs : s.ok) (hn : n ≤ 5) (h : POk n 60 ls) (due : D) : Tru p7_law [w0, drD ns s, planD n ls, OD, due, .non, .non, .non, .non, .non, .int n, .tup (ls.map linkD), .non, .non, .non, .non, .non, .non] := by
  have hl := h.len
  obtain ⟨most, hm, hm1, hm2, hm3⟩ : ∃ most : Nat, most ≤ 3 ∧ (ls.length < 9 → most = 3) ∧ (¬ ls.length < 9 → most = 2) ∧ (if (ls.length : Int) < 9 then (3 : Int) else 2) = most := by
    by_cases c : ls.length < 9
    · exact ⟨3, by omega, fun _ => rfl, fun z => absurd c z, by rw [if_pos (by omega)]; rfl⟩
    · exact ⟨2, by omega, fun z => absurd z c, fun _ => rfl, by rw [if_neg (by omega)]; rfl⟩
  have so := sets_ok (List.range ls.length) most (by simp; omega) (by omega) fun k hk => cnt_dec ls.length (by omega) k (by omega)
  have nonS : ∀ a d, tellS n ls a = some d → d = evD a := fun a d e => by
    unfold tellS at e
    split at e
    · cases e
    · cases e; rfl
  have lp := due_loop (b := stepB (gNm 6) q7_law) (ks := [6]) evD (fun d => [w0, drD ns s, planD n ls, OD, d, .non, .non, .non, .non, .non, .int n, .tup (ls.map linkD), .non, .non, .non, .non, .non, .non]) (tellS n ls) (lsets (List.range ls.length) most) (fun a _ d e => by rw [nonS a d e]; rfl) fun a ha => q7_ok hn h a
  obtain ⟨l, st⟩ := strain_ok hn h
  have e3 : lsets (List.range ls.length) 3 = lsets (List.range ls.length) 2 ++ rowsAt (List.range ls.length) 3 := lsets_succ _ 2
  have gd : ∀ m, m ≤ 3 → ∀ d, (lsets (List.range ls.length) m).findSome? (tellS n ls) = some d → Good d ∧ isNonD d = false := fun m hm d e => by
    obtain ⟨a, ha, e⟩ := List.exists_of_findSome?_eq_some e
    obtain ⟨k, hk, ha⟩ := List.mem_flatMap.mp ha
    have hk := List.mem_range.mp hk
    have rl := row_len _ _ a ha
    rw [nonS a d e]
    exact ⟨good_ev a (fun p hp => by have := List.mem_range.mp (mem_rows _ _ a ha p hp); omega) (by omega), rfl⟩
  have cl : (lsets (List.range ls.length) most).length ≤ 10000 := by
    unfold lsets
    have := len_flat (rowsAt (List.range ls.length)) 2000 (List.range (most + 1)) fun k hk => cnt_dec ls.length (by omega) k (by have := List.mem_range.mp hk; omega)
    rw [List.length_range] at this
    omega
  have okS' : okLen (lsets (List.range ls.length) most).length = true := okLen_of (by omega)
  have okl : okLen ls.length = true := okLen_of (by omega)
  have s62 : small62 (ls.length : Int) = true := s62_of (by omega) (by omega)
  have en : intsD 0 ls.length = (List.range ls.length).map nD := ints_nD ls.length
  unfold p7_law
  refine Tru.seq (ρ1 := [w0, drD ns s, planD n ls, OD, .non, .non, .non, .non, .non, .non, .int n, .tup (ls.map linkD), .non, .non, .non, .non, .non, .non]) (by simp) ?_
  unfold p8_law
  refine Tru.seq (ρ1 := [w0, drD ns s, planD n ls, OD, opD id ((lsets (List.range ls.length) most).findSome? (tellS n ls)), .non, .non, .non, .non, .non, .int n, .tup (ls.map linkD), .non, .non, .non, .non, .non, .non]) ?_ ?_
  · generalize (lsets (List.range ls.length) most).findSome? (tellS n ls) = FS at *
    generalize planD n ls = PP at *
    generalize lsets (List.range ls.length) most = SS at *
    generalize (List.range ls.length).map nD = RR at *
    clear st e3 gd
    by_cases c : (ls.length : Int) < 9
    · rw [if_pos c] at hm3
      rw [← hm3] at so
      simp [oRg1, okl, s62, en, c, so, okS', lp]
    · rw [if_neg c] at hm3
      rw [← hm3] at so
      simp [oRg1, okl, s62, en, c, so, okS', lp]
  unfold p9_law
  refine Tru.seq (ρ1 := [w0, drD ns s, planD n ls, OD, opD id ((lsets (List.range ls.length) most).findSome? (tellS n ls)), .non, .non, opD id ((lsets (List.range ls.length) 3).findSome? (tellS n ls)), .non, .non, .int n, .tup (ls.map linkD), .non, .non, .non, .non, .non, .non]) (by simp [st]) ?_
  have k12 := fun due told => p12_ok (w0 := w0) (W := planD n ls) (OD := OD) (told := told) ns s hs hn h (.tup (ls.map linkD)) due rfl
  unfold p10_law
  clear lp so st
  refine Tru.seq (ρ1 := [w0, drD ns s, planD n ls, OD, opD id ((lsets (List.range ls.length) most).findSome? (tellS n ls)), .non, .non, opD id ((lsets (List.range ls.length) 3).findSome? (tellS n ls)), .non, .non, .int n, .tup (ls.map linkD), .non, .non, .non, .non, .non, .non]) ?_ ?_
  · cases hf : (lsets (List.range ls.length) most).findSome? (tellS n ls) with
    | none => simp [opD]
    | some d =>
      obtain ⟨g1, g2⟩ := gd most hm d hf
      have et : (lsets (List.range ls.length) 3).findSome? (tellS n ls) = some d := by
        by_cases c : ls.length < 9
        · rw [← hm1 c]; exact hf
        · rw [hm2 c] at hf
          rw [e3, List.findSome?_append, hf]; rfl
      have sm := g1.same
      rw [et]
      simp [opD, g2, sm]
  unfold p11_law
  refine Tru.seq ?_ (k12 (opD id ((lsets (List.range ls.length) most).findSome? (tellS n ls))) (opD id ((lsets (List.range ls.length) 3).findSome? (tellS n ls))))
  · cases hf : (lsets (List.range ls.length) most).findSome? (tellS n ls) with
    | some d =>
      obtain ⟨g1, g2⟩ := gd most hm d hf
      simp [opD, g2]
    | none =>
      by_cases c : ls.length < 9
      · have : most = 3 := hm1 c
        subst this
        rw [hf]
        simp [opD]
      · rw [hm2 c] at hf
        rw [e3, List.findSome?_append, hf, Option.none_or]
        cases hg : (rowsAt (List.range ls.length) 3).findSome? (tellS n ls) with
        | none => simp [opD]
        | some d =>
          obtain ⟨a, ha, e⟩ := List.exists_of_findSome?_eq_some hg
          have rl := row_len _ _ a ha
          have := nonS a d e
          subst this
          have ln : lenD (evD a) = some (.int 3) := by
            show some (D.int ((a.map fun e : Nat => D.int (e : Int)).length : Int)) = _
            rw [List.length_map, rl]; rfl
          have nn : isNonD (evD a) = false := rfl
          have c' : ¬ (ls.length : Int) < 9 := by omega
          generalize evD a = EA at *
          have d3 : dNe (.int 3) (.int 3) = some (.bl false) := by kernel_rfl
          simp [opD, nn, okl, c', ln, d3]
end
end K64

namespace K64
open PySem PySem.Spec PyProof.Rows L2 TL PL
section
variable {n : Nat} {ls : List Link} {old : List Int} {w0 dr W told : D}
theorem q4_ok (hn : n ≤ 5) (h1 : 1 ≤ n) (h : POk n 60 ls) (ho : OldOk n old) (moved : List Nat) :
    (stepB (gNm 5) q4_law (evD moved) [w0, dr, W, .tup (old.map D.int), .non, .non, .non, .non, .non, .non, .int n, .tup (ls.map linkD), .non, .non, .non, .non, .non, .non]).bind (nxOf [5, 12]) = some [w0, dr, W, .tup (old.map D.int), opD id (tellM n ls old moved), .non, .non, .non, .non, .non, .int n, .tup (ls.map linkD), .non, .non, .non, .non, .non, .non] ∧
    ∀ d, isNonD d = false → (stepB (gNm 5) q4_law (evD moved) [w0, dr, W, .tup (old.map D.int), d, .non, .non, .non, .non, .non, .int n, .tup (ls.map linkD), .non, .non, .non, .non, .non, .non]).bind (nxOf [5, 12]) = some [w0, dr, W, .tup (old.map D.int), d, .non, .non, .non, .non, .non, .int n, .tup (ls.map linkD), .non, .non, .non, .non, .non, .non] := by
  have lc := fun due : D => lc_map (step := stepLc [16] (gNm 16) t2_law e3_law) nD (fun e => if !moved.contains e then some (linkD (fixL old e)) else none) [w0, dr, W, .tup (old.map D.int), due, evD moved, .non, .non, .non, .non, .int n, .tup (ls.map linkD), .non, .non, .non, .non, .non, .non] (events n) fun e he => by
    have he := mem_events he
    have nn := notin_ok e moved
    have a1 := ix_s D.int old (e : Int) ⟨by omega, by rw [ho.1]; omega⟩
    rw [Int.toNat_natCast] at a1
    have el : linkD (fixL old e) = .tup [.int 0, .int e, .int (old.getD e 0), .int (old.getD e 0)] := rfl
    have ed : old.getD e default = old.getD e 0 := rfl
    rw [ed] at a1
    rw [el]
    unfold t2_law e3_law
    generalize evD moved = M at *
    generalize old.getD e 0 = O1 at *
    generalize old.map D.int = OL at *
    generalize ls.map linkD = LL at *
    cases hc : moved.contains e <;> (rw [hc] at nn; simp [nD, nn, a1, okLen_of])
  have el : (events n).filterMap (fun e => if !moved.contains e then some (linkD (fixL old e)) else none) = (keptL n old moved).map linkD := by
    unfold keptL keptE
    rw [List.map_map, ← List.filterMap_eq_map, List.filterMap_filter]
    rfl
  rw [el] at lc
  have hl := h.len
  have kl := keptE_len n moved
  have kl2 : (keptL n old moved).length ≤ n := by unfold keptL; rw [List.length_map]; exact kl
  have rl := ring_least (n := n) (by omega) (SOk.append h.ok (keptL_ok ho moved)) (keptT_mem n ls old moved)
  have lo := least_ok (n := n) (ls := ls ++ keptL n old moved) (w := .tup ((ls ++ keptL n old moved).map linkD)) rfl (by simp; omega) (by omega)
  have e1 : intsD 1 (n - 1) = (events n).map nD := ints1 (n - 1)
  have e2 : ((n : Int) - 1).toNat = n - 1 := by omega
  have s1 : small62 (1 : Int) = true := s62_of (by omega) (by omega)
  have s2 : small62 (n : Int) = true := s62_of (by omega) (by omega)
  have okE : okLen ((events n).map nD).length = true := okLen_of (by rw [List.length_map]; simp [events]; omega)
  have okK : okLen ((keptL n old moved).map linkD).length = true := okLen_of (by rw [List.length_map]; omega)
  have okA : okLen ((ls.map linkD).length + ((keptL n old moved).map linkD).length) = true := okLen_of (by rw [List.length_map, List.length_map]; omega)
  rw [List.map_append] at lo
  generalize hKL : (keptL n old moved).map linkD = KL at *
  refine ⟨?_, fun d hd => ?_⟩
  · have lc := lc .non
    unfold tellM
    cases hb : least n (ls ++ keptL n old moved) with
    | none =>
      rw [hb] at lo
      rw [if_pos rfl]
      generalize ls.map linkD = LL at *
      generalize (events n).map nD = EV at *
      generalize evD moved = M at *
      unfold q4_law
      simp [s1, s2, e2, e1, okE, lc, okK, okA, e_least, lo, opD]
    | some l =>
      have T := rl.2 (rl.1.mpr (by rw [hb]; simp))
      have lt := ltimes_ok T (by omega) (U := 60) ⟨by omega, by omega⟩ (w := .tup ((ls ++ keptL n old moved).map linkD)) rfl (by simp; omega)
      rw [List.map_append, hKL] at lt
      rw [hb] at lo
      rw [if_neg (by simp)]
      generalize timesB n (ofSteps n (keptT n ls old moved)) = TB at *
      generalize ls.map linkD = LL at *
      generalize (events n).map nD = EV at *
      generalize evD moved = M at *
      unfold q4_law
      simp [s1, s2, e2, e1, okE, lc, okK, okA, e_least, e_times, lo, lt, opD, isNon_al, okLen_of]
  · have lc := lc d
    generalize ls.map linkD = LL at *
    generalize (events n).map nD = EV at *
    generalize evD moved = M at *
    unfold q4_law
    simp [s1, s2, e2, e1, okE, lc, okK, hd]
theorem p4_ok (ns : List Int) (s : Dr) (hs : s.ok) (hn : n ≤ 5) (h1 : 1 ≤ n) (h : POk n 60 ls) (ho : OldOk n old) : Tru p4_law [w0, drD ns s, planD n ls, .tup (old.map D.int), .non, .non, .non, .non, .non, .non, .int n, .tup (ls.map linkD), .non, .non, .non, .non, .non, .non] := by
  have hev : (events n).length = n - 1 := by simp [events]
  have so := sets_ok (events n) (n - 1) (by omega) (by omega) fun k hk => cnt_ev n (by omega) k (by omega)
  have gd : ∀ a ∈ lsets (events n) (n - 1), ∀ d, tellM n ls old a = some d → Good d ∧ isNonD d = false := fun a ha d e => by
    obtain ⟨k, hk, ha⟩ := List.mem_flatMap.mp ha
    have hk := List.mem_range.mp hk
    have rl := row_len _ _ a ha
    exact good_tellM hn h ho a (fun e he => by have := mem_events (mem_rows _ _ a ha e he); omega) (by omega) e
  have lp := due_loop (b := stepB (gNm 5) q4_law) (ks := [5, 12]) evD (fun d => [w0, drD ns s, planD n ls, .tup (old.map D.int), d, .non, .non, .non, .non, .non, .int n, .tup (ls.map linkD), .non, .non, .non, .non, .non, .non]) (tellM n ls old) (lsets (events n) (n - 1)) (fun a ha d e => (gd a ha d e).2) fun a ha => q4_ok hn h1 h ho a
  obtain ⟨l, me⟩ := mended_ok hn h1 h ho
  have sm := (good_op fun a ha d e => (gd a ha d e).1 : Good (opD id ((lsets (events n) (n - 1)).findSome? (tellM n ls old)))).same
  have cl : (lsets (events n) (n - 1)).length ≤ 10000 := by
    unfold lsets
    have := len_flat (rowsAt (events n)) 2000 (List.range (n - 1 + 1)) fun k hk => cnt_ev n (by omega) k (by have := List.mem_range.mp hk; omega)
    rw [List.length_range] at this
    omega
  have okS' : okLen (lsets (events n) (n - 1)).length = true := okLen_of (by omega)
  have s1 : small62 (1 : Int) = true := s62_of (by omega) (by omega)
  have s2 : small62 (n : Int) = true := s62_of (by omega) (by omega)
  have e1 : intsD 1 (n - 1) = (events n).map nD := ints1 (n - 1)
  have e2 : ((n : Int) - 1).toNat = n - 1 := by omega
  have e3 : ((n - 1 : Nat) : Int) = (n : Int) - 1 := by omega
  have rg : ∀ ρ, rg2Of (.v (.int 1)) (.v (.int n)) ρ = some (.lst ((events n).map nD), ρ) := fun ρ => by
    rw [v_rg2Of 1 n ρ s1 s2 (okLen_of (by omega)), e2, e1]
  rw [e3] at so
  unfold p4_law
  refine Tru.seq (ρ1 := [w0, drD ns s, planD n ls, .tup (old.map D.int), .non, .non, .non, .non, .non, .non, .int n, .tup (ls.map linkD), .non, .non, .non, .non, .non, .non]) (by simp) ?_
  unfold p5_law
  refine Tru.seq (ρ1 := [w0, drD ns s, planD n ls, .tup (old.map D.int), opD id ((lsets (events n) (n - 1)).findSome? (tellM n ls old)), .non, .non, .non, .non, .non, .int n, .tup (ls.map linkD), .non, .non, .non, .non, .non, .non]) ?_ ?_
  · generalize (lsets (events n) (n - 1)).findSome? (tellM n ls old) = FS at *
    generalize lsets (events n) (n - 1) = SS at *
    generalize (events n).map nD = EV at *
    generalize planD n ls = PP at *
    simp [rg, so, okS', lp]
  · unfold p6_law
    refine Tru.seq ?_ (p7_ok (w0 := w0) (OD := .tup (old.map D.int)) ns s hs hn h (opD id ((lsets (events n) (n - 1)).findSome? (tellM n ls old))))
    generalize opD id ((lsets (events n) (n - 1)).findSome? (tellM n ls old)) = FS at *
    generalize planD n ls = PP at *
    simp [me, sm]
end
theorem law_true : lawF F_law := by
  intro ns _
  have e0 := draw_ok ns
  have e0' : F__law_draw [.scr ns] = some (drD ns Dr0, [.scr ns]) := e0
  refine Tru.law (b := b_law) (m := 17) ?_
  obtain ⟨s1, n, ls, ok1, n1, n5, hP, e1⟩ := plan_ok ns Dr0 Dr0.ok 5 4 (by omega) (.inl rfl)
  have e5 : ((5 : Nat) : Int) = 5 := rfl
  have e4 : ((4 : Nat) : Int) = 4 := rfl
  rw [e5, e4] at e1
  unfold b_law
  refine Tru.seq (ρ1 := [.scr ns, drD ns Dr0, .non, .non, .non, .non, .non, .non, .non, .non, .non, .non, .non, .non, .non, .non, .non, .non]) (by simp [e0']) ?_
  refine Tru.seq (ρ1 := [.scr ns, drD ns s1, planD n ls, .non, .non, .non, .non, .non, .non, .non, .non, .non, .non, .non, .non, .non, .non, .non]) (by simp [e_plan, e1]) ?_
  unfold p2_law
  refine Tru.seq (ρ1 := [.scr ns, drD ns s1, planD n ls, .non, .non, .non, .non, .non, .non, .non, .int n, .tup (ls.map linkD), .non, .non, .non, .non, .non, .non]) (by simp [planD]) ?_
  obtain ⟨ds, s2, ok2, dl, dq, e2⟩ := lc_st (step := stepLc [9] (gNm 9) tYesF e1_law) nD (fun s : Dr => [.scr ns, drD ns s, planD n ls, .non, .non, .non, .non, .non, .non, .non, .int n, .tup (ls.map linkD), .non, .non, .non, .non, .non, .non]) Dr.ok (fun _ d => ∃ t : Int, d = .int t ∧ -2 ≤ t ∧ t ≤ 6) (List.range (n - 1)) s1 ok1 fun a _ s hs => by
    obtain ⟨u, s', ok', lt', e'⟩ := next_eq ns s hs 9 (by omega) (by omega)
    refine ⟨.int (u - 2), s', ok', ⟨_, rfl, by omega, by omega⟩, ?_⟩
    generalize planD n ls = PP
    generalize ls.map linkD = LL
    unfold e1_law tYesF
    simp [nD, e_next, e']
  obtain ⟨ts, rfl, ht⟩ := ints_of (P := fun t => -2 ≤ t ∧ t ≤ 6) ds (fun d hd => (of_idx (fun _ d => ∃ t : Int, d = .int t ∧ -2 ≤ t ∧ t ≤ 6) _ ds dl dq d hd).elim fun _ z => z.2)
  have ho : OldOk n (0 :: ts) := by
    refine ⟨by simp at dl ⊢; omega, fun t h => ?_⟩
    rcases List.mem_cons.mp h with rfl | z
    · omega
    · exact ht t z
  have lt : ts.length = n - 1 := by simpa using dl
  have s62 : small62 ((n : Int) - 1) = true := s62_of (by omega) (by omega)
  have en : ((n : Int) - 1).toNat = n - 1 := by omega
  have e6 : intsD 0 (n - 1) = (List.range (n - 1)).map nD := ints_nD (n - 1)
  have okn : okLen (n - 1) = true := okLen_of (by omega)
  have okt : okLen (1 + ts.length) = true := okLen_of (by omega)
  have okt2 : okLen (ts.length + 1) = true := okLen_of (by omega)
  have p4 := p4_ok (w0 := .scr ns) ns s2 ok2 n5 n1 hP ho
  rw [List.map_cons] at p4
  unfold p3_law
  refine Tru.seq ?_ p4
  generalize planD n ls = PP at *
  generalize ls.map linkD = LL at *
  have okr : okLen ((List.range (n - 1)).map nD).length = true := by rw [List.length_map, List.length_range]; exact okn
  generalize (List.range (n - 1)).map nD = RR at *
  simp [okLen_of, s62, en, e6, okr, e2, okt, okt2]
end K64

open PySem PySem.W PyProof.Rows
set_option maxHeartbeats 0 in
theorem PySem.Challenge.cw_farcall_k64_amends_holds : PySem.Challenge.rw_farcall_k64_amends.Holds := by
  w_on; o_law; k_head; (case hw => w_witness2)
  k_fill
  refine TL.walk_ofG (l := PySem.Challenge.rw_farcall_k64_amends) (k := 6) (x := "script") rfl rfl ⟨rfl, by decide, by decide⟩ (fun w h Y => PySem.W.kIn_of Y) ?F
  case F =>
    intro w mg fa h KX G hmg
    refine' TL.toLG K64.law_true (K64.all_mk KX G hmg ?a0 ?l0 ?c0 ?k0 ?a1 ?l1 ?c1 ?k1 ?a2 ?l2 ?c2 ?k2 ?a3 ?l3 ?c3 ?k3 ?a4 ?l4 ?c4 ?k4 ?a5 ?l5 ?c5 ?k5 ?a6 ?l6 ?c6 ?k6 ?a7 ?l7 ?c7 ?k7 ?a8 ?l8 ?c8 ?k8 ?a9 ?i_9 ?l9 ?c9 ?k9 ?a10 ?i_10 ?l10 ?c10 ?k10 ?a11 ?i_11 ?l11 ?c11 ?k11 ?a12 ?l12 ?c12 ?k12 ?a13 ?l13 ?c13 ?k13 ?a14 ?l14 ?c14 ?k14 ?a15 ?l15 ?c15 ?k15 ?a16 ?l16 ?c16 ?k16 ?a17 ?l17 ?c17 ?k17 ?a18 ?l18 ?c18 ?k18 ?a19 ?l19 ?c19 ?k19 ?a20 ?l20 ?c20 ?k20 ?aC_Bounds ?pg_Bounds ?hd_Bounds ?po_Bounds ?sa_Bounds ?mk_Bounds ?kc_Bounds ?n_Bounds_events ?n_Bounds_least ?n_Bounds_ring ?n_Bounds_way ?z0 ?z1 ?z2 ?z3 ?z4 ?z5 ?z6 ?z7 ?z8 ?z9 ?z10 ?i0)
    (case aC_Bounds => k_is); (case a0 => k_is); (case l0 => k_is); (case c0 => k_is); (case k0 => k_is); (case a1 => k_is); (case l1 => k_is); (case c1 => k_is); (case k1 => k_is); (case a2 => k_is); (case l2 => k_is); (case c2 => k_is); (case k2 => k_is); (case a3 => k_is); (case l3 => k_is); (case c3 => k_is); (case k3 => k_is); (case a4 => k_is); (case l4 => k_is); (case c4 => k_is); (case k4 => k_is); (case a5 => k_is); (case l5 => k_is); (case c5 => k_is); (case k5 => k_is); (case a6 => k_is); (case l6 => k_is); (case c6 => k_is); (case k6 => k_is); (case a7 => k_is); (case l7 => k_is); (case c7 => k_is); (case k7 => k_is); (case a8 => k_is); (case l8 => k_is); (case c8 => k_is); (case k8 => k_is); (case a9 => k_is); (case i_9 => k_is); (case l9 => k_is); (case c9 => k_is); (case k9 => k_is); (case a10 => k_is); (case i_10 => k_is); (case l10 => k_is); (case c10 => k_is); (case k10 => k_is); (case a11 => k_is); (case i_11 => k_is); (case l11 => k_is); (case c11 => k_is); (case k11 => k_is); (case a12 => k_is); (case l12 => k_is); (case c12 => k_is); (case k12 => k_is); (case a13 => k_is); (case l13 => k_is); (case c13 => k_is); (case k13 => k_is); (case a14 => k_is); (case l14 => k_is); (case c14 => k_is); (case k14 => k_is); (case a15 => k_is); (case l15 => k_is); (case c15 => k_is); (case k15 => k_is); (case a16 => k_is); (case l16 => k_is); (case c16 => k_is); (case k16 => k_is); (case a17 => k_is); (case l17 => k_is); (case c17 => k_is); (case k17 => k_is); (case a18 => k_is); (case l18 => k_is); (case c18 => k_is); (case k18 => k_is); (case a19 => k_is); (case l19 => k_is); (case c19 => k_is); (case k19 => k_is); (case a20 => k_is); (case l20 => k_is); (case c20 => k_is); (case k20 => k_is); (case pg_Bounds => k_is); (case hd_Bounds => k_is); (case po_Bounds => k_is); (case sa_Bounds => k_is); (case mk_Bounds => k_is); (case kc_Bounds => k_is); (case n_Bounds_events => k_is); (case n_Bounds_least => k_is); (case n_Bounds_ring => k_is); (case n_Bounds_way => k_is); (case z0 => k_is); (case z1 => k_is); (case z2 => k_is); (case z3 => k_is); (case z4 => k_is); (case z5 => k_is); (case z6 => k_is); (case z7 => k_is); (case z8 => k_is); (case z9 => k_is); (case z10 => k_is); (case i0 => k_is)

