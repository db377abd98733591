import PyProof.Rows.All
import Wide.All
import OpenK.AllK
import Wide.FinOn
import HandS.ForMost
import HandS.ForExc
import HandS.Evl
import HandS.Style
import HandS.Text
import HandS.Defaults
import HandS.IsInst
import HandS.More
import HandS.TupAny
import HandS.Sort
import KE.KSortTupG
import PyProof.Rows.SortWalk
import HandS.Lambda
import HandS.TryMany
import HandS.SetKeys
import KE.DataMinMax
import KE.DataFind
import HandS.Head0
import HandS.Head1
import HandS.Head2
import HandS.HeadEnd
import HandS.HeadHook1
import HandS.HeadHook2
import PySem.Challenge.RW_tollguess_k12_whole_as_it_is_now
set_option autoImplicit false
set_option Elab.async false
set_option linter.all false
set_option maxRecDepth 100000
set_option maxHeartbeats 4000000
namespace Vl
open PySem PySem.Spec PyProof.Rows L2 Evl

/-- data as a tree; ob: an object by its place; inst: an instance that is not stored to any more -/
inductive Dt where
  | non | bl (b : Bool) | int (i : Int) | str (s : Str)
  | lst (ds : List Dt) | tup (ds : List Dt) | dct (kvs : List (Key × Dt))
  | lsr (ds : List Dt)
  | ob (a : Addr)
  | ty (n : String)
  | inst (C : Addr) (fs : List (Str × Dt))

mutual
inductive Rep (K : PySem.W.Frag) (H : Hp) : V → Dt → Prop
  | non : Rep K H .non .non
  | bl {b} : Rep K H (.bl b) (.bl b)
  | int {i} : Rep K H (.int i) (.int i)
  | str {s} : Rep K H (.str s) (.str s)
  | lst {a xs ds} : H a = some (.lst xs) → Reps K H xs ds → Rep K H (.ref a) (.lst ds)
  | tup {a xs ds} : H a = some (.tup xs) → Reps K H xs ds → Rep K H (.ref a) (.tup ds)
  | dct {a vs kvs} : H a = some (.dK vs) → RepK K H vs kvs → Rep K H (.ref a) (.dct kvs)
  | lsr {a xs ds} : SqL K H a xs → Reps K H xs ds → Rep K H (.ref a) (.lsr ds)
  | ob {a} : Rep K H (.ref a) (.ob a)
  | ty {n} : Rep K H (.ty n) (.ty n)
  | inst {a C dx fs ds} : H a = some (.ins C dx fs) → RepF K H fs ds → Rep K H (.ref a) (.inst C ds)
inductive Reps (K : PySem.W.Frag) (H : Hp) : List V → List Dt → Prop
  | nil : Reps K H [] []
  | cons {v d vs ds} : Rep K H v d → Reps K H vs ds → Reps K H (v :: vs) (d :: ds)
inductive RepK (K : PySem.W.Frag) (H : Hp) : List (Key × V) → List (Key × Dt) → Prop
  | nil : RepK K H [] []
  | cons {k v d vs ds} : Rep K H v d → RepK K H vs ds → RepK K H ((k, v) :: vs) ((k, d) :: ds)
inductive RepF (K : PySem.W.Frag) (H : Hp) : List (Str × V) → List (Str × Dt) → Prop
  | nil : RepF K H [] []
  | cons {k v d vs ds} : Rep K H v d → RepF K H vs ds → RepF K H ((k, v) :: vs) ((k, d) :: ds)
end

section
variable {K : PySem.W.Frag} {H H' : Hp}
mutual
theorem Rep.mono (e : Ex H H') : ∀ {v : V} {d : Dt}, Rep K H v d → Rep K H' v d
  | _, _, .non => .non
  | _, _, .bl => .bl
  | _, _, .int => .int
  | _, _, .str => .str
  | _, _, .lst h r => .lst (e _ _ h) (Reps.mono e r)
  | _, _, .tup h r => .tup (e _ _ h) (Reps.mono e r)
  | _, _, .dct h r => .dct (e _ _ h) (RepK.mono e r)
  | _, _, .lsr h r => .lsr (ex_l e h) (Reps.mono e r)
  | _, _, .ob => .ob
  | _, _, .ty => .ty
  | _, _, .inst h r => .inst (e _ _ h) (RepF.mono e r)
theorem Reps.mono (e : Ex H H') : ∀ {vs : List V} {ds : List Dt}, Reps K H vs ds → Reps K H' vs ds
  | _, _, .nil => .nil
  | _, _, .cons r t => .cons (Rep.mono e r) (Reps.mono e t)
theorem RepK.mono (e : Ex H H') : ∀ {vs : List (Key × V)} {ds : List (Key × Dt)}, RepK K H vs ds → RepK K H' vs ds
  | _, _, .nil => .nil
  | _, _, .cons r t => .cons (Rep.mono e r) (RepK.mono e t)
theorem RepF.mono (e : Ex H H') : ∀ {vs : List (Str × V)} {ds : List (Str × Dt)}, RepF K H vs ds → RepF K H' vs ds
  | _, _, .nil => .nil
  | _, _, .cons r t => .cons (Rep.mono e r) (RepF.mono e t)
end
theorem Reps.length : ∀ {vs : List V} {ds : List Dt}, Reps K H vs ds → vs.length = ds.length
  | _, _, .nil => rfl
  | _, _, .cons _ t => congrArg (· + 1) (Reps.length t)
theorem Reps.get : ∀ {vs : List V} {ds : List Dt} {i : Nat} {d : Dt}, Reps K H vs ds → ds[i]? = some d → ∃ v, vs[i]? = some v ∧ Rep K H v d
  | _, _, _, _, .nil, e => by simp at e
  | _, _, 0, _, .cons r _, e => by simp at e; subst e; exact ⟨_, rfl, r⟩
  | _, _, i + 1, d, .cons _ t, e => by
    obtain ⟨v, h1, h2⟩ := Reps.get (i := i) (d := d) t (by simpa using e)
    exact ⟨v, by simpa using h1, h2⟩
theorem Reps.getV : ∀ {vs : List V} {ds : List Dt} {i : Nat} {v : V}, Reps K H vs ds → vs[i]? = some v → ∃ d, ds[i]? = some d ∧ Rep K H v d
  | _, _, _, _, .nil, e => by simp at e
  | _, _, 0, _, .cons r _, e => by simp at e; subst e; exact ⟨_, rfl, r⟩
  | _, _, i + 1, v, .cons _ t, e => by
    obtain ⟨d, h1, h2⟩ := Reps.getV (i := i) (v := v) t (by simpa using e)
    exact ⟨d, by simpa using h1, h2⟩
theorem Reps.append : ∀ {vs ws : List V} {ds es : List Dt}, Reps K H vs ds → Reps K H ws es → Reps K H (vs ++ ws) (ds ++ es)
  | _, _, _, _, .nil, s => s
  | _, _, _, _, .cons r t, s => .cons r (Reps.append t s)
theorem Reps.set {v : V} {d : Dt} (r : Rep K H v d) : ∀ {vs : List V} {ds : List Dt} (i : Nat), Reps K H vs ds → Reps K H (vs.set i v) (ds.set i d)
  | _, _, _, .nil => .nil
  | _, _, 0, .cons _ t => .cons r t
  | _, _, i + 1, .cons q t => .cons q (Reps.set r i t)
theorem Reps.take : ∀ {vs : List V} {ds : List Dt} (n : Nat), Reps K H vs ds → Reps K H (vs.take n) (ds.take n)
  | _, _, 0, _ => .nil
  | _, _, _ + 1, .nil => .nil
  | _, _, n + 1, .cons r t => .cons r (Reps.take n t)
theorem Reps.drop : ∀ {vs : List V} {ds : List Dt} (n : Nat), Reps K H vs ds → Reps K H (vs.drop n) (ds.drop n)
  | _, _, 0, r => r
  | _, _, _ + 1, .nil => .nil
  | _, _, n + 1, .cons _ t => Reps.drop n t
theorem Reps.erase : ∀ {vs : List V} {ds : List Dt} (n : Nat), Reps K H vs ds → Reps K H (vs.eraseIdx n) (ds.eraseIdx n)
  | _, _, _, .nil => .nil
  | _, _, 0, .cons _ t => t
  | _, _, n + 1, .cons r t => .cons r (Reps.erase n t)
theorem Reps.reverse : ∀ {vs : List V} {ds : List Dt}, Reps K H vs ds → Reps K H vs.reverse ds.reverse
  | _, _, .nil => .nil
  | _, _, .cons r t => by rw [List.reverse_cons, List.reverse_cons]; exact (Reps.reverse t).append (.cons r .nil)
theorem Reps.ints : ∀ {ns : List Int}, Reps K H (ns.map V.int) (ns.map Dt.int)
  | [] => .nil
  | _ :: _ => .cons .int Reps.ints
theorem Reps.strs : ∀ {ns : List Str}, Reps K H (ns.map V.str) (ns.map Dt.str)
  | [] => .nil
  | _ :: _ => .cons .str Reps.strs
theorem Reps.of_ints : ∀ {ns : List Int} {vs : List V}, Reps K H vs (ns.map Dt.int) → vs = ns.map V.int
  | [], _, .nil => rfl
  | _ :: _, _, .cons .int t => by rw [Reps.of_ints t]; rfl
theorem Reps.of_strs : ∀ {ns : List Str} {vs : List V}, Reps K H vs (ns.map Dt.str) → vs = ns.map V.str
  | [], _, .nil => rfl
  | _ :: _, _, .cons .str t => by rw [Reps.of_strs t]; rfl
theorem Reps.of_bls : ∀ {ns : List Bool} {vs : List V}, Reps K H vs (ns.map Dt.bl) → vs = ns.map V.bl
  | [], _, .nil => rfl
  | _ :: _, _, .cons .bl t => by rw [Reps.of_bls t]; rfl
theorem Reps.bls : ∀ {ns : List Bool}, Reps K H (ns.map V.bl) (ns.map Dt.bl)
  | [] => .nil
  | _ :: _ => .cons .bl Reps.bls
theorem RepK.length : ∀ {vs : List (Key × V)} {ds : List (Key × Dt)}, RepK K H vs ds → vs.length = ds.length
  | _, _, .nil => rfl
  | _, _, .cons _ t => congrArg (· + 1) (RepK.length t)
theorem RepF.length : ∀ {vs : List (Str × V)} {ds : List (Str × Dt)}, RepF K H vs ds → vs.length = ds.length
  | _, _, .nil => rfl
  | _, _, .cons _ t => congrArg (· + 1) (RepF.length t)
theorem RepF.look : ∀ {vs : List (Str × V)} {ds : List (Str × Dt)} {f : Str} {d : Dt}, RepF K H vs ds → ds.lookup f = some d → ∃ v, vs.lookup f = some v ∧ Rep K H v d
  | _, _, _, _, .nil, e => by simp at e
  | _, _, f, d, .cons (k := k) (v := v) (vs := vs) (ds := ds) (d := d0) r t, e => by
    rw [List.lookup_cons] at e ⊢
    by_cases h : (f == k) = true
    · rw [h] at e ⊢; cases e; exact ⟨_, rfl, r⟩
    · have h' : (f == k) = false := by simpa using h
      rw [h'] at e ⊢; exact RepF.look t e
theorem RepF.none : ∀ {vs : List (Str × V)} {ds : List (Str × Dt)} {f : Str}, RepF K H vs ds → ds.lookup f = none → vs.lookup f = none
  | _, _, _, .nil, _ => rfl
  | _, _, f, .cons (k := k) r t, e => by
    rw [List.lookup_cons] at e ⊢
    by_cases h : (f == k) = true
    · rw [h] at e; cases e
    · have h' : (f == k) = false := by simpa using h
      rw [h'] at e ⊢; exact RepF.none t e

/-! ### dicts -/
def valD (kvs : List (Key × Dt)) (k : Key) : Option Dt := (kvs.find? fun kv => decide (kv.1 = k)).map (·.2)
def putD (kvs : List (Key × Dt)) (k : Key) (v : Dt) : List (Key × Dt) :=
  if kvs.any (fun kv => decide (kv.1 = k)) then kvs.map (fun kv => if kv.1 = k then (kv.1, v) else kv) else kvs ++ [(k, v)]
def dropD (kvs : List (Key × Dt)) (k : Key) : List (Key × Dt) := kvs.filter fun kv => decide (kv.1 ≠ k)
theorem valD_nil {k : Key} : valD [] k = none := rfl
theorem valD_pos {p : Key × Dt} {r : List (Key × Dt)} {k : Key} (e : p.1 = k) : valD (p :: r) k = some p.2 := by simp [valD, List.find?_cons, e]
theorem valD_neg {p : Key × Dt} {r : List (Key × Dt)} {k : Key} (e : ¬ p.1 = k) : valD (p :: r) k = valD r k := by simp [valD, List.find?_cons, e]
theorem RepK.val : ∀ {vs : List (Key × V)} {ds : List (Key × Dt)} {k : Key} {d : Dt}, RepK K H vs ds → valD ds k = some d → ∃ v, valV vs k = some v ∧ Rep K H v d
  | _, _, _, _, .nil, e => by cases e
  | _, _, k, d, .cons (k := k0) (v := v0) (d := d0) (vs := vs) (ds := ds) r t, e => by
    by_cases h : k0 = k
    · rw [valD_pos (p := (k0, d0)) h] at e
      rw [valV_pos (p := (k0, v0)) h]
      cases e
      exact ⟨_, rfl, r⟩
    · rw [valD_neg (p := (k0, d0)) h] at e
      rw [valV_neg (p := (k0, v0)) h]
      exact RepK.val t e
theorem RepK.vno : ∀ {vs : List (Key × V)} {ds : List (Key × Dt)} {k : Key}, RepK K H vs ds → valD ds k = none → valV vs k = none
  | _, _, _, .nil, _ => rfl
  | _, _, k, .cons (k := k0) (v := v0) (d := d0) (vs := vs) (ds := ds) r t, e => by
    by_cases h : k0 = k
    · rw [valD_pos (p := (k0, d0)) h] at e; cases e
    · rw [valD_neg (p := (k0, d0)) h] at e
      rw [valV_neg (p := (k0, v0)) h]
      exact RepK.vno t e
theorem RepK.isSome {vs : List (Key × V)} {ds : List (Key × Dt)} (r : RepK K H vs ds) (k : Key) : (valV vs k).isSome = (valD ds k).isSome := by
  cases e : valD ds k with
  | none => rw [r.vno e]; rfl
  | some d => obtain ⟨v, h, _⟩ := r.val e; rw [h]; rfl
theorem RepK.any : ∀ {vs : List (Key × V)} {ds : List (Key × Dt)} (k : Key), RepK K H vs ds → (vs.any fun kv => decide (kv.1 = k)) = ds.any fun kv => decide (kv.1 = k)
  | _, _, _, .nil => rfl
  | _, _, k, .cons r t => by rw [List.any_cons, List.any_cons, RepK.any k t]
theorem RepK.append : ∀ {vs ws : List (Key × V)} {ds es : List (Key × Dt)}, RepK K H vs ds → RepK K H ws es → RepK K H (vs ++ ws) (ds ++ es)
  | _, _, _, _, .nil, s => s
  | _, _, _, _, .cons r t, s => .cons r (RepK.append t s)
theorem RepK.repl {v : V} {d : Dt} (k : Key) (r : Rep K H v d) : ∀ {vs : List (Key × V)} {ds : List (Key × Dt)}, RepK K H vs ds → RepK K H (vs.map fun kv => if kv.1 = k then (kv.1, v) else kv) (ds.map fun kv => if kv.1 = k then (kv.1, d) else kv)
  | _, _, .nil => .nil
  | _, _, .cons (k := k0) q t => by
    rw [List.map_cons, List.map_cons]
    by_cases h : k0 = k
    · rw [if_pos h, if_pos h]; exact .cons r (RepK.repl k r t)
    · rw [if_neg h, if_neg h]; exact .cons q (RepK.repl k r t)
theorem RepK.put {vs : List (Key × V)} {ds : List (Key × Dt)} {v : V} {d : Dt} (t : RepK K H vs ds) (k : Key) (r : Rep K H v d) : RepK K H (putK vs k v) (putD ds k d) := by
  unfold putK putD
  rw [t.any k]
  split
  · exact RepK.repl k r t
  · exact t.append (.cons r .nil)
theorem RepK.drop : ∀ {vs : List (Key × V)} {ds : List (Key × Dt)} (k : Key), RepK K H vs ds → RepK K H (dropK vs k) (dropD ds k)
  | _, _, _, .nil => .nil
  | _, _, k, .cons (k := k0) (v := v0) (d := d0) (vs := vs) (ds := ds) r t => by
    have ih := RepK.drop k t
    unfold dropK dropD at ih ⊢
    rw [List.filter_cons, List.filter_cons]
    by_cases h : k0 = k
    · rw [if_neg (by simp [h]), if_neg (by simp [h])]; exact ih
    · rw [if_pos (by simp [h]), if_pos (by simp [h])]; exact .cons r ih
theorem RepK.keys : ∀ {vs : List (Key × V)} {ds : List (Key × Dt)}, RepK K H vs ds → vs.map (·.1) = ds.map (·.1)
  | _, _, .nil => rfl
  | _, _, .cons r t => by rw [List.map_cons, List.map_cons, RepK.keys t]
end
end Vl
namespace Vl
open PySem PySem.Spec PyProof.Rows L2 Evl

/-! ### own cells -/
inductive Ow where
  | lst (ds : List Dt) | dct (kvs : List (Key × Dt))
def OwAt (K : PySem.W.Frag) (F H : Hp) (a : Addr) : Ow → Prop
  | .lst ds => ∃ xs, H a = some (.lst xs) ∧ Reps K F xs ds
  | .dct kvs => ∃ vs, H a = some (.dK vs) ∧ RepK K F vs kvs
abbrev Sto := List (Addr × Ow)
abbrev Gm := List (Option Dt)
/-- B: what is to stay; G: what was frozen at the entry; F: what is frozen now; M: own cells -/
structure Ok (K : PySem.W.Frag) (B G F : Hp) (Γ : Gm) (M : Sto) (σ : L2.St) (H : Hp) : Prop where
  fh : Ex F H
  gf : Ex G F
  bh : Ex B H
  nw : ∀ a, B a ≠ none → F a = G a
  len : Γ.length = σ.length
  env : ∀ (i : Nat) (d : Dt), Γ[i]? = some (some d) → ∃ v, σ[i]? = some (some v) ∧ Rep K F v d
  cel : ∀ p, p ∈ M → F p.1 = none ∧ B p.1 = none ∧ OwAt K F H p.1 p.2
  nd : (M.map (·.1)).Nodup

section
variable {K : PySem.W.Frag} {B G F F' H H' : Hp} {Γ Γ' : Gm} {M M' : Sto} {σ : L2.St} {a p : Addr} {o : Ow}
theorem ex_upd2 {o : HO} (e : Ex F H) : Ex (upd F p o) (upd H p o) := fun b u h => by
  by_cases hb : b = p
  · subst hb; rw [upd_same] at h ⊢; exact h
  · rw [upd_ne hb] at h ⊢; exact e b u h
theorem ex_none (e : Ex F H) (h : H p = none) : F p = none := by
  cases q : F p with
  | none => rfl
  | some o => rw [e _ _ q] at h; cases h
theorem OwAt.there (h : OwAt K F H a o) : ∃ u, H a = some u := by
  cases o with
  | lst ds => obtain ⟨xs, e, _⟩ := h; exact ⟨_, e⟩
  | dct ds => obtain ⟨xs, e, _⟩ := h; exact ⟨_, e⟩
theorem OwAt.mono (h : OwAt K F H a o) (e : Ex F F') (eh : H' a = H a) : OwAt K F' H' a o := by
  cases o with
  | lst ds => obtain ⟨xs, e1, r⟩ := h; exact ⟨xs, eh.trans e1, r.mono e⟩
  | dct ds => obtain ⟨xs, e1, r⟩ := h; exact ⟨xs, eh.trans e1, r.mono e⟩
/-- the object of a cell's content -/
theorem Ok.ne_cell (k : Ok K B G F Γ M σ H) (h : H p = none) : ∀ q ∈ M, q.1 ≠ p := fun q hq e => by
  obtain ⟨_, _, c⟩ := k.cel q hq
  obtain ⟨u, hu⟩ := c.there
  rw [e, h] at hu; cases hu
/-- a new frozen object -/
theorem Ok.new {o : HO} (k : Ok K B G F Γ M σ H) (h : H p = none) : Ok K B G (upd F p o) Γ M σ (upd H p o) where
  fh := ex_upd2 k.fh
  gf := k.gf.trans (Ex.new (ex_none k.fh h))
  bh := k.bh.trans (Ex.new h)
  nw := fun b hb => by
    have : b ≠ p := fun e => hb (by rw [e]; exact ex_none k.bh h)
    rw [upd_ne this]; exact k.nw b hb
  len := k.len
  env := fun i d e => let ⟨v, h1, r⟩ := k.env i d e; ⟨v, h1, r.mono (Ex.new (ex_none k.fh h))⟩
  cel := fun q hq => by
    have ne := k.ne_cell h q hq
    obtain ⟨c1, c2, c3⟩ := k.cel q hq
    exact ⟨by rw [upd_ne ne]; exact c1, c2, c3.mono (Ex.new (ex_none k.fh h)) (upd_ne ne)⟩
  nd := k.nd
/-- a new own cell -/
theorem Ok.cell {u : HO} (k : Ok K B G F Γ M σ H) (h : H p = none) (hu : OwAt K F (upd H p u) p o) : Ok K B G F Γ ((p, o) :: M) σ (upd H p u) where
  fh := k.fh.trans (Ex.new h)
  gf := k.gf
  bh := k.bh.trans (Ex.new h)
  nw := k.nw
  len := k.len
  env := k.env
  cel := fun q hq => by
    rcases List.mem_cons.mp hq with rfl | hq
    · exact ⟨ex_none k.fh h, ex_none k.bh h, hu⟩
    · obtain ⟨c1, c2, c3⟩ := k.cel q hq
      exact ⟨c1, c2, c3.mono (Ex.refl F) (upd_ne (k.ne_cell h q hq))⟩
  nd := by
    rw [List.map_cons]
    refine List.nodup_cons.mpr ⟨fun m => ?_, k.nd⟩
    obtain ⟨q, hq, e⟩ := List.mem_map.mp m
    exact k.ne_cell h q hq e
theorem Ok.at_ (k : Ok K B G F Γ M σ H) {j : Nat} (h : M[j]? = some (a, o)) : F a = none ∧ B a = none ∧ OwAt K F H a o := k.cel (a, o) (List.mem_of_getElem? h)
theorem nd_set {M : Sto} {j : Nat} {a : Addr} {o o' : Ow} (h : M[j]? = some (a, o)) : (M.set j (a, o')).map (·.1) = M.map (·.1) := by
  obtain ⟨hj, e⟩ := List.getElem?_eq_some_iff.mp h
  apply List.ext_getElem
  · simp
  · intro i h1 h2
    simp only [List.getElem_map, List.getElem_set]
    split
    · rename_i hij; subst hij; simp [e]
    · rfl
/-- a cell written -/
theorem Ok.wr {u : HO} {o' : Ow} {j : Nat} (k : Ok K B G F Γ M σ H) (h : M[j]? = some (a, o)) (hu : OwAt K F (upd H a u) a o') : Ok K B G F Γ (M.set j (a, o')) σ (upd H a u) where
  fh := Ex.mut k.fh (k.at_ h).1
  gf := k.gf
  bh := Ex.mut k.bh (k.at_ h).2.1
  nw := k.nw
  len := k.len
  env := k.env
  cel := fun q hq => by
    obtain ⟨i, hi, e⟩ := List.getElem_of_mem hq
    rw [List.getElem_set] at e
    split at e
    · subst e; exact ⟨(k.at_ h).1, (k.at_ h).2.1, hu⟩
    · rename_i hij
      have hi' : i < M.length := by simpa using hi
      have hm : q ∈ M := e ▸ List.getElem_mem hi'
      obtain ⟨c1, c2, c3⟩ := k.cel q hm
      refine ⟨c1, c2, c3.mono (Ex.refl F) (upd_ne fun e2 => hij ?_)⟩
      have a1 : (M.map (·.1))[j]? = some a := by rw [List.getElem?_map, h]; rfl
      have a2 : (M.map (·.1))[i]? = some a := by rw [List.getElem?_map, List.getElem?_eq_getElem hi', e, ← e2]; rfl
      exact nd_ix k.nd a1 a2
  nd := by rw [nd_set h]; exact k.nd
/-- a slot stored -/
theorem Ok.setS {i : Nat} {v : V} {d : Dt} (k : Ok K B G F Γ M σ H) (r : Rep K F v d) : Ok K B G F (Γ.set i (some d)) M (σ.set i (some v)) H where
  fh := k.fh
  gf := k.gf
  bh := k.bh
  nw := k.nw
  len := by rw [List.length_set, List.length_set]; exact k.len
  env := fun j d' e => by
    by_cases hj : i = j
    · subst hj
      by_cases hl : i < Γ.length
      · rw [List.getElem?_set_self hl] at e
        cases e
        exact ⟨v, List.getElem?_set_self (k.len ▸ hl), r⟩
      · rw [List.getElem?_eq_none (by simpa using hl)] at e; cases e
    · rw [List.getElem?_set_ne hj] at e
      obtain ⟨v', h1, r'⟩ := k.env j d' e
      exact ⟨v', by rw [List.getElem?_set_ne hj]; exact h1, r'⟩
  cel := k.cel
  nd := k.nd
/-- slots forgotten -/
theorem Ok.weak (k : Ok K B G F Γ M σ H) {σ' : L2.St} (hl : Γ'.length = σ'.length) (h : ∀ (i : Nat) (d : Dt), Γ'[i]? = some (some d) → Γ[i]? = some (some d)) (hs : ∀ (i : Nat) (v : V), Γ'[i]? ≠ none → σ[i]? = some (some v) → Γ'[i]? ≠ some none → σ'[i]? = some (some v)) : Ok K B G F Γ' M σ' H where
  fh := k.fh
  gf := k.gf
  bh := k.bh
  nw := k.nw
  len := hl
  env := fun j d e => by
    obtain ⟨v, h1, r⟩ := k.env j d (h j d e)
    exact ⟨v, hs j v (by rw [e]; exact fun z => nomatch z) h1 (by rw [e]; exact fun z => nomatch z), r⟩
  cel := k.cel
  nd := k.nd
theorem Ok.less (k : Ok K B G F Γ M σ H) (hl : Γ'.length = Γ.length) (h : ∀ (i : Nat) (d : Dt), Γ'[i]? = some (some d) → Γ[i]? = some (some d)) : Ok K B G F Γ' M σ H :=
  k.weak (hl.trans k.len) h fun _ _ _ e _ => e
/-- cells dropped -/
theorem Ok.drop (k : Ok K B G F Γ M σ H) (h : M'.Sublist M) : Ok K B G F Γ M' σ H where
  fh := k.fh
  gf := k.gf
  bh := k.bh
  nw := k.nw
  len := k.len
  env := k.env
  cel := fun p hp => k.cel p (h.subset hp)
  nd := (h.map _).nodup k.nd
/-- a cell is frozen: it is not changed any more -/
theorem Ok.freeze {j : Nat} {u : HO} (k : Ok K B G F Γ M σ H) (h : M[j]? = some (a, o)) (hu : H a = some u) : Ok K B G (upd F a u) Γ (M.eraseIdx j) σ H where
  fh := fun b w e => by
    by_cases hb : b = a
    · subst hb; rw [upd_same] at e; rw [hu]; exact e
    · rw [upd_ne hb] at e; exact k.fh b w e
  gf := k.gf.trans (Ex.new (k.at_ h).1)
  bh := k.bh
  nw := fun b hb => by
    have : b ≠ a := fun e => hb (by rw [e]; exact (k.at_ h).2.1)
    rw [upd_ne this]; exact k.nw b hb
  len := k.len
  env := fun i d e => let ⟨v, h1, r⟩ := k.env i d e; ⟨v, h1, r.mono (Ex.new (k.at_ h).1)⟩
  cel := fun q hq => by
    obtain ⟨c1, c2, c3⟩ := k.cel q ((List.eraseIdx_sublist M j).subset hq)
    have ne : q.1 ≠ a := fun e => by
      have nd : (M.map (·.1)).Nodup := k.nd
      have hj : j < M.length := (List.getElem?_eq_some_iff.mp h).1
      have hq' : q ∈ M.take j ++ M.drop (j + 1) := by rw [← List.eraseIdx_eq_take_drop_succ]; exact hq
      have split : M = M.take j ++ (a, o) :: M.drop (j + 1) := by
        have e1 : M[j] = (a, o) := (List.getElem?_eq_some_iff.mp h).2
        rw [← e1, ← List.drop_eq_getElem_cons hj, List.take_append_drop]
      rw [split, List.map_append, List.map_cons] at nd
      rcases List.mem_append.mp hq' with z | z
      · exact (List.nodup_append.mp nd).2.2 q.1 (List.mem_map.mpr ⟨q, z, rfl⟩) a (List.mem_cons_self) e
      · exact (List.nodup_cons.mp (List.nodup_append.mp nd).2.1).1 (List.mem_map.mpr ⟨q, z, e⟩)
    exact ⟨by rw [upd_ne ne]; exact c1, c2, c3.mono (Ex.new (k.at_ h).1) rfl⟩
  nd := ((List.eraseIdx_sublist M j).map _).nodup k.nd
/-- what is kept may be widened -/
theorem Ok.toG {G' : Hp} (k : Ok K B G F Γ M σ H) (e : Ex G' F) (h : ∀ a, B a ≠ none → G' a = G a) : Ok K B G' F Γ M σ H :=
  ⟨k.fh, e, k.bh, fun a ha => (k.nw a ha).trans (h a ha).symm, k.len, k.env, k.cel, k.nd⟩
end

/-! ### judgements -/
/-- an expression: P tells the value and the cells behind -/
def EvX (K : PySem.W.Frag) (B G : Hp) (Γ : Gm) (M : Sto) (t : TE) (P : Dt → Sto → Prop) : Prop :=
  ∀ F σ H (Q : VK), Ok K B G F Γ M σ H → (∀ v F' H' d M', Ok K B G F' Γ M' σ H' → Ex F F' → Rep K F' v d → P d M' → Q v H') → t σ H Q
def EvD (K : PySem.W.Frag) (Γ : Gm) (M : Sto) (t : TE) (d : Dt) : Prop :=
  ∀ B G F σ H (Q : VK), Ok K B G F Γ M σ H → (∀ v F' H', Ok K B G F' Γ M σ H' → Ex F F' → Rep K F' v d → Q v H') → t σ H Q
def EvN (K : PySem.W.Frag) (Γ : Gm) (M : Sto) (t : TE) (o : Ow) : Prop :=
  ∀ B G F σ H (Q : VK), Ok K B G F Γ M σ H → (∀ a F' H', Ok K B G F' Γ ((a, o) :: M) σ H' → Ex F F' → Q (.ref a) H') → t σ H Q
def EvT (K : PySem.W.Frag) (Γ : Gm) (M : Sto) (t : TT) (b : Bool) : Prop :=
  ∀ B G F σ H (Q : Bool → Hp → Prop), Ok K B G F Γ M σ H → (∀ F' H', Ok K B G F' Γ M σ H' → Ex F F' → Q b H') → t σ H Q
def EvTX (K : PySem.W.Frag) (B G : Hp) (Γ : Gm) (M : Sto) (t : TT) (P : Bool → Sto → Prop) : Prop :=
  ∀ F σ H (Q : Bool → Hp → Prop), Ok K B G F Γ M σ H → (∀ F' H' b M', Ok K B G F' Γ M' σ H' → Ex F F' → P b M' → Q b H') → t σ H Q
def EvA (K : PySem.W.Frag) (Γ : Gm) (M : Sto) (t : TA) (ds : List Dt) : Prop :=
  ∀ B G F σ H (Q : List V → Hp → Prop), Ok K B G F Γ M σ H → (∀ vs F' H', Ok K B G F' Γ M σ H' → Ex F F' → Reps K F' vs ds → Q vs H') → t σ H Q
def EvAX (K : PySem.W.Frag) (B G : Hp) (Γ : Gm) (M : Sto) (t : TA) (P : List Dt → Sto → Prop) : Prop :=
  ∀ F σ H (Q : List V → Hp → Prop), Ok K B G F Γ M σ H → (∀ vs F' H' ds M', Ok K B G F' Γ M' σ H' → Ex F F' → Reps K F' vs ds → P ds M' → Q vs H') → t σ H Q
/-- a place in the text: whatever the state there, N holds -/
def At (K : PySem.W.Frag) (B G : Hp) (Γ : Gm) (M : Sto) (N : L2.St → Hp → Prop) : Prop := ∀ F σ H, Ok K B G F Γ M σ H → N σ H
/-- a value handed back -/
def Rt (K : PySem.W.Frag) (B G : Hp) (d : Dt) (M : Sto) (Q : VK) : Prop := ∀ v F Γ σ H, Ok K B G F Γ M σ H → Rep K F v d → Q v H
def Xt (K : PySem.W.Frag) (B G : Hp) (C : Addr) (M : Sto) (E : XK) : Prop := ∀ F Γ σ H, Ok K B G F Γ M σ H → E (.ref C) none H
/-- a later entry: more is frozen -/
structure Le (B G G' : Hp) : Prop where
  ex : Ex G G'
  eq : ∀ a, B a ≠ none → G' a = G a
theorem Le.refl {B G : Hp} : Le B G G := ⟨Ex.refl G, fun _ _ => rfl⟩
theorem Le.trans {B G G' G2 : Hp} (a : Le B G G') (b : Le B G' G2) : Le B G G2 := ⟨a.ex.trans b.ex, fun x h => (b.eq x h).trans (a.eq x h)⟩
section
variable {K : PySem.W.Frag} {B G G' F F' H H' : Hp} {Γ Γ' : Gm} {M M' : Sto} {σ : L2.St} {a p : Addr} {o : Ow} {N : L2.St → Hp → Prop}
theorem Ok.le (k : Ok K B G' F Γ M σ H) (l : Le B G G') : Ok K B G F Γ M σ H := k.toG (l.ex.trans k.gf) fun a h => (l.eq a h).symm
theorem Ok.here (k : Ok K B G F Γ M σ H) : Ok K B F F Γ M σ H ∧ Le B G F := ⟨k.toG (Ex.refl F) k.nw, k.gf, k.nw⟩
theorem At.le (h : At K B G Γ M N) (l : Le B G G') : At K B G' Γ M N := fun F σ H k => h F σ H (k.le l)
theorem Rt.le {d : Dt} {Q : VK} (h : Rt K B G d M Q) (l : Le B G G') : Rt K B G' d M Q := fun v F Γ σ H k r => h v F Γ σ H (k.le l) r
theorem Xt.le {C : Addr} {E : XK} (h : Xt K B G C M E) (l : Le B G G') : Xt K B G' C M E := fun F Γ σ H k => h F Γ σ H (k.le l)

variable {t ta tb te : TE} {tt u : TT} {x y z d : Dt} {r : R2}
theorem EvD.toX (h : EvD K Γ M t d) : EvX K B G Γ M t (fun d' M' => d' = d ∧ M' = M) := fun F σ H Q k q => h B G F σ H Q k fun v F' H' k' e r => q v F' H' d M k' e r ⟨rfl, rfl⟩
theorem EvN.toX (h : EvN K Γ M t o) : EvX K B G Γ M t (fun d' M' => ∃ a, d' = .ob a ∧ M' = (a, o) :: M) := fun F σ H Q k q => h B G F σ H Q k fun a F' H' k' e => q (.ref a) F' H' (.ob a) _ k' e .ob ⟨a, rfl, rfl⟩
theorem EvX.imp {P P' : Dt → Sto → Prop} (h : EvX K B G Γ M t P) (i : ∀ d M, P d M → P' d M) : EvX K B G Γ M t P' := fun F σ H Q k q => h F σ H Q k fun v F' H' d M' k' e r p => q v F' H' d M' k' e r (i d M' p)
/-- a new list that is not changed any more -/
theorem EvN.toD {ds : List Dt} (h : EvN K Γ M t (.lst ds)) : EvD K Γ M t (.lst ds) := fun B G F σ H Q k q => h B G F σ H Q k fun a F' H' k' e => by
  obtain ⟨f1, _, xs, hx, rx⟩ := k'.cel (a, .lst ds) List.mem_cons_self
  exact q (.ref a) (upd F' a (.lst xs)) H' (k'.freeze (j := 0) rfl hx) (e.trans (Ex.new f1)) (.lst upd_same (rx.mono (Ex.new f1)))
theorem EvN.toDD {ds : List (Key × Dt)} (h : EvN K Γ M t (.dct ds)) : EvD K Γ M t (.dct ds) := fun B G F σ H Q k q => h B G F σ H Q k fun a F' H' k' e => by
  obtain ⟨f1, _, xs, hx, rx⟩ := k'.cel (a, .dct ds) List.mem_cons_self
  exact q (.ref a) (upd F' a (.dK xs)) H' (k'.freeze (j := 0) rfl hx) (e.trans (Ex.new f1)) (.dct upd_same (rx.mono (Ex.new f1)))

/-! ### expressions -/
theorem ed_var {i : Nat} (h : Γ[i]? = some (some d)) : EvD K Γ M (tVar i) d := fun B G F σ H Q k q => by
  obtain ⟨v, h1, r⟩ := k.env i d h
  exact ⟨v, h1, q v F H k (Ex.refl F) r⟩
theorem ed_int {i : Int} : EvD K Γ M (tC (.int i)) (.int i) := fun _ _ F _ H _ k q => q _ F H k (Ex.refl F) .int
theorem ed_bl {b : Bool} : EvD K Γ M (tC (.bl b)) (.bl b) := fun _ _ F _ H _ k q => q _ F H k (Ex.refl F) .bl
theorem ed_str {s : Str} : EvD K Γ M (tC (.str s)) (.str s) := fun _ _ F _ H _ k q => q _ F H k (Ex.refl F) .str
theorem ed_non : EvD K Γ M (tC .non) .non := fun _ _ F _ H _ k q => q _ F H k (Ex.refl F) .non
theorem EvD.is {d' : Dt} (h : EvD K Γ M t d) (e : d = d') : EvD K Γ M t d' := e ▸ h
theorem EvT.is {b b' : Bool} (h : EvT K Γ M tt b) (e : b = b') : EvT K Γ M tt b' := e ▸ h

/-- an operation on data -/
def Op2 (K : PySem.W.Frag) (M : Sto) (r : R2) (x y z : Dt) : Prop :=
  ∀ B G F Γ σ H u w (Q : VK), Ok K B G F Γ M σ H → Rep K F u x → Rep K F w y → (∀ v F' H', Ok K B G F' Γ M σ H' → Ex F F' → Rep K F' v z → Q v H') → r u w H Q
def OpN (K : PySem.W.Frag) (M : Sto) (r : R2) (x y : Dt) (o : Ow) : Prop :=
  ∀ B G F Γ σ H u w (Q : VK), Ok K B G F Γ M σ H → Rep K F u x → Rep K F w y → (∀ a F' H', Ok K B G F' Γ ((a, o) :: M) σ H' → Ex F F' → Q (.ref a) H') → r u w H Q
theorem ed_op (ha : EvD K Γ M ta x) (hb : EvD K Γ M tb y) (hr : Op2 K M r x y z) : EvD K Γ M (tOp r ta tb) z := fun B G F σ H Q k q =>
  ha B G F σ H _ k fun u F1 H1 k1 e1 r1 => hb B G F1 σ H1 _ k1 fun w F2 H2 k2 e2 r2 => hr B G F2 Γ σ H2 u w Q k2 (r1.mono e2) r2 fun v F3 H3 k3 e3 r3 => q v F3 H3 k3 (e1.trans (e2.trans e3)) r3
theorem en_op (ha : EvD K Γ M ta x) (hb : EvD K Γ M tb y) (hr : OpN K M r x y o) : EvN K Γ M (tOp r ta tb) o := fun B G F σ H Q k q =>
  ha B G F σ H _ k fun u F1 H1 k1 e1 r1 => hb B G F1 σ H1 _ k1 fun w F2 H2 k2 e2 r2 => hr B G F2 Γ σ H2 u w Q k2 (r1.mono e2) r2 fun v F3 H3 k3 e3 => q v F3 H3 k3 (e1.trans (e2.trans e3))
/-- a one-place operation -/
def Op1 (K : PySem.W.Frag) (M : Sto) (r : V → Hp → VK → Prop) (x z : Dt) : Prop :=
  ∀ B G F Γ σ H u (Q : VK), Ok K B G F Γ M σ H → Rep K F u x → (∀ v F' H', Ok K B G F' Γ M σ H' → Ex F F' → Rep K F' v z → Q v H') → r u H Q
theorem ed_un {r : V → Hp → VK → Prop} (ha : EvD K Γ M ta x) (hr : Op1 K M r x z) : EvD K Γ M (tUn r ta) z := fun B G F σ H Q k q =>
  ha B G F σ H _ k fun u F1 H1 k1 e1 r1 => hr B G F1 Γ σ H1 u Q k1 r1 fun v F3 H3 k3 e3 r3 => q v F3 H3 k3 (e1.trans e3) r3
/-- a call of a built-in by its values -/
def OpC (K : PySem.W.Frag) (M : Sto) (r : List V → Hp → VK → Prop) (xs : List Dt) (z : Dt) : Prop :=
  ∀ B G F Γ σ H us (Q : VK), Ok K B G F Γ M σ H → Reps K F us xs → (∀ v F' H', Ok K B G F' Γ M σ H' → Ex F F' → Rep K F' v z → Q v H') → r us H Q
def OpCN (K : PySem.W.Frag) (M : Sto) (r : List V → Hp → VK → Prop) (xs : List Dt) (o : Ow) : Prop :=
  ∀ B G F Γ σ H us (Q : VK), Ok K B G F Γ M σ H → Reps K F us xs → (∀ a F' H', Ok K B G F' Γ ((a, o) :: M) σ H' → Ex F F' → Q (.ref a) H') → r us H Q
theorem ed_cb {r : List V → Hp → VK → Prop} {tq : TA} {xs : List Dt} (ha : EvA K Γ M tq xs) (hr : OpC K M r xs z) : EvD K Γ M (tCB r tq) z := fun B G F σ H Q k q =>
  ha B G F σ H _ k fun us F1 H1 k1 e1 r1 => hr B G F1 Γ σ H1 us Q k1 r1 fun v F3 H3 k3 e3 r3 => q v F3 H3 k3 (e1.trans e3) r3
theorem en_cb {r : List V → Hp → VK → Prop} {tq : TA} {xs : List Dt} (ha : EvA K Γ M tq xs) (hr : OpCN K M r xs o) : EvN K Γ M (tCB r tq) o := fun B G F σ H Q k q =>
  ha B G F σ H _ k fun us F1 H1 k1 e1 r1 => hr B G F1 Γ σ H1 us Q k1 r1 fun v F3 H3 k3 e3 => q v F3 H3 k3 (e1.trans e3)
theorem ea_nil : EvA K Γ M tNil [] := fun B G F σ H Q k q => q [] F H k (Ex.refl F) .nil
theorem ea_cons {tq : TA} {xs : List Dt} (h : EvD K Γ M ta x) (hr : EvA K Γ M tq xs) : EvA K Γ M (tCons ta tq) (x :: xs) := fun B G F σ H Q k q =>
  h B G F σ H _ k fun u F1 H1 k1 e1 r1 => hr B G F1 σ H1 _ k1 fun us F2 H2 k2 e2 r2 => q (u :: us) F2 H2 k2 (e1.trans e2) (.cons (r1.mono e2) r2)
theorem sz_le {n : Nat} (h : n ≤ 10000000) : n ≤ sizeLine := Nat.le_trans h (by decide)
theorem sz_lt {n : Nat} (h : n < 10000000) : n < sizeLine := Nat.lt_of_lt_of_le h (by decide)
theorem ed_tup {tq : TA} {xs : List Dt} (h : EvA K Γ M tq xs) (hl : xs.length ≤ 10000000) : EvD K Γ M (tTup tq) (.tup xs) := fun B G F σ H Q k q =>
  h B G F σ H _ k fun us F1 H1 k1 e1 r1 => ⟨sz_le (r1.length ▸ hl), fun p hp => q (.ref p) (upd F1 p (.tup us)) _ (k1.new hp) (e1.trans (Ex.new (ex_none k1.fh hp))) (.tup upd_same (r1.mono (Ex.new (ex_none k1.fh hp))))⟩
theorem en_lst {tq : TA} {xs : List Dt} (h : EvA K Γ M tq xs) (hl : xs.length ≤ 10000000) : EvN K Γ M (tLst tq) (.lst xs) := fun B G F σ H Q k q =>
  h B G F σ H _ k fun us F1 H1 k1 e1 r1 => ⟨sz_le (r1.length ▸ hl), fun p hp => q p F1 _ (k1.cell hp ⟨us, upd_same, r1⟩) e1⟩
theorem en_dnew : EvN K Γ M tDNewK (.dct []) := fun B G F σ H Q k q => fun p hp => q p F _ (k.cell hp ⟨[], upd_same, .nil⟩) (Ex.refl F)
/-- a if t else b -/
theorem ed_if {b : Bool} (h : EvT K Γ M tt b) (h1 : b = true → EvD K Γ M ta d) (h2 : b = false → EvD K Γ M tb d) : EvD K Γ M (tIf tt ta tb) d := fun B G F σ H Q k q =>
  h B G F σ H _ k fun F1 H1 k1 e1 => by
    cases b with
    | true => exact h1 rfl B G F1 σ H1 Q k1 fun v F2 H2 k2 e2 r2 => q v F2 H2 k2 (e1.trans e2) r2
    | false => exact h2 rfl B G F1 σ H1 Q k1 fun v F2 H2 k2 e2 r2 => q v F2 H2 k2 (e1.trans e2) r2

/-! ### tests -/
theorem et_test {b : Bool} (h : EvD K Γ M t (.bl b)) : EvT K Γ M (tTest t) b := fun B G F σ H Q k q => h B G F σ H _ k fun v F1 H1 k1 e1 r1 => by
  cases r1; exact ⟨b, rfl, q F1 H1 k1 e1⟩
theorem et_B {b : Bool} (h : EvD K Γ M t (.bl b)) : EvT K Γ M (tB t) b := fun B G F σ H Q k q => h B G F σ H _ k fun v F1 H1 k1 e1 r1 => by
  cases r1; exact ⟨b, rfl, q F1 H1 k1 e1⟩
theorem et_and {a b : Bool} (h1 : EvT K Γ M tt a) (h2 : a = true → EvT K Γ M u b) : EvT K Γ M (tAnd tt u) (a && b) := fun B G F σ H Q k q => h1 B G F σ H _ k fun F1 H1 k1 e1 => by
  cases a with
  | true => exact h2 rfl B G F1 σ H1 Q k1 fun F2 H2 k2 e2 => q F2 H2 k2 (e1.trans e2)
  | false => exact q F1 H1 k1 e1
theorem et_or {a b : Bool} (h1 : EvT K Γ M tt a) (h2 : a = false → EvT K Γ M u b) : EvT K Γ M (tOr tt u) (a || b) := fun B G F σ H Q k q => h1 B G F σ H _ k fun F1 H1 k1 e1 => by
  cases a with
  | false => exact h2 rfl B G F1 σ H1 Q k1 fun F2 H2 k2 e2 => q F2 H2 k2 (e1.trans e2)
  | true => exact q F1 H1 k1 e1
theorem et_not {a : Bool} (h1 : EvT K Γ M tt a) : EvT K Γ M (tNot tt) (!a) := fun B G F σ H Q k q => h1 B G F σ H _ k fun F1 H1 k1 e1 => q F1 H1 k1 e1
theorem ed_andV {a b : Bool} (h1 : EvD K Γ M ta (.bl a)) (h2 : a = true → EvD K Γ M tb (.bl b)) : EvD K Γ M (tAndV ta tb) (.bl (a && b)) := fun B G F σ H Q k q => h1 B G F σ H _ k fun v F1 H1 k1 e1 r1 => by
  cases r1
  refine ⟨a, rfl, ?_⟩
  cases a with
  | true => exact h2 rfl B G F1 σ H1 Q k1 fun v F2 H2 k2 e2 r2 => q v F2 H2 k2 (e1.trans e2) r2
  | false => exact q _ F1 H1 k1 e1 .bl
theorem ed_orV {a b : Bool} (h1 : EvD K Γ M ta (.bl a)) (h2 : a = false → EvD K Γ M tb (.bl b)) : EvD K Γ M (tOrV ta tb) (.bl (a || b)) := fun B G F σ H Q k q => h1 B G F σ H _ k fun v F1 H1 k1 e1 r1 => by
  cases r1
  refine ⟨a, rfl, ?_⟩
  cases a with
  | false => exact h2 rfl B G F1 σ H1 Q k1 fun v F2 H2 k2 e2 r2 => q v F2 H2 k2 (e1.trans e2) r2
  | true => exact q _ F1 H1 k1 e1 .bl
theorem ed_notV {a : Bool} (h1 : EvD K Γ M ta (.bl a)) : EvD K Γ M (tNotV ta) (.bl (!a)) := fun B G F σ H Q k q => h1 B G F σ H _ k fun v F1 H1 k1 e1 r1 => by
  cases r1
  exact ⟨a, rfl, q _ F1 H1 k1 e1 .bl⟩
theorem EvT.toX {b : Bool} (h : EvT K Γ M tt b) : EvTX K B G Γ M tt (fun b' M' => b' = b ∧ M' = M) := fun F σ H Q k q => h B G F σ H Q k fun F' H' k' e => q F' H' b M k' e ⟨rfl, rfl⟩
theorem etx_B {P : Dt → Sto → Prop} {P' : Bool → Sto → Prop} (h : EvX K B G Γ M t P) (hp : ∀ d M', P d M' → ∃ b, d = .bl b ∧ P' b M') : EvTX K B G Γ M (tB t) P' := fun F σ H Q k q => h F σ H _ k fun v F1 H1 d M1 k1 e1 r1 p => by
  obtain ⟨b, rfl, p'⟩ := hp d M1 p
  cases r1; exact ⟨b, rfl, q F1 H1 b M1 k1 e1 p'⟩
theorem etx_not {P : Bool → Sto → Prop} {P' : Bool → Sto → Prop} (h : EvTX K B G Γ M tt P) (hp : ∀ b M', P b M' → P' (!b) M') : EvTX K B G Γ M (tNot tt) P' := fun F σ H Q k q => h F σ H _ k fun F1 H1 b M1 k1 e1 p => q F1 H1 _ M1 k1 e1 (hp b M1 p)
theorem etx_and {P P1 P' : Bool → Sto → Prop} (h1 : EvTX K B G Γ M tt P) (h2 : ∀ M1, P true M1 → EvTX K B G Γ M1 u P') (h3 : ∀ M1, P false M1 → P' false M1) : EvTX K B G Γ M (tAnd tt u) P' := fun F σ H Q k q => h1 F σ H _ k fun F1 H1 b M1 k1 e1 p => by
  cases b with
  | true => exact h2 M1 p F1 σ H1 Q k1 fun F2 H2 b2 M2 k2 e2 p2 => q F2 H2 b2 M2 k2 (e1.trans e2) p2
  | false => exact q F1 H1 false M1 k1 e1 (h3 M1 p)
theorem etx_or {P P1 P' : Bool → Sto → Prop} (h1 : EvTX K B G Γ M tt P) (h2 : ∀ M1, P false M1 → EvTX K B G Γ M1 u P') (h3 : ∀ M1, P true M1 → P' true M1) : EvTX K B G Γ M (tOr tt u) P' := fun F σ H Q k q => h1 F σ H _ k fun F1 H1 b M1 k1 e1 p => by
  cases b with
  | false => exact h2 M1 p F1 σ H1 Q k1 fun F2 H2 b2 M2 k2 e2 p2 => q F2 H2 b2 M2 k2 (e1.trans e2) p2
  | true => exact q F1 H1 true M1 k1 e1 (h3 M1 p)
end
end Vl
namespace Vl
open PySem PySem.Spec PyProof.Rows L2 Evl

/-! ### rules that do for several kinds of values -/
def rIxD : R2 := fun x y H Q => ∃ a v, x = .ref a ∧ DGet H a y (some v) ∧ Q v H
def rIxU (K : PySem.W.Frag) : R2 := fun x y H Q => rIxL K x y H Q ∨ (rIxT K x y H Q ∨ (rIxS x y H Q ∨ rIxD x y H Q))
def rInD : R2 := fun y x H Q => ∃ a o, x = .ref a ∧ DGet H a y o ∧ Q (.bl o.isSome) H
def rNiD : R2 := fun y x H Q => ∃ a o, x = .ref a ∧ DGet H a y o ∧ Q (.bl (!o.isSome)) H
def rInS : R2 := fun x y H Q => ∃ (c : Nat) (z : Str), x = .str ⟨#[c]⟩ ∧ y = .str z ∧ Q (.bl (decide (c ∈ z.cps.toList))) H
def rNiS : R2 := fun x y H Q => ∃ (c : Nat) (z : Str), x = .str ⟨#[c]⟩ ∧ y = .str z ∧ Q (.bl (!decide (c ∈ z.cps.toList))) H
def rInU (K : PySem.W.Frag) : R2 := fun x y H Q => rIn K false x y H Q ∨ (rInS x y H Q ∨ rInD x y H Q)
def rNiU (K : PySem.W.Frag) : R2 := fun x y H Q => rIn K true x y H Q ∨ (rNiS x y H Q ∨ rNiD x y H Q)
def rAddS : R2 := fun x y H Q => ∃ i j, x = .str i ∧ y = .str j ∧ i.length + j.length ≤ sizeLine ∧ Q (.str (i ++ j)) H
abbrev rAddI : R2 := rI0 fun i j => .int (i + j)
def rAddU (K : PySem.W.Frag) : R2 := fun x y H Q => rAddI x y H Q ∨ (rAddS x y H Q ∨ (rCat x y H Q ∨ rCatT K x y H Q))
abbrev rMulI : R2 := rI CMul fun i j => .int (i * j)
def rMulU : R2 := fun x y H Q => rMulI x y H Q ∨ rRep x y H Q
abbrev rLtI : R2 := rI0 fun i j => .bl (decide (i < j))
def rLtU (K : PySem.W.Frag) : R2 := fun x y H Q => rLtI x y H Q ∨ rLtT K x y H Q
def rEqU (K : PySem.W.Frag) : R2 := fun x y H Q => rEq x y H Q ∨ rEqD K x y H Q
def rNeU (K : PySem.W.Frag) : R2 := fun x y H Q => rNe x y H Q ∨ rNeD K x y H Q
def rLenD : List V → Hp → VK → Prop := fun xs H Q => ∃ a kvs, xs = [V.ref a] ∧ H a = some (.dK kvs) ∧ Q (.int kvs.length) H
def rLenX (K : PySem.W.Frag) : List V → Hp → VK → Prop := fun xs H Q => ∃ x n, xs = [x] ∧ LenV K x H n ∧ Q (.int n) H
def rLenU (K : PySem.W.Frag) : List V → Hp → VK → Prop := fun xs H Q => rLenX K xs H Q ∨ rLenD xs H Q
def rSetD : V → V → V → Hp → (Hp → Prop) → Prop := fun o i v H Q => ∃ a H4, o = .ref a ∧ DPut H a i v H4 ∧ Q H4
def rSetU : V → V → V → Hp → (Hp → Prop) → Prop := fun o i v H Q => rSetL o i v H Q ∨ rSetD o i v H Q
section
variable {X : Cx}
theorem ix_dict (hu : X.A.units + 1 < cLine) : IxR X rIxD := by
  intro value slice pins s σ H x y v u Q I rx ry h hs
  obtain ⟨a, w, ex, g, q⟩ := h
  subst ex
  obtain rfl : v = Value.ref a := rx
  unfold subscriptTail
  refine wpAny_bind ?_
  rw [getitemInPython_of_ne (dict_typeIs I g).not_modules]
  refine wpAny_bind (wpAny_specialOf (dict_typeIs I g) PySem.F.slot_dict_getitem.lookup ?_)
  have fin : wpAny (model X.prog X.w) X.A (subscripted slice false (.ref a) u) (fun r s₃ => wpAny (model X.prog X.w) X.A (letTemporaryGo value (.ref a) r >>= fun _ => pure r) (EP X pins σ Q) X.xe s₃) X.xe s := by
    rw [hs]
    exact wpAny_operating (wpAny_mono (d_getItem hu I g ry fun w' s3 I3 rw' => (show EP X pins σ Q w' s3 from ⟨w, H, I3, rw', q⟩)) (fun r s₃ h₃ => wpAny_bind (wpAny_letTemporaryGo (wpAny_pure h₃))) fun _ _ x => x)
  first
    | exact wpAny_pure (wpAny_bind fin)
    | exact wpAny_bind (wpAny_pure (wpAny_bind fin))
    | exact wpAny_bind fin
theorem ix_U (hu : X.A.units + 1 < cLine) : IxR X (rIxU X.K) := ix_list.or (ix_tup.or (ix_str.or (ix_dict hu)))
theorem op_in_dict (hu : X.A.units + 1 < cLine) : OpR X (compareOp .In) rInD := by
  intro pins s σ H x y v u Q I rx ry h
  obtain ⟨a, o, ex, g, q⟩ := h
  subst ex
  obtain rfl : u = Value.ref a := ry
  exact d_in hu I g rx fun s3 I3 => ⟨.bl o.isSome, H, I3, rfl, q⟩
theorem op_ni_dict (hu : X.A.units + 1 < cLine) : OpR X (compareOp .NotIn) rNiD := by
  intro pins s σ H x y v u Q I rx ry h
  obtain ⟨a, o, ex, g, q⟩ := h
  subst ex
  obtain rfl : u = Value.ref a := ry
  exact d_notIn hu I g rx fun s3 I3 => ⟨.bl (!o.isSome), H, I3, rfl, q⟩
theorem op_inU (hu : X.A.units + 1 < cLine) : OpR X (compareOp .In) (rInU X.K) := op_in_seq.or ((show OpR X _ rInS from op_in_sign).or (op_in_dict hu))
theorem op_niU (hu : X.A.units + 1 < cLine) : OpR X (compareOp .NotIn) (rNiU X.K) := op_notIn_seq.or ((show OpR X _ rNiS from op_notIn_sign).or (op_ni_dict hu))
theorem op_addU : OpR X (binaryOp .Add) (rAddU X.K) := op_add.or ((show OpR X _ rAddS from op_add_str).or (op_cat.or op_catT))
theorem op_mulU : OpR X (binaryOp .Mult) rMulU := op_mul.or op_rep
theorem op_ltU (hu : X.A.units + 64 < cLine) : OpR X (compareOp .Lt) (rLtU X.K) := op_lt.or (op_ltT (by omega))
theorem op_eqU (hu : X.A.units + 64 < cLine) : OpR X (compareOp .Eq) (rEqU X.K) := op_eq.or (op_eqD hu)
theorem op_neU (hu : X.A.units + 64 < cLine) : OpR X (compareOp .NotEq) (rNeU X.K) := op_ne.or (op_neD hu)
theorem call_lenU : CallR X (.builtin "len") (rLenU X.K) := (show CallR X _ (rLenX X.K) from call_len).or (show CallR X _ rLenD from call_lenD)
theorem set_dict (hu : X.A.units + 1 < cLine) : PSet X rSetD := by
  intro pins s σ H o i v ov iv u Q I ro ri rv h
  obtain ⟨a, H4, ex, g, q⟩ := h
  subst ex
  obtain rfl : ov = Value.ref a := ro
  exact d_setItem hu I g ri rv fun s4 I4 => ⟨H4, I4, q⟩
theorem set_U (hu : X.A.units + 1 < cLine) : PSet X rSetU := by
  intro pins s σ H o i v ov iv u Q I ro ri rv h
  rcases h with h | h
  · exact set_list pins s σ H o i v ov iv u Q I ro ri rv h
  · exact set_dict hu pins s σ H o i v ov iv u Q I ro ri rv h
/-- o.m(e, ..), what is let out wished for at the caller's slots -/
def tMethS (C : Addr) (m : Str) (sp : Sp) (E : L2.St → XK) (ta : TE) (t : TA) : TE := fun σ H Q => ta σ H fun x H1 => ∃ a dx fs, x = .ref a ∧ H1 a = some (.ins C dx fs) ∧ fs.lookup m = none ∧
  t σ H1 fun vs H2 => sp (x :: vs) H2 Q (E σ)
theorem pe_methS {C f : Addr} {m : Str} {CX : CXT} {k : Nat} {fd : FuncData} {ps : List Str} {sp : Sp} {E : L2.St → XK} {o e : Expr} {es : List Expr} {ta : TE} {t : TA} {pos apos : Pos} {pl : Sem Bool} (he : PE X o ta) (c : Cls X.K C) (hm : Meth X.K C m f) (F : FnOk X.prog X.w X.K X.mg X.base CX k f fd ps sp) (hr : Room k X.A) (hb : Binds X.K fd ps []) (hx : ∀ σ, PassesAt CX X σ (E σ)) (ha : PA X (e :: es) t)
    (hst : starEach (e :: es) X.env = (false, eval e X.env) :: starEach es X.env := by rfl) (hpl : (backTo pos (starEach es X.env)).any (·.1) = false := by rfl)
    (ht : eval (.Call (.Attribute o m apos) (e :: es) [] pos) X.env = (do
      let ov ← eval o X.env
      standAt apos.atName
      let (f, first) ← holding [ov] (getMethod ov m pl)
      callWith pos f first (backTo pos (starEach (e :: es) X.env)) (backToKw pos (keywordEach [] X.env))) := by rfl) :
    PE X (.Call (.Attribute o m apos) (e :: es) [] pos) (tMethS C m sp E ta t) := by
  refine ⟨fun pins s σ H Q I h => ?_⟩
  refine PySem.W.methodCall_KW (pl := pl) (thn (he.run pins s σ H _ I h) fun u s1 ⟨x, H1, I1, rx, a, dx, fs, ex, ea, l, q⟩ => ?_) ht
  subst ex
  obtain rfl : u = Value.ref a := rx
  refine getmeth_ok I1 ea c hm l ?_
  refine PySem.W.callWith_K (first := [.ref a]) (h₀ := X.base) I.ok.mod.kin hm.kp (thn (ha.run pos pins s1 σ H1 _ I1 q) fun us s2 ⟨vs, H2, I2, r, q2⟩ => ⟨I2.kIn, ?_⟩) hst hpl
  exact run_fnS (us := .ref a :: us) (vs := .ref a :: vs) F hr hb (hx σ) I2 (.cons rfl r) q2
end

/-! ### operations on data -/
/-! a tree of data as the model's own -/
mutual
def toPD : Dt → Option PyData
  | .non => some .none
  | .bl b => some (.bool b)
  | .int i => some (.int i)
  | .str s => some (.str s)
  | .lst ds => (toPDs ds).map .list
  | .tup ds => (toPDs ds).map .tuple
  | _ => none
def toPDs : List Dt → Option (List PyData)
  | [] => some []
  | d :: ds => (toPD d).bind fun p => (toPDs ds).map fun ps => p :: ps
end
section
variable {K : PySem.W.Frag} {H : Hp}
mutual
theorem Rep.dp : ∀ {v : V} {d : Dt} {p : PyData}, Rep K H v d → toPD d = some p → Dp K H v p
  | _, _, _, .non, e => by cases e; exact .non
  | _, _, _, .bl, e => by cases e; exact .bl _
  | _, _, _, .int, e => by cases e; exact .int _
  | _, _, _, .str, e => by cases e; exact .str _
  | _, _, _, .lst (ds := ds) h r, e => by
    have e' : (toPDs ds).map PyData.list = some _ := e
    obtain ⟨ps, h1, h2⟩ := Option.map_eq_some_iff.mp e'
    subst h2
    exact .lst (SqL.of h) (Reps.dp r h1)
  | _, _, _, .tup (ds := ds) h r, e => by
    have e' : (toPDs ds).map PyData.tuple = some _ := e
    obtain ⟨ps, h1, h2⟩ := Option.map_eq_some_iff.mp e'
    subst h2
    exact .tup (SqT.of h) (Reps.dp r h1)
  | _, _, _, .dct _ _, e => by cases e
  | _, _, _, .lsr _ _, e => by cases e
  | _, _, _, .ob, e => by cases e
  | _, _, _, .ty, e => by cases e
  | _, _, _, .inst _ _, e => by cases e
theorem Reps.dp : ∀ {vs : List V} {ds : List Dt} {ps : List PyData}, Reps K H vs ds → toPDs ds = some ps → DpAll K H vs ps
  | _, _, _, .nil, e => by cases e; exact .nil
  | _, _, _, .cons (d := d) (ds := ds) r t, e => by
    have e' : ((toPD d).bind fun p => (toPDs ds).map fun ps => p :: ps) = some _ := e
    obtain ⟨p, h1, h2⟩ := Option.bind_eq_some_iff.mp e'
    obtain ⟨ps, h3, h4⟩ := Option.map_eq_some_iff.mp h2
    subst h4
    exact .cons (Rep.dp r h1) (Reps.dp t h3)
end
end
def Dt.isNon : Dt → Bool
  | .non => true
  | _ => false
/-- a key of a dict as data -/
def kD : Key → Dt
  | .inl i => .int i
  | .inr s => .str s
def flatD : Dt → Bool
  | .non => true
  | .bl _ => true
  | .int _ => true
  | .str _ => true
  | _ => false
/-- the value of flat data -/
def vD : Dt → V
  | .bl b => .bl b
  | .int i => .int i
  | .str s => .str s
  | _ => .non
section
variable {K : PySem.W.Frag} {M : Sto} {H : Hp}
theorem Rep.key {v : V} {k : Key} (r : Rep K H v (kD k)) : v = kV k := by
  cases k <;> cases r <;> rfl
theorem Rep.flat {v : V} {d : Dt} (r : Rep K H v d) (h : flatD d = true) : v = vD d ∧ flatV v = true := by
  cases r <;> first | exact ⟨rfl, rfl⟩ | cases h
theorem Rep.isNon {v : V} {d : Dt} (r : Rep K H v d) : decide (v = .non) = d.isNon := by
  cases r <;> first | rfl | simp [Dt.isNon]
theorem Rep.ofFlat {d : Dt} (h : flatD d = true) : Rep K H (vD d) d := by
  cases d <;> first | exact .non | exact .bl | exact .int | exact .str | cases h
/-- where a sequence stands: frozen, or an own cell -/
inductive Lst (M : Sto) : Dt → List Dt → Prop
  | frz {ds} : Lst M (.lst ds) ds
  | own {j : Nat} {a ds} : M[j]? = some (a, .lst ds) → Lst M (.ob a) ds
inductive Dct (M : Sto) : Dt → List (Key × Dt) → Prop
  | frz {ds} : Dct M (.dct ds) ds
  | own {j : Nat} {a ds} : M[j]? = some (a, .dct ds) → Dct M (.ob a) ds
theorem Lst.at_ {B G F : Hp} {Γ : Gm} {σ : L2.St} {v : V} {d : Dt} {ds : List Dt} (l : Lst M d ds) (k : Ok K B G F Γ M σ H) (r : Rep K F v d) : ∃ a xs, v = .ref a ∧ H a = some (.lst xs) ∧ Reps K F xs ds := by
  cases l with
  | frz => cases r with | lst h t => exact ⟨_, _, rfl, k.fh _ _ h, t⟩
  | own h => cases r; obtain ⟨_, _, xs, e, t⟩ := k.at_ h; exact ⟨_, xs, rfl, e, t⟩
theorem Dct.at_ {B G F : Hp} {Γ : Gm} {σ : L2.St} {v : V} {d : Dt} {ds : List (Key × Dt)} (l : Dct M d ds) (k : Ok K B G F Γ M σ H) (r : Rep K F v d) : ∃ a xs, v = .ref a ∧ H a = some (.dK xs) ∧ RepK K F xs ds := by
  cases l with
  | frz => cases r with | dct h t => exact ⟨_, _, rfl, k.fh _ _ h, t⟩
  | own h => cases r; obtain ⟨_, _, xs, e, t⟩ := k.at_ h; exact ⟨_, xs, rfl, e, t⟩
theorem op2_I0 {g : Int → Int → Int} {i j : Int} : Op2 K M (rI0 fun i j => .int (g i j)) (.int i) (.int j) (.int (g i j)) := fun B G F Γ σ H u w Q k r1 r2 q => by
  cases r1; cases r2; exact ⟨i, j, rfl, rfl, q _ F H k (Ex.refl F) .int⟩
theorem op2_IB {g : Int → Int → Bool} {i j : Int} : Op2 K M (rI0 fun i j => .bl (g i j)) (.int i) (.int j) (.bl (g i j)) := fun B G F Γ σ H u w Q k r1 r2 q => by
  cases r1; cases r2; exact ⟨i, j, rfl, rfl, q _ F H k (Ex.refl F) .bl⟩
theorem op2_I {C : Int → Int → Prop} {g : Int → Int → Int} {i j : Int} (h : C i j) : Op2 K M (rI C fun i j => .int (g i j)) (.int i) (.int j) (.int (g i j)) := fun B G F Γ σ H u w Q k r1 r2 q => by
  cases r1; cases r2; exact ⟨i, j, rfl, rfl, h, q _ F H k (Ex.refl F) .int⟩
theorem op2_l {r r' : R2} {x y z : Dt} (h : Op2 K M r x y z) : Op2 K M (fun a b H Q => r a b H Q ∨ r' a b H Q) x y z := fun B G F Γ σ H u w Q k r1 r2 q => .inl (h B G F Γ σ H u w Q k r1 r2 q)
theorem op2_r {r r' : R2} {x y z : Dt} (h : Op2 K M r' x y z) : Op2 K M (fun a b H Q => r a b H Q ∨ r' a b H Q) x y z := fun B G F Γ σ H u w Q k r1 r2 q => .inr (h B G F Γ σ H u w Q k r1 r2 q)
theorem opn_l {r r' : R2} {x y : Dt} {z : Ow} (h : OpN K M r x y z) : OpN K M (fun a b H Q => r a b H Q ∨ r' a b H Q) x y z := fun B G F Γ σ H u w Q k r1 r2 q => .inl (h B G F Γ σ H u w Q k r1 r2 q)
theorem opn_r {r r' : R2} {x y : Dt} {z : Ow} (h : OpN K M r' x y z) : OpN K M (fun a b H Q => r a b H Q ∨ r' a b H Q) x y z := fun B G F Γ σ H u w Q k r1 r2 q => .inr (h B G F Γ σ H u w Q k r1 r2 q)
theorem u_addI {i j : Int} : Op2 K M (rAddU K) (.int i) (.int j) (.int (i + j)) := op2_l op2_I0
theorem u_addS {s t : Str} (h : s.length + t.length ≤ 10000000) : Op2 K M (rAddU K) (.str s) (.str t) (.str (s ++ t)) := op2_r (op2_l fun B G F Γ σ H u w Q k r1 r2 q => by
  cases r1; cases r2; exact ⟨s, t, rfl, rfl, sz_le h, q _ F H k (Ex.refl F) .str⟩)
theorem u_addL {x y : Dt} {ds es : List Dt} (lx : Lst M x ds) (ly : Lst M y es) (h : ds.length + es.length ≤ 10000000) : OpN K M (rAddU K) x y (.lst (ds ++ es)) := opn_r (opn_r (opn_l fun B G F Γ σ H u w Q k r1 r2 q => by
  obtain ⟨a, xs, rfl, h1, t1⟩ := lx.at_ k r1
  obtain ⟨b, ys, rfl, h2, t2⟩ := ly.at_ k r2
  exact ⟨a, b, xs, ys, rfl, rfl, h1, h2, by rw [t1.length, t2.length]; exact sz_le h, fun p hp => q p F _ (k.cell hp ⟨_, upd_same, t1.append t2⟩) (Ex.refl F)⟩))
theorem u_addT {ds es : List Dt} (h1 : ds ≠ []) (h2 : es ≠ []) (h : ds.length + es.length ≤ 10000000) : Op2 K M (rAddU K) (.tup ds) (.tup es) (.tup (ds ++ es)) := op2_r (op2_r (op2_r fun B G F Γ σ H u w Q k r1 r2 q => by
  cases r1 with | tup e1 t1 => cases r2 with | tup e2 t2 =>
  have n1 : ∀ {zs : List V} {fs : List Dt}, Reps K F zs fs → fs ≠ [] → zs ≠ [] := fun t n z => by subst z; cases t; exact n rfl
  refine ⟨_, _, _, _, rfl, rfl, SqT.of (k.fh _ _ e1), SqT.of (k.fh _ _ e2), n1 t1 h1, by rw [t1.length, t2.length]; exact sz_le h, ?_⟩
  first
    | exact ⟨fun z => absurd z (n1 t2 h2), fun _ p hp => q (.ref p) (upd F p _) _ (k.new hp) (Ex.new (ex_none k.fh hp)) (.tup upd_same ((t1.append t2).mono (Ex.new (ex_none k.fh hp))))⟩
    | exact fun z p hp => q (.ref p) (upd F p _) _ (k.new hp) (Ex.new (ex_none k.fh hp)) (.tup upd_same ((t1.append t2).mono (Ex.new (ex_none k.fh hp))))))
theorem u_mulI {i j : Int} (h : CMul i j) : Op2 K M rMulU (.int i) (.int j) (.int (i * j)) := op2_l (op2_I h)
theorem u_ltI {i j : Int} : Op2 K M (rLtU K) (.int i) (.int j) (.bl (decide (i < j))) := op2_l op2_IB
theorem u_eqI {i j : Int} : Op2 K M (rEqU K) (.int i) (.int j) (.bl (decide (i = j))) := op2_l fun B G F Γ σ H u w Q k r1 r2 q => by
  cases r1; cases r2; exact ⟨rfl, q _ F H k (Ex.refl F) (by rw [show decide (V.int i = V.int j) = decide (i = j) by simp]; exact .bl)⟩
theorem u_eqS {i j : Str} : Op2 K M (rEqU K) (.str i) (.str j) (.bl (decide (i = j))) := op2_l fun B G F Γ σ H u w Q k r1 r2 q => by
  cases r1; cases r2; exact ⟨rfl, q _ F H k (Ex.refl F) (by rw [show decide (V.str i = V.str j) = decide (i = j) by simp]; exact .bl)⟩
theorem u_eqB {i j : Bool} : Op2 K M (rEqU K) (.bl i) (.bl j) (.bl (decide (i = j))) := op2_l fun B G F Γ σ H u w Q k r1 r2 q => by
  cases r1; cases r2; exact ⟨rfl, q _ F H k (Ex.refl F) (by rw [show decide (V.bl i = V.bl j) = decide (i = j) by simp]; exact .bl)⟩
theorem u_neI {i j : Int} : Op2 K M (rNeU K) (.int i) (.int j) (.bl (!decide (i = j))) := op2_l fun B G F Γ σ H u w Q k r1 r2 q => by
  cases r1; cases r2; exact ⟨rfl, q _ F H k (Ex.refl F) (by rw [show decide (V.int i = V.int j) = decide (i = j) by simp]; exact .bl)⟩
theorem u_neS {i j : Str} : Op2 K M (rNeU K) (.str i) (.str j) (.bl (!decide (i = j))) := op2_l fun B G F Γ σ H u w Q k r1 r2 q => by
  cases r1; cases r2; exact ⟨rfl, q _ F H k (Ex.refl F) (by rw [show decide (V.str i = V.str j) = decide (i = j) by simp]; exact .bl)⟩
theorem u_neB {i j : Bool} : Op2 K M (rNeU K) (.bl i) (.bl j) (.bl (!decide (i = j))) := op2_l fun B G F Γ σ H u w Q k r1 r2 q => by
  cases r1; cases r2; exact ⟨rfl, q _ F H k (Ex.refl F) (by rw [show decide (V.bl i = V.bl j) = decide (i = j) by simp]; exact .bl)⟩
theorem u_neIN {i : Int} : Op2 K M (rNeU K) (.int i) .non (.bl true) := op2_l fun B G F Γ σ H u w Q k r1 r2 q => by
  cases r1; cases r2; exact ⟨rfl, q _ F H k (Ex.refl F) .bl⟩
theorem u_neNN : Op2 K M (rNeU K) .non .non (.bl false) := op2_l fun B G F Γ σ H u w Q k r1 r2 q => by
  cases r1; cases r2; exact ⟨rfl, q _ F H k (Ex.refl F) .bl⟩
/-! data as it is seen with the own cells within -/
mutual
inductive Sees (M : Sto) : Dt → Dt → Prop
  | rfl {d} : Sees M d d
  | lst {j : Nat} {a ds es} : M[j]? = some (a, .lst ds) → SeesL M ds es → Sees M (.ob a) (.lst es)
  | dct {j : Nat} {a ds es} : M[j]? = some (a, .dct ds) → SeesK M ds es → Sees M (.ob a) (.dct es)
  | llst {ds es} : SeesL M ds es → Sees M (.lst ds) (.lst es)
  | ltup {ds es} : SeesL M ds es → Sees M (.tup ds) (.tup es)
  | linst {C ds es} : SeesF M ds es → Sees M (.inst C ds) (.inst C es)
inductive SeesL (M : Sto) : List Dt → List Dt → Prop
  | rfl {ds} : SeesL M ds ds
  | cons {d e ds es} : Sees M d e → SeesL M ds es → SeesL M (d :: ds) (e :: es)
inductive SeesK (M : Sto) : List (Key × Dt) → List (Key × Dt) → Prop
  | rfl {ds} : SeesK M ds ds
  | cons {k d e ds es} : Sees M d e → SeesK M ds es → SeesK M ((k, d) :: ds) ((k, e) :: es)
inductive SeesF (M : Sto) : List (Str × Dt) → List (Str × Dt) → Prop
  | rfl {ds} : SeesF M ds ds
  | cons {k d e ds es} : Sees M d e → SeesF M ds es → SeesF M ((k, d) :: ds) ((k, e) :: es)
end
/-! F with the cells -/
open Classical in
def withC (F H : Hp) (M : Sto) : Hp := fun a => if a ∈ M.map (·.1) then H a else F a
section
variable {B G F F' : Hp} {Γ : Gm} {σ : L2.St}
theorem Ok.exC (k : Ok K B G F Γ M σ H) : Ex F (withC F H M) := fun a o e => by
  unfold withC
  split
  · exact k.fh a o e
  · exact e
theorem Ok.exC2 (k : Ok K B G F Γ M σ H) : Ex (withC F H M) H := fun a o e => by
  unfold withC at e
  split at e
  · exact e
  · exact k.fh a o e
theorem withC_at {a : Addr} {o : Ow} {j : Nat} (h : M[j]? = some (a, o)) : withC F H M a = H a := by
  unfold withC
  rw [if_pos (List.mem_map.mpr ⟨(a, o), List.mem_of_getElem? h, rfl⟩)]
mutual
theorem Sees.rep (k : Ok K B G F Γ M σ H) : ∀ {v : V} {d e : Dt}, Sees M d e → Rep K (withC F H M) v d → Rep K (withC F H M) v e
  | _, _, _, .rfl, r => r
  | _, _, _, .lst h s, r => by
    cases r
    obtain ⟨_, _, xs, hx, t⟩ := k.at_ h
    exact .lst ((withC_at h).trans hx) (SeesL.rep k s (t.mono k.exC))
  | _, _, _, .dct h s, r => by
    cases r
    obtain ⟨_, _, xs, hx, t⟩ := k.at_ h
    exact .dct ((withC_at h).trans hx) (SeesK.rep k s (t.mono k.exC))
  | _, _, _, .llst s, r => by cases r with | lst h t => exact .lst h (SeesL.rep k s t)
  | _, _, _, .ltup s, r => by cases r with | tup h t => exact .tup h (SeesL.rep k s t)
  | _, _, _, .linst s, r => by cases r with | inst h t => exact .inst h (SeesF.rep k s t)
theorem SeesL.rep (k : Ok K B G F Γ M σ H) : ∀ {v : List V} {d e : List Dt}, SeesL M d e → Reps K (withC F H M) v d → Reps K (withC F H M) v e
  | _, _, _, .rfl, r => r
  | _, _, _, .cons s t, r => by cases r with | cons r1 r2 => exact .cons (Sees.rep k s r1) (SeesL.rep k t r2)
theorem SeesK.rep (k : Ok K B G F Γ M σ H) : ∀ {v : List (Key × V)} {d e : List (Key × Dt)}, SeesK M d e → RepK K (withC F H M) v d → RepK K (withC F H M) v e
  | _, _, _, .rfl, r => r
  | _, _, _, .cons s t, r => by cases r with | cons r1 r2 => exact .cons (Sees.rep k s r1) (SeesK.rep k t r2)
theorem SeesF.rep (k : Ok K B G F Γ M σ H) : ∀ {v : List (Str × V)} {d e : List (Str × Dt)}, SeesF M d e → RepF K (withC F H M) v d → RepF K (withC F H M) v e
  | _, _, _, .rfl, r => r
  | _, _, _, .cons s t, r => by cases r with | cons r1 r2 => exact .cons (Sees.rep k s r1) (SeesF.rep k t r2)
end
end
/-- == of data: through the cells -/
theorem u_eqD {x y x' y' : Dt} {p q : PyData} (sx : Sees M x x') (sy : Sees M y y') (hx : toPD x' = some p) (hy : toPD y' = some q) (h1 : SeqAt.shaped p = true) (h2 : SeqAt.shaped q = true) : Op2 K M (rEqU K) x y (.bl (PyData.eqv p q)) := op2_r fun B G F Γ σ H u w Q k r1 r2 qq =>
  ⟨p, q, (((sx.rep k (r1.mono k.exC)).mono k.exC2).dp hx), (((sy.rep k (r2.mono k.exC)).mono k.exC2).dp hy), h1, h2, qq _ F H k (Ex.refl F) .bl⟩
theorem u_neD {x y x' y' : Dt} {p q : PyData} (sx : Sees M x x') (sy : Sees M y y') (hx : toPD x' = some p) (hy : toPD y' = some q) (h1 : SeqAt.shaped p = true) (h2 : SeqAt.shaped q = true) : Op2 K M (rNeU K) x y (.bl (!PyData.eqv p q)) := op2_r fun B G F Γ σ H u w Q k r1 r2 qq =>
  ⟨p, q, (((sx.rep k (r1.mono k.exC)).mono k.exC2).dp hx), (((sy.rep k (r2.mono k.exC)).mono k.exC2).dp hy), h1, h2, qq _ F H k (Ex.refl F) .bl⟩
/-! subscripts -/
theorem atI_of {α β : Type} {R : α → β → Prop} {xs : List α} {ds : List β} {i : Int} {d : β} (hl : xs.length = ds.length) (hg : ∀ (j : Nat) (d : β), ds[j]? = some d → ∃ x, xs[j]? = some x ∧ R x d) (h : atI ds i = some d) : ∃ x, atI xs i = some x ∧ R x d := by
  unfold atI at h ⊢
  obtain ⟨j, h1, h2⟩ := Option.bind_eq_some_iff.mp h
  obtain ⟨x, h3, h4⟩ := hg j d h2
  exact ⟨x, by rw [hl, h1]; exact h3, h4⟩
theorem u_ixL {x z : Dt} {ds : List Dt} {i : Int} (l : Lst M x ds) (h : atI ds i = some z) : Op2 K M (rIxU K) x (.int i) z := op2_l fun B G F Γ σ H u w Q k r1 r2 q => by
  obtain ⟨a, xs, rfl, h1, t1⟩ := l.at_ k r1
  cases r2
  obtain ⟨v, hv, rv⟩ := atI_of t1.length (fun j d e => t1.get e) h
  exact ⟨a, xs, i, v, rfl, rfl, SqL.of h1, hv, q v F H k (Ex.refl F) rv⟩
theorem u_ixR {z : Dt} {ds : List Dt} {i : Int} (h : atI ds i = some z) : Op2 K M (rIxU K) (.lsr ds) (.int i) z := op2_l fun B G F Γ σ H u w Q k r1 r2 q => by
  cases r1 with | lsr h1 t1 =>
  cases r2
  obtain ⟨v, hv, rv⟩ := atI_of t1.length (fun j d e => t1.get e) h
  exact ⟨_, _, i, v, rfl, rfl, ex_l k.fh h1, hv, q v F H k (Ex.refl F) rv⟩
theorem u_ixT {z : Dt} {ds : List Dt} {i : Int} (h : atI ds i = some z) : Op2 K M (rIxU K) (.tup ds) (.int i) z := op2_r (op2_l fun B G F Γ σ H u w Q k r1 r2 q => by
  cases r1 with | tup h1 t1 =>
  cases r2
  obtain ⟨v, hv, rv⟩ := atI_of t1.length (fun j d e => t1.get e) h
  exact ⟨_, _, i, v, rfl, rfl, SqT.of (k.fh _ _ h1), hv, q v F H k (Ex.refl F) rv⟩)
theorem u_ixS {s : Str} {i : Int} {c : Nat} (hl : s.length ≤ 10000000) (h : atI s.cps.toList i = some c) : Op2 K M (rIxU K) (.str s) (.int i) (.str ⟨#[c]⟩) := op2_r (op2_r (op2_l fun B G F Γ σ H u w Q k r1 r2 q => by
  cases r1; cases r2
  exact ⟨s, i, c, rfl, rfl, sz_le hl, h, q _ F H k (Ex.refl F) .str⟩))
theorem u_ixD {x z y : Dt} {key : Key} {kvs : List (Key × Dt)} (l : Dct M x kvs) (hk : y = kD key) (h : valD kvs key = some z) : Op2 K M (rIxU K) x y z := op2_r (op2_r (op2_r fun B G F Γ σ H u w Q k r1 r2 q => by
  subst hk
  obtain ⟨a, xs, rfl, h1, t1⟩ := l.at_ k r1
  obtain rfl := r2.key
  obtain ⟨v, hv, rv⟩ := t1.val h
  exact ⟨a, v, rfl, hv ▸ DGet.k h1, q v F H k (Ex.refl F) rv⟩))
theorem u_inD {x y : Dt} {key : Key} {kvs : List (Key × Dt)} (l : Dct M x kvs) (hk : y = kD key) : Op2 K M (rInU K) y x (.bl (valD kvs key).isSome) := op2_r (op2_r fun B G F Γ σ H u w Q k r2 r1 q => by
  subst hk
  obtain ⟨a, xs, rfl, h1, t1⟩ := l.at_ k r1
  obtain rfl := r2.key
  exact ⟨a, valV xs key, rfl, DGet.k h1, q _ F H k (Ex.refl F) (by rw [t1.isSome]; exact .bl)⟩)
theorem u_niD {x y : Dt} {key : Key} {kvs : List (Key × Dt)} (l : Dct M x kvs) (hk : y = kD key) : Op2 K M (rNiU K) y x (.bl (!(valD kvs key).isSome)) := op2_r (op2_r fun B G F Γ σ H u w Q k r2 r1 q => by
  subst hk
  obtain ⟨a, xs, rfl, h1, t1⟩ := l.at_ k r1
  obtain rfl := r2.key
  exact ⟨a, valV xs key, rfl, DGet.k h1, q _ F H k (Ex.refl F) (by rw [t1.isSome]; exact .bl)⟩)
theorem u_inS {c : Nat} {s : Str} : Op2 K M (rInU K) (.str ⟨#[c]⟩) (.str s) (.bl (decide (c ∈ s.cps.toList))) := op2_r (op2_l fun B G F Γ σ H u w Q k r1 r2 q => by
  cases r1; cases r2; exact ⟨c, s, rfl, rfl, q _ F H k (Ex.refl F) .bl⟩)
theorem u_niS {c : Nat} {s : Str} : Op2 K M (rNiU K) (.str ⟨#[c]⟩) (.str s) (.bl (!decide (c ∈ s.cps.toList))) := op2_r (op2_l fun B G F Γ σ H u w Q k r1 r2 q => by
  cases r1; cases r2; exact ⟨c, s, rfl, rfl, q _ F H k (Ex.refl F) .bl⟩)
def inDt (x : Dt) (ds : List Dt) : Bool := inV (vD x) (ds.map vD)
theorem Reps.flat : ∀ {vs : List V} {ds : List Dt}, Reps K H vs ds → ds.all flatD = true → vs = ds.map vD ∧ vs.all flatV = true
  | _, _, .nil, _ => ⟨rfl, rfl⟩
  | _, _, .cons r t, h => by
    rw [List.all_cons, Bool.and_eq_true_iff] at h
    obtain ⟨e1, f1⟩ := r.flat h.1
    obtain ⟨e2, f2⟩ := Reps.flat t h.2
    exact ⟨by rw [List.map_cons, ← e1, ← e2], by rw [List.all_cons, f1, f2]; rfl⟩
theorem u_inL {x y : Dt} {ds : List Dt} (l : Lst M y ds) (hx : flatD x = true) (hd : ds.all flatD = true) : Op2 K M (rInU K) x y (.bl (inDt x ds)) := op2_l fun B G F Γ σ H u w Q k r2 r1 q => by
  obtain ⟨a, xs, rfl, h1, t1⟩ := l.at_ k r1
  obtain ⟨rfl, f⟩ := r2.flat hx
  obtain ⟨rfl, f2⟩ := t1.flat hd
  exact ⟨a, _, rfl, .inl (SqL.of h1), f, f2, q _ F H k (Ex.refl F) .bl⟩
theorem u_niL {x y : Dt} {ds : List Dt} (l : Lst M y ds) (hx : flatD x = true) (hd : ds.all flatD = true) : Op2 K M (rNiU K) x y (.bl (!inDt x ds)) := op2_l fun B G F Γ σ H u w Q k r2 r1 q => by
  obtain ⟨a, xs, rfl, h1, t1⟩ := l.at_ k r1
  obtain ⟨rfl, f⟩ := r2.flat hx
  obtain ⟨rfl, f2⟩ := t1.flat hd
  exact ⟨a, _, rfl, .inl (SqL.of h1), f, f2, q _ F H k (Ex.refl F) .bl⟩
theorem u_inT {x : Dt} {ds : List Dt} (hx : flatD x = true) (hd : ds.all flatD = true) : Op2 K M (rInU K) x (.tup ds) (.bl (inDt x ds)) := op2_l fun B G F Γ σ H u w Q k r2 r1 q => by
  cases r1 with | tup h1 t1 =>
  obtain ⟨rfl, f⟩ := r2.flat hx
  obtain ⟨rfl, f2⟩ := t1.flat hd
  exact ⟨_, _, rfl, .inr (SqT.of (k.fh _ _ h1)), f, f2, q _ F H k (Ex.refl F) .bl⟩
/-! len -/
theorem opc_l {r r' : List V → Hp → VK → Prop} {x : List Dt} {z : Dt} (h : OpC K M r x z) : OpC K M (fun b H Q => r b H Q ∨ r' b H Q) x z := fun B G F Γ σ H u Q k r1 q => .inl (h B G F Γ σ H u Q k r1 q)
theorem opc_r {r r' : List V → Hp → VK → Prop} {x : List Dt} {z : Dt} (h : OpC K M r' x z) : OpC K M (fun b H Q => r b H Q ∨ r' b H Q) x z := fun B G F Γ σ H u Q k r1 q => .inr (h B G F Γ σ H u Q k r1 q)
theorem Reps.one {vs : List V} {d : Dt} (r : Reps K H vs [d]) : ∃ v, vs = [v] ∧ Rep K H v d := by
  cases r with | cons r t => cases t; exact ⟨_, rfl, r⟩
theorem Reps.two {vs : List V} {d e : Dt} (r : Reps K H vs [d, e]) : ∃ v w, vs = [v, w] ∧ Rep K H v d ∧ Rep K H w e := by
  cases r with | cons r t => obtain ⟨w, rfl, r2⟩ := t.one; exact ⟨_, w, rfl, r, r2⟩
theorem u_lenL {x : Dt} {ds : List Dt} (l : Lst M x ds) : OpC K M (rLenU K) [x] (.int ds.length) := opc_l fun B G F Γ σ H u Q k r1 q => by
  obtain ⟨v, rfl, r⟩ := r1.one
  obtain ⟨a, xs, rfl, h1, t1⟩ := l.at_ k r
  exact ⟨.ref a, ds.length, rfl, .inl ⟨xs, SqL.of h1, t1.length.symm⟩, q _ F H k (Ex.refl F) .int⟩
theorem u_lenR {ds : List Dt} : OpC K M (rLenU K) [.lsr ds] (.int ds.length) := opc_l fun B G F Γ σ H u Q k r1 q => by
  obtain ⟨v, rfl, r⟩ := r1.one
  cases r with | lsr h1 t1 => exact ⟨_, ds.length, rfl, .inl ⟨_, ex_l k.fh h1, t1.length.symm⟩, q _ F H k (Ex.refl F) .int⟩
theorem u_lenT {ds : List Dt} : OpC K M (rLenU K) [.tup ds] (.int ds.length) := opc_l fun B G F Γ σ H u Q k r1 q => by
  obtain ⟨v, rfl, r⟩ := r1.one
  cases r with | tup h1 t1 => exact ⟨_, ds.length, rfl, .inr ⟨_, SqT.of (k.fh _ _ h1), t1.length.symm⟩, q _ F H k (Ex.refl F) .int⟩
theorem u_lenS {s : Str} (h : s.length ≤ 10000000) : OpC K M (rLenU K) [.str s] (.int s.length) := opc_l fun B G F Γ σ H u Q k r1 q => by
  obtain ⟨v, rfl, r⟩ := r1.one
  cases r
  exact ⟨_, s.length, rfl, ⟨sz_le h, rfl⟩, q _ F H k (Ex.refl F) .int⟩
theorem u_lenD {x : Dt} {kvs : List (Key × Dt)} (l : Dct M x kvs) : OpC K M (rLenU K) [x] (.int kvs.length) := opc_r fun B G F Γ σ H u Q k r1 q => by
  obtain ⟨v, rfl, r⟩ := r1.one
  obtain ⟨a, xs, rfl, h1, t1⟩ := l.at_ k r
  exact ⟨a, xs, rfl, h1, q _ F H k (Ex.refl F) (by rw [t1.length]; exact .int)⟩
end
end Vl
namespace Vl
open PySem PySem.Spec PyProof.Rows L2 Evl

/-! ### statements -/
def Up (K : PySem.W.Frag) (B G : Hp) (I : Gm → Sto → Prop) : L2.St → Hp → Prop := fun σ H => ∃ F Γ M, Ok K B G F Γ M σ H ∧ I Γ M
section
variable {K : PySem.W.Frag} {B G : Hp} {Γ Γ' : Gm} {M M' : Sto} {te ta : TE} {c : TT} {t u : TS} {D : Ends} {d : Dt} {o : Ow} {i j : Nat} {a : Addr} {N : L2.St → Hp → Prop} {P : Dt → Sto → Prop}
theorem at_seq (h : At K B G Γ M (t { D with nx := u D })) : At K B G Γ M (tSeq t u D) := h
theorem at_next (h : At K B G Γ M D.nx) : At K B G Γ M (tNext D) := h
theorem at_asg (h : EvD K Γ M te d) (q : At K B G (Γ.set i (some d)) M D.nx) : At K B G Γ M (tAsg te (gName i) D) := fun F σ H k => h B G F σ H _ k fun v F' H' k' e r => q F' _ H' (k'.setS r)
theorem at_asgX (h : EvX K B G Γ M te P) (q : ∀ d M', P d M' → At K B G (Γ.set i (some d)) M' D.nx) : At K B G Γ M (tAsg te (gName i) D) := fun F σ H k => h F σ H _ k fun v F' H' d M' k' e r p => q d M' p F' _ H' (k'.setS r)
theorem at_asgN (h : EvN K Γ M te o) (q : ∀ a, At K B G (Γ.set i (some (.ob a))) ((a, o) :: M) D.nx) : At K B G Γ M (tAsg te (gName i) D) := fun F σ H k => h B G F σ H _ k fun a F' H' k' e => q a F' _ H' (k'.setS .ob)
theorem at_if {b : Bool} (h : EvT K Γ M c b) (h1 : b = true → At K B G Γ M (t D)) (h2 : b = false → At K B G Γ M (u D)) : At K B G Γ M (tIfS c t u D) := fun F σ H k => h B G F σ H _ k fun F' H' k' e => by
  cases b with
  | true => exact h1 rfl F' σ H' k'
  | false => exact h2 rfl F' σ H' k'
theorem at_ifX {P : Bool → Sto → Prop} (h : EvTX K B G Γ M c P) (h1 : ∀ M', P true M' → At K B G Γ M' (t D)) (h2 : ∀ M', P false M' → At K B G Γ M' (u D)) : At K B G Γ M (tIfS c t u D) := fun F σ H k => h F σ H _ k fun F' H' b M' k' e p => by
  cases b with
  | true => exact h1 M' p F' σ H' k'
  | false => exact h2 M' p F' σ H' k'
theorem at_drop (h : EvD K Γ M te d) (q : At K B G Γ M D.nx) : At K B G Γ M (tDrop te D) := fun F σ H k => h B G F σ H _ k fun v F' H' k' e r => q F' _ H' k'
theorem at_dropX (h : EvX K B G Γ M te P) (q : ∀ d M', P d M' → At K B G Γ M' D.nx) : At K B G Γ M (tDrop te D) := fun F σ H k => h F σ H _ k fun v F' H' d M' k' e r p => q d M' p F' _ H' k'
theorem at_ret (h : EvD K Γ M te d) (q : Rt K B G d M D.rt) : At K B G Γ M (tRet te D) := fun F σ H k => h B G F σ H _ k fun v F' H' k' e r => q v F' Γ σ H' k' r
theorem at_retX (h : EvX K B G Γ M te P) (q : ∀ d M', P d M' → Rt K B G d M' D.rt) : At K B G Γ M (tRet te D) := fun F σ H k => h F σ H _ k fun v F' H' d M' k' e r p => q d M' p v F' Γ σ H' k' r
theorem at_retNw (h : EvN K Γ M te o) (q : ∀ a, Rt K B G (.ob a) ((a, o) :: M) D.rt) : At K B G Γ M (tRet te D) := fun F σ H k => h B G F σ H _ k fun a F' H' k' e => q a (.ref a) F' Γ σ H' k' .ob
theorem at_retN (q : Rt K B G .non M D.rt) : At K B G Γ M (tRetN D) := fun F σ H k => q .non F Γ σ H k .non
theorem at_less (h : At K B G Γ' M N) (hl : Γ'.length = Γ.length) (hw : ∀ (i : Nat) (d : Dt), Γ'[i]? = some (some d) → Γ[i]? = some (some d)) : At K B G Γ M N := fun F σ H k => h F σ H (k.less hl hw)
theorem at_cells (h : At K B G Γ M' N) (hs : M'.Sublist M) : At K B G Γ M N := fun F σ H k => h F σ H (k.drop hs)
theorem Ok.frzS {F H : Hp} {σ : L2.St} {ds : List Dt} (k : Ok K B G F Γ M σ H) (h : M[j]? = some (a, .lst ds)) (hi : Γ[i]? = some (some (.ob a))) : ∃ F', Ok K B G F' (Γ.set i (some (.lst ds))) (M.eraseIdx j) σ H ∧ Ex F F' := by
  obtain ⟨f1, _, xs, hx, rx⟩ := k.at_ h
  obtain ⟨v, hv, rv⟩ := k.env i _ hi
  cases rv
  have k2 := (k.freeze h hx).setS (i := i) (v := .ref a) (d := .lst ds) (.lst upd_same (rx.mono (Ex.new f1)))
  have e : σ.set i (some (.ref a)) = σ := by
    obtain ⟨hl, e⟩ := List.getElem?_eq_some_iff.mp hv
    rw [← e]; exact List.set_getElem_self hl
  rw [e] at k2
  exact ⟨_, k2, Ex.new f1⟩
/-- a list is frozen that the name in slot i holds -/
theorem at_frz {ds : List Dt} (j i : Nat) (h : M[j]? = some (a, .lst ds)) (hi : Γ[i]? = some (some (.ob a))) (q : At K B G (Γ.set i (some (.lst ds))) (M.eraseIdx j) N) : At K B G Γ M N := fun F σ H k => by
  obtain ⟨F', k', _⟩ := k.frzS h hi
  exact q F' σ H k'
/-- if c: x = e, x an int -/
theorem at_ifI {b : Bool} {x y : Int} (h : EvT K Γ M c b) (hy : Γ[i]? = some (some (.int y))) (h1 : b = true → EvD K Γ M te (.int x)) (q : At K B G (Γ.set i (some (.int (if b = true then x else y)))) M D.nx) : At K B G Γ M (tIfS c (tAsg te (gName i)) tNext D) :=
  at_if h (fun hb => at_asg (h1 hb) (by rw [hb, if_pos rfl] at q; exact q)) (fun hb => by
    have e : Γ.set i (some (.int y)) = Γ := by
      obtain ⟨hl, e⟩ := List.getElem?_eq_some_iff.mp hy
      rw [← e]; exact List.set_getElem_self hl
    rw [hb, if_neg (by decide), e] at q
    exact at_next q)
theorem at_ifS {b : Bool} {x y : Str} (h : EvT K Γ M c b) (hy : Γ[i]? = some (some (.str y))) (h1 : b = true → EvD K Γ M te (.str x)) (q : At K B G (Γ.set i (some (.str (if b = true then x else y)))) M D.nx) : At K B G Γ M (tIfS c (tAsg te (gName i)) tNext D) :=
  at_if h (fun hb => at_asg (h1 hb) (by rw [hb, if_pos rfl] at q; exact q)) (fun hb => by
    have e : Γ.set i (some (.str y)) = Γ := by
      obtain ⟨hl, e⟩ := List.getElem?_eq_some_iff.mp hy
      rw [← e]; exact List.set_getElem_self hl
    rw [hb, if_neg (by decide), e] at q
    exact at_next q)
theorem at_ifB {b x y : Bool} (h : EvT K Γ M c b) (hy : Γ[i]? = some (some (.bl y))) (h1 : b = true → EvD K Γ M te (.bl x)) (q : At K B G (Γ.set i (some (.bl (if b = true then x else y)))) M D.nx) : At K B G Γ M (tIfS c (tAsg te (gName i)) tNext D) :=
  at_if h (fun hb => at_asg (h1 hb) (by rw [hb, if_pos rfl] at q; exact q)) (fun hb => by
    have e : Γ.set i (some (.bl y)) = Γ := by
      obtain ⟨hl, e⟩ := List.getElem?_eq_some_iff.mp hy
      rw [← e]; exact List.set_getElem_self hl
    rw [hb, if_neg (by decide), e] at q
    exact at_next q)
/-! stores into cells -/
theorem ty_lst {H : Hp} {a : Addr} {xs : List V} (h : H a = some (.lst xs)) : tyV K "list" (.ref a) H := .inl ⟨rfl, xs, .inl (.inl h)⟩
theorem at_appX {ds : List Dt} (ho : EvD K Γ M ta (.ob a)) (hj : M[j]? = some (a, .lst ds)) (he : EvX K B G Γ M te P)
    (q : ∀ d M', P d M' → ∃ (j' : Nat) (ds' : List Dt), M'[j']? = some (a, .lst ds') ∧ ds'.length < 10000000 ∧ At K B G Γ (M'.set j' (a, .lst (ds' ++ [d]))) D.nx) :
    At K B G Γ M (tDrop (tBM K "list" rAppend ta (tCons te tNil)) D) := fun F σ H k => ho B G F σ H _ k fun v F1 H1 k1 e1 r1 => by
  cases r1
  obtain ⟨_, _, xs1, hx1, _⟩ := k1.at_ hj
  refine ⟨ty_lst hx1, he F1 σ H1 _ k1 fun w F2 H2 d M2 k2 e2 r2 p => ?_⟩
  obtain ⟨j', ds', hj', hz, hq⟩ := q d M2 p
  obtain ⟨_, _, xs, hx, rx⟩ := k2.at_ hj'
  exact ⟨a, xs, w, rfl, rfl, hx, sz_lt (rx.length ▸ hz), hq F2 σ _ (k2.wr hj' ⟨_, upd_same, rx.append (.cons r2 .nil)⟩)⟩
theorem at_app {ds : List Dt} (j : Nat) (ho : EvD K Γ M ta (.ob a)) (hj : M[j]? = some (a, .lst ds)) (he : EvD K Γ M te d) (hz : ds.length < 10000000) (q : At K B G Γ (M.set j (a, .lst (ds ++ [d]))) D.nx) :
    At K B G Γ M (tDrop (tBM K "list" rAppend ta (tCons te tNil)) D) := at_appX ho hj he.toX fun d' M' p => by
  obtain ⟨rfl, rfl⟩ := p
  exact ⟨j, ds, hj, hz, q⟩
theorem at_ext {ds es : List Dt} {y : Dt} (j : Nat) (ho : EvD K Γ M ta (.ob a)) (hj : M[j]? = some (a, .lst ds)) (he : EvD K Γ M te y) (ly : Lst M y es) (hz : ds.length + es.length ≤ 10000000) (q : At K B G Γ (M.set j (a, .lst (ds ++ es))) D.nx) :
    At K B G Γ M (tDrop (tBM K "list" rExtend ta (tCons te tNil)) D) := fun F σ H k => ho B G F σ H _ k fun v F1 H1 k1 e1 r1 => by
  cases r1
  obtain ⟨_, _, xs1, hx1, _⟩ := k1.at_ hj
  refine ⟨ty_lst hx1, he B G F1 σ H1 _ k1 fun w F2 H2 k2 e2 r2 => ?_⟩
  obtain ⟨_, _, xs, hx, rx⟩ := k2.at_ hj
  obtain ⟨b, ys, rfl, hy, ry⟩ := ly.at_ k2 r2
  exact ⟨a, b, xs, ys, rfl, rfl, hx, hy, by rw [rx.length, ry.length]; exact sz_le hz, q F2 σ _ (k2.wr hj ⟨_, upd_same, rx.append ry⟩)⟩
theorem at_clear {ds : List Dt} (j : Nat) (ho : EvD K Γ M ta (.ob a)) (hj : M[j]? = some (a, .lst ds)) (q : At K B G Γ (M.set j (a, .lst [])) D.nx) :
    At K B G Γ M (tDrop (tBM0 K "list" rClear ta) D) := fun F σ H k => ho B G F σ H _ k fun v F1 H1 k1 e1 r1 => by
  cases r1
  obtain ⟨_, _, xs1, hx1, _⟩ := k1.at_ hj
  exact ⟨ty_lst hx1, a, xs1, rfl, rfl, hx1, q F1 σ _ (k1.wr hj ⟨_, upd_same, .nil⟩)⟩
theorem at_setL {ds : List Dt} {tb : TE} {z : Int} {n : Nat} (j : Nat) (he : EvD K Γ M te d) (ho : EvD K Γ M ta (.ob a)) (hj : M[j]? = some (a, .lst ds)) (hi : EvD K Γ M tb (.int z)) (hn : ixN ds.length z = some n) (q : At K B G Γ (M.set j (a, .lst (ds.set n d))) D.nx) :
    At K B G Γ M (tAsg te (gSub ta tb rSetU) D) := fun F σ H k => he B G F σ H _ k fun v F1 H1 k1 e1 r1 => ho B G F1 σ H1 _ k1 fun w F2 H2 k2 e2 r2 => hi B G F2 σ H2 _ k2 fun y F3 H3 k3 e3 r3 => by
  cases r2; cases r3
  obtain ⟨_, _, xs, hx, rx⟩ := k3.at_ hj
  exact .inl ⟨a, xs, z, n, rfl, rfl, hx, by rw [rx.length]; exact hn, q F3 σ _ (k3.wr hj ⟨_, upd_same, rx.set (r1.mono (e2.trans e3)) n⟩)⟩
theorem at_setD {kvs : List (Key × Dt)} {tb : TE} {y : Dt} {key : Key} (j : Nat) (he : EvD K Γ M te d) (ho : EvD K Γ M ta (.ob a)) (hj : M[j]? = some (a, .dct kvs)) (hi : EvD K Γ M tb y) (hk : y = kD key) (hz : kvs.length < 10000000) (q : At K B G Γ (M.set j (a, .dct (putD kvs key d))) D.nx) :
    At K B G Γ M (tAsg te (gSub ta tb rSetU) D) := fun F σ H k => he B G F σ H _ k fun v F1 H1 k1 e1 r1 => ho B G F1 σ H1 _ k1 fun w F2 H2 k2 e2 r2 => hi B G F2 σ H2 _ k2 fun u F3 H3 k3 e3 r3 => by
  subst hk
  cases r2
  obtain rfl := r3.key
  obtain ⟨_, _, xs, hx, rx⟩ := k3.at_ hj
  exact .inr ⟨a, _, rfl, DPut.k hx (sz_lt (rx.length ▸ hz)), q F3 σ _ (k3.wr hj ⟨_, upd_same, rx.put key (r1.mono (e2.trans e3))⟩)⟩
end

/-! ### targets, loops -/
def AtG (K : PySem.W.Frag) (B G : Hp) (Γ : Gm) (M : Sto) (g : TG) (d : Dt) (N : L2.St → Hp → Prop) : Prop := ∀ F σ H v, Ok K B G F Γ M σ H → Rep K F v d → g v σ H N
def iSeqU (K : PySem.W.Frag) (tl : TE) : TI := fun σ H R => tl σ H fun x H1 =>
  (∃ a, x = .ref a ∧ (∃ xs, SqL K H1 a xs) ∧ R (Itl K a) H1) ∨ ((∃ a, x = .ref a ∧ (∃ xs, SqT K H1 a xs) ∧ R (Itt K a) H1) ∨ (∃ s, x = .str s ∧ R (Its s) H1))
theorem pi_seqU {X : Cx} {tg l : Expr} {tl : TE} (hl : PE X l tl) : PI X tg l (iSeqU X.K tl) := by
  refine ⟨fun pins s σ H R I h => ?_⟩
  refine thn (hl.run pins s σ H _ I h) fun v s1 ⟨x, H1, I1, r1, q1⟩ => ?_
  rcases q1 with ⟨a, e, ⟨xs, hq⟩, q⟩ | ⟨a, e, ⟨xs, hq⟩, q⟩ | ⟨z, e, q⟩
  · subst e
    cases r1
    obtain ⟨its, rv, p, hz⟩ := I1.list hq
    exact wpAny_pyIter_list p.isList (pi_one (tk := s1.toks) I1 _ (turn_list a _) ⟨_, Heap.get?_push_size _ rfl, rfl, rfl⟩ q)
  · subst e
    cases r1
    obtain ⟨its, rv, p, hz⟩ := I1.tuple hq
    exact wpAny_pyIter_tuple (show s1.heap.IsTuple a its.toArray from p) (pi_one (tk := s1.toks) I1 _ (turn_tuple a _) ⟨_, Heap.get?_push_size _ rfl, rfl, rfl⟩ q)
  · subst e
    obtain ⟨t, rfl⟩ := r1
    cases ha : z.cps.all (· < 128)
    · exact wpAny_pyIter_wide ha (pi_one (tk := s1.toks) I1 _ (turn_str _ z t "str_iterator" (.inr rfl)) ⟨_, Heap.get?_push_size _ rfl, rfl, rfl⟩ q)
    · exact wpAny_pyIter_ascii ha (pi_one (tk := s1.toks) I1 _ (turn_str _ z t "str_ascii_iterator" (.inl rfl)) ⟨_, Heap.get?_push_size _ rfl, rfl, rfl⟩ q)
section
variable {K : PySem.W.Frag} {B G : Hp} {Γ Γ' : Gm} {M M' : Sto} {te ta tl : TE} {c : TT} {t u tb : TS} {D : Ends} {d x : Dt} {g : TG} {i j : Nat} {a : Addr} {N : L2.St → Hp → Prop}
theorem atg_name {v : Dt} (h : At K B G (Γ.set j (some v)) M N) : AtG K B G Γ M (gName j) v N := fun F σ H u k r => h F _ H (k.setS r)
theorem atg_tup2 {i j : Nat} {v w : Dt} (h : At K B G ((Γ.set i (some v)).set j (some w)) M N) : AtG K B G Γ M (gTup K 2 (gCons (gName i) (gCons (gName j) gNil))) (.tup [v, w]) N := fun F σ H u k r => by
  cases r with | tup e t =>
  obtain ⟨y, z, rfl, ry, rz⟩ := t.two
  exact ⟨_, _, rfl, SqT.of (k.fh _ _ e), rfl, y, [z], rfl, z, [], rfl, rfl, h F _ H ((k.setS ry).setS rz)⟩
/-- the loop over a frozen list -/
theorem at_forL {ds : List Dt} (h : EvD K Γ M tl (.lst ds)) (I : Nat → Gm → Sto → Prop) (h0 : I 0 Γ M)
    (hs : ∀ G', Le B G G' → ∀ (i : Nat) (d : Dt) Γ' M', ds[i]? = some d → I i Γ' M' → AtG K B G' Γ' M' g d (tb { D with nx := Up K B G' (I (i + 1)), ct := Up K B G' (I (i + 1)), bk := D.nx }))
    (hd : ∀ Γ' M', I ds.length Γ' M' → At K B G Γ' M' D.nx) : At K B G Γ M (tFor (iSeqU K tl) g tb D) := fun F σ H k => h B G F σ H _ k fun v F1 H1 k1 e1 r1 => by
  cases r1 with | lst e t =>
  obtain ⟨kh, le⟩ := k1.here
  refine .inl ⟨_, rfl, ⟨_, SqL.of (k1.fh _ _ e)⟩, for_list (K := K) (xs := _) (fun i σ' H' => Up K B F1 (I i) σ' H') ⟨F1, Γ, M, kh, h0⟩ (fun i σ' H' _ ⟨F', _, _, k', _⟩ => SqL.of (k'.fh _ _ (k'.gf _ _ e))) (fun i x σ' H' hx ⟨F', Γ', M', k', hi⟩ => ?_) (fun σ' H' ⟨F', Γ', M', k', hi⟩ => ?_)⟩
  · obtain ⟨d, hd', rd⟩ := t.getV hx
    exact hs F1 le i d Γ' M' hd' hi F' σ' H' x k' (rd.mono k'.gf)
  · rw [t.length] at hi
    exact hd Γ' M' hi F' σ' H' (k'.le le)
/-- the loop over a list in a cell that stays as it is -/
theorem at_forO {ds : List Dt} {a : Addr} (h : EvD K Γ M tl (.ob a)) (I : Nat → Gm → Sto → Prop) (h0 : I 0 Γ M) (hst : ∀ i Γ' M', I i Γ' M' → ∃ j : Nat, M'[j]? = some (a, .lst ds))
    (hs : ∀ G', Le B G G' → ∀ (i : Nat) (d : Dt) Γ' M', ds[i]? = some d → I i Γ' M' → AtG K B G' Γ' M' g d (tb { D with nx := Up K B G' (I (i + 1)), ct := Up K B G' (I (i + 1)), bk := D.nx }))
    (hd : ∀ Γ' M', I ds.length Γ' M' → At K B G Γ' M' D.nx) : At K B G Γ M (tFor (iSeqU K tl) g tb D) := fun F σ H k => h B G F σ H _ k fun v F1 H1 k1 e1 r1 => by
  cases r1
  obtain ⟨j, hj⟩ := hst 0 Γ M h0
  obtain ⟨_, _, xs, hx, rx⟩ := k1.at_ hj
  obtain ⟨kh, le⟩ := k1.here
  refine .inl ⟨_, rfl, ⟨_, SqL.of hx⟩, fun i m σ' H' => m = ds.length - i ∧ i ≤ ds.length ∧ Up K B F1 (I i) σ' H', ⟨ds.length, by simp, Nat.zero_le _, F1, Γ, M, kh, h0⟩, ?_⟩
  rintro i m σ' H' ⟨rfl, hi, F', Γ', M', k', p⟩
  obtain ⟨j', hj'⟩ := hst i Γ' M' p
  obtain ⟨_, _, ys, hy, ry⟩ := k'.at_ hj'
  have hl := ry.length
  by_cases hlt : i < ds.length
  · refine .inr ⟨⟨ys, ys[i]'(by omega), SqL.of hy, by simp⟩, Up K B F1 (I (i + 1)), fun σ2 H2 p' => ⟨ds.length - (i + 1), by omega, rfl, hlt, p'⟩, fun x H2 y => ?_⟩
    obtain ⟨e, y⟩ := y
    subst e
    obtain ⟨d, hd', rd⟩ := ry.getV (y ys (SqL.of hy))
    exact hs F1 le i d Γ' M' hd' p F' σ' _ x k' rd
  · have e : i = ds.length := by omega
    subst e
    exact .inl ⟨⟨ys, SqL.of hy, by omega⟩, hd Γ' M' p F' σ' H' (k'.le le)⟩
/-- the loop over range(n) -/
theorem at_forR1 {ta : TA} {n : Int} (h : EvA K Γ M ta [.int n]) (hn : -(2 ^ 62) ≤ n ∧ n < 2 ^ 62) (I : Nat → Gm → Sto → Prop) (h0 : I 0 Γ M)
    (hs : ∀ (i : Nat) Γ' M', (i : Int) < n → I i Γ' M' → AtG K B G Γ' M' g (.int i) (tb { D with nx := Up K B G (I (i + 1)), ct := Up K B G (I (i + 1)), bk := D.nx }))
    (hd : ∀ Γ' M', I n.toNat Γ' M' → At K B G Γ' M' D.nx) : At K B G Γ M (tFor (iRng1 ta) g tb D) := fun F σ H k => h B G F σ H _ k fun vs F1 H1 k1 e1 r1 => by
  obtain ⟨v, rfl, r⟩ := r1.one
  cases r
  refine ⟨n, rfl, hn.1, hn.2, for_range (lo := 0) (n := n.toNat) (fun i σ' H' => Up K B G (I i) σ' H') ⟨F1, Γ, M, k1, h0⟩ (fun i σ' H' hi ⟨F', Γ', M', k', p⟩ => ?_) (fun σ' H' ⟨F', Γ', M', k', p⟩ => hd Γ' M' p F' σ' H' k')⟩
  rw [Int.zero_add]
  exact hs i Γ' M' (by omega) p F' σ' H' _ k' .int
theorem at_forR2 {ta : TA} {lo n : Int} (h : EvA K Γ M ta [.int lo, .int n]) (hn : (-(2 ^ 62) ≤ lo ∧ lo < 2 ^ 62) ∧ -(2 ^ 62) ≤ n ∧ n < 2 ^ 62) (I : Nat → Gm → Sto → Prop) (h0 : I 0 Γ M)
    (hs : ∀ (i : Nat) Γ' M', lo + (i : Int) < n → I i Γ' M' → AtG K B G Γ' M' g (.int (lo + i)) (tb { D with nx := Up K B G (I (i + 1)), ct := Up K B G (I (i + 1)), bk := D.nx }))
    (hd : ∀ Γ' M', I (n - lo).toNat Γ' M' → At K B G Γ' M' D.nx) : At K B G Γ M (tFor (iRng2 ta) g tb D) := fun F σ H k => h B G F σ H _ k fun vs F1 H1 k1 e1 r1 => by
  obtain ⟨v, w, rfl, r, r2⟩ := r1.two
  cases r; cases r2
  exact ⟨lo, n, rfl, ⟨hn.1.1, hn.1.2, hn.2.1, hn.2.2⟩, for_range (lo := lo) (n := (n - lo).toNat) (fun i σ' H' => Up K B G (I i) σ' H') ⟨F1, Γ, M, k1, h0⟩ (fun i σ' H' hi ⟨F', Γ', M', k', p⟩ => hs i Γ' M' (by omega) p F' σ' H' _ k' .int) (fun σ' H' ⟨F', Γ', M', k', p⟩ => hd Γ' M' p F' σ' H' k')⟩
/-- the loop over a text's signs -/
theorem at_forS {z : Str} (h : EvD K Γ M tl (.str z)) (I : Nat → Gm → Sto → Prop) (h0 : I 0 Γ M)
    (hs : ∀ (i : Nat) (ch : Nat) Γ' M', z.cps[i]? = some ch → I i Γ' M' → AtG K B G Γ' M' g (.str ⟨#[ch]⟩) (tb { D with nx := Up K B G (I (i + 1)), ct := Up K B G (I (i + 1)), bk := D.nx }))
    (hd : ∀ Γ' M', I z.cps.size Γ' M' → At K B G Γ' M' D.nx) : At K B G Γ M (tFor (iSeqU K tl) g tb D) := fun F σ H k => h B G F σ H _ k fun v F1 H1 k1 e1 r1 => by
  cases r1
  refine .inr (.inr ⟨z, rfl, fun i m σ' H' => m = z.cps.size - i ∧ i ≤ z.cps.size ∧ Up K B G (I i) σ' H', ⟨z.cps.size, by simp, Nat.zero_le _, F1, Γ, M, k1, h0⟩, ?_⟩)
  rintro i m σ' H' ⟨rfl, hi, p⟩
  by_cases hlt : i < z.cps.size
  · refine .inr ⟨hlt, Up K B G (I (i + 1)), fun σ2 H2 p' => ⟨z.cps.size - (i + 1), by omega, rfl, hlt, p'⟩, fun x H2 y => ?_⟩
    obtain ⟨rfl, ch, hc, rfl⟩ := y
    obtain ⟨F', Γ', M', k', q⟩ := p
    exact hs i ch Γ' M' hc q F' σ' _ _ k' .str
  · have e : i = z.cps.size := by omega
    subst e
    obtain ⟨F', Γ', M', k', q⟩ := p
    exact .inl ⟨Nat.le_refl _, hd Γ' M' q F' σ' H' k'⟩
/-- while: I by a measure -/
theorem at_while (I : Nat → Gm → Sto → Prop) (m0 : Nat) (h0 : I m0 Γ M)
    (hs : ∀ m Γ' M', I m Γ' M' → ∃ b, EvT K Γ' M' c b ∧ (b = true → At K B G Γ' M' (tb { D with nx := Up K B G (fun Γ M => ∃ m', m' < m ∧ I m' Γ M), ct := Up K B G (fun Γ M => ∃ m', m' < m ∧ I m' Γ M), bk := D.nx })) ∧ (b = false → At K B G Γ' M' D.nx)) :
    At K B G Γ M (tWhile c tb D) := fun F σ H k => by
  refine ⟨fun m σ' H' => Up K B G (I m) σ' H', ⟨m0, F, Γ, M, k, h0⟩, ?_⟩
  rintro m σ' H' ⟨F', Γ', M', k', p⟩
  obtain ⟨b, hb, h1, h2⟩ := hs m Γ' M' p
  refine hb B G F' σ' H' _ k' fun F2 H2 k2 e2 => ?_
  cases b with
  | true => exact ⟨Up K B G (fun Γ M => ∃ m', m' < m ∧ I m' Γ M), fun σ3 H3 ⟨F3, Γ3, M3, k3, m', hm, p3⟩ => ⟨m', hm, F3, Γ3, M3, k3, p3⟩, h1 rfl F2 σ' H2 k2⟩
  | false => exact h2 rfl F2 σ' H2 k2
theorem up_of {I : Gm → Sto → Prop} (h : I Γ M) : At K B G Γ M (Up K B G I) := fun F σ H k => ⟨F, Γ, M, k, h⟩
end
end Vl
namespace Vl
open PySem PySem.Spec PyProof.Rows L2 Evl

/-! ### promises -/
abbrev TmV := List Dt → Sto → (Dt → Sto → Prop) → (Addr → Sto → Prop) → Prop
def spT (K : PySem.W.Frag) (T : TmV) : Sp := fun vs H Q E => ∃ (B G : Hp) (M : Sto) (ds : List Dt) (R : Dt → Sto → Prop) (X : Addr → Sto → Prop),
  Ok K B G G [] M [] H ∧ Reps K G vs ds ∧ T ds M R X ∧ (∀ d M', R d M' → Rt K B G d M' Q) ∧ (∀ C M', X C M' → Xt K B G C M' E)
def startG (N : List Str) (ds : List Dt) : Gm := ds.map some ++ List.replicate (N.length - ds.length) none
open Classical in
def hid (H : Hp) (M : Sto) : Hp := fun a => if a ∈ M.map (·.1) then none else H a
section
variable {K : PySem.W.Frag} {B G F F' H H' : Hp} {Γ Γ' : Gm} {M M' : Sto} {σ : L2.St} {T : TmV} {ta : TA} {te : TE} {ds ds' : List Dt} {P : Dt → Sto → Prop} {PX : Addr → Sto → Prop} {E : XK} {dvs : List V}
theorem hid_ex (H : Hp) (M : Sto) : Ex (hid H M) H := fun a o e => by
  unfold hid at e
  split at e
  · cases e
  · exact e
theorem hid_at {a : Addr} (h : a ∈ M.map (·.1)) : hid H M a = none := by unfold hid; rw [if_pos h]
theorem hid_ne {a : Addr} (h : a ∉ M.map (·.1)) : hid H M a = H a := by unfold hid; rw [if_neg h]
theorem Ok.bhid (k : Ok K B G F Γ M σ H) : Ex B (hid H M) := fun a o e => by
  rw [hid_ne fun m => ?_]
  · exact k.bh a o e
  · obtain ⟨p, hp, rfl⟩ := List.mem_map.mp m
    rw [(k.cel p hp).2.1] at e; cases e
/-- what a callee starts from -/
theorem Ok.call (k : Ok K B G F Γ M σ H) : Ok K (hid H M) F F [] M [] H :=
  ⟨k.fh, Ex.refl F, hid_ex H M, fun _ _ => rfl, rfl, fun i d e => by simp at e, fun p hp => ⟨(k.cel p hp).1, hid_at (List.mem_map.mpr ⟨p, hp, rfl⟩), (k.cel p hp).2.2⟩, k.nd⟩
/-- .. and what it leaves -/
theorem Ok.back {Γ2 : Gm} {σ2 : L2.St} (k : Ok K B G F Γ M σ H) (k2 : Ok K (hid H M) F F' Γ2 M' σ2 H') : Ok K B G F' Γ M' σ H' where
  fh := k2.fh
  gf := k.gf.trans k2.gf
  bh := k.bhid.trans k2.bh
  nw := fun a ha => by
    have : hid H M a ≠ none := fun z => ha (by
      cases q : B a with
      | none => rfl
      | some o => rw [k.bhid a o q] at z; cases z)
    rw [k2.nw a this]; exact k.nw a ha
  len := k.len
  env := fun i d e => let ⟨v, h1, r⟩ := k.env i d e; ⟨v, h1, r.mono k2.gf⟩
  cel := fun p hp => by
    obtain ⟨c1, c2, c3⟩ := k2.cel p hp
    exact ⟨c1, ex_none k.bhid c2, c3⟩
  nd := k2.nd
theorem evx_call (ha : EvA K Γ M ta ds) (ht : T ds M P PX) (hE : ∀ C M', PX C M' → Xt K B G C M' E) : EvX K B G Γ M (tCall (spT K T) [] E ta) P := fun F σ H Q k q =>
  ha B G F σ H _ k fun vs F1 H1 k1 e1 r1 => by
    show spT K T (vs ++ []) H1 Q E
    rw [List.append_nil]
    exact ⟨hid H1 M, F1, M, ds, P, PX, k1.call, r1, ht, fun d M' p v F' Γ2 σ2 H' k2 r => q v F' H' d M' (k1.back k2) (e1.trans k2.gf) r p, fun C M' p F' Γ2 σ2 H' k2 => hE C M' p F' Γ σ H' (k1.back k2)⟩
/-- a call that lets nothing out and leaves the cells -/
theorem evd_call {d : Dt} (ha : EvA K Γ M ta ds) (ht : T ds M (fun d' M' => d' = d ∧ M' = M) (fun _ _ => False)) : EvD K Γ M (tCall (spT K T) [] E ta) d := fun B G F σ H Q k q =>
  evx_call (B := B) (G := G) ha ht (fun _ _ p => p.elim) F σ H Q k fun v F' H' d' M' k' e r p => by
    obtain ⟨rfl, rfl⟩ := p
    exact q v F' H' k' e r
theorem evn_call {o : Ow} (ha : EvA K Γ M ta ds) (ht : T ds M (fun d' M' => ∃ a, d' = .ob a ∧ M' = (a, o) :: M) (fun _ _ => False)) : EvN K Γ M (tCall (spT K T) [] E ta) o := fun B G F σ H Q k q =>
  evx_call (B := B) (G := G) ha ht (fun _ _ p => p.elim) F σ H Q k fun v F' H' d' M' k' e r p => by
    obtain ⟨a, rfl, rfl⟩ := p
    cases r
    exact q a F' H' k' e
/-! methods of own classes -/
theorem evx_meth {C : Addr} {m : Str} {fs : List (Str × Dt)} {to : TE} (ho : EvD K Γ M to (.inst C fs)) (hm : fs.lookup m = none) (ha : EvA K Γ M ta ds) (ht : T (.inst C fs :: ds) M P PX) (hE : ∀ C M', PX C M' → Xt K B G C M' E) : EvX K B G Γ M (tMeth C m (spT K T) [] E to ta) P := fun F σ H Q k q =>
  ho B G F σ H _ k fun v F0 H0 k0 e0 r0 => by
    cases r0 with | inst h t =>
    refine ⟨_, _, _, rfl, k0.fh _ _ h, t.none hm, ha B G F0 σ H0 _ k0 fun vs F1 H1 k1 e1 r1 => ?_⟩
    show spT K T (_ :: (vs ++ [])) H1 Q E
    rw [List.append_nil]
    exact ⟨hid H1 M, F1, M, .inst C fs :: ds, P, PX, k1.call, .cons ((Rep.inst h t).mono e1) r1, ht, fun d M' p v F' Γ2 σ2 H' k2 r => q v F' H' d M' (k1.back k2) (e0.trans (e1.trans k2.gf)) r p, fun C M' p F' Γ2 σ2 H' k2 => hE C M' p F' Γ σ H' (k1.back k2)⟩
theorem evd_meth {C : Addr} {m : Str} {fs : List (Str × Dt)} {to : TE} {d : Dt} (ho : EvD K Γ M to (.inst C fs)) (hm : fs.lookup m = none) (ha : EvA K Γ M ta ds) (ht : T (.inst C fs :: ds) M (fun d' M' => d' = d ∧ M' = M) (fun _ _ => False)) : EvD K Γ M (tMeth C m (spT K T) [] E to ta) d := fun B G F σ H Q k q =>
  evx_meth (B := B) (G := G) ho hm ha ht (fun _ _ p => p.elim) F σ H Q k fun v F' H' d' M' k' e r p => by
    obtain ⟨rfl, rfl⟩ := p
    exact q v F' H' k' e r
theorem evn_meth {C : Addr} {m : Str} {fs : List (Str × Dt)} {to : TE} {o : Ow} (ho : EvD K Γ M to (.inst C fs)) (hm : fs.lookup m = none) (ha : EvA K Γ M ta ds) (ht : T (.inst C fs :: ds) M (fun d' M' => ∃ a, d' = .ob a ∧ M' = (a, o) :: M) (fun _ _ => False)) : EvN K Γ M (tMeth C m (spT K T) [] E to ta) o := fun B G F σ H Q k q =>
  evx_meth (B := B) (G := G) ho hm ha ht (fun _ _ p => p.elim) F σ H Q k fun v F' H' d' M' k' e r p => by
    obtain ⟨a, rfl, rfl⟩ := p
    cases r
    exact q a F' H' k' e
/-- an attribute -/
theorem ed_fld {C : Addr} {f : Str} {fs : List (Str × Dt)} {to : TE} {d : Dt} (ho : EvD K Γ M to (.inst C fs)) (hc : Cls K C) (hn : NoAttr K C f) (hl : fs.lookup f = some d) : EvD K Γ M (tFld K to f) d := fun B G F σ H Q k q =>
  ho B G F σ H _ k fun v F0 H0 k0 e0 r0 => by
    cases r0 with | inst h t =>
    obtain ⟨v, hv, rv⟩ := t.look hl
    exact ⟨_, _, _, _, v, rfl, k0.fh _ _ h, hc, hn, hv, q v F0 H0 k0 e0 rv⟩

/-! ### calls that see through the cells -/
mutual
def clD : Dt → Bool
  | .lst _ => false
  | .dct _ => false
  | .lsr _ => false
  | .inst _ _ => false
  | .tup ds => clDs ds
  | _ => true
def clDs : List Dt → Bool
  | [] => true
  | d :: ds => clD d && clDs ds
end
mutual
theorem Rep.clean (ne : ∀ a xs, F a = some (.tup xs) → F' a = some (.tup xs)) : ∀ {v : V} {d : Dt}, Rep K F v d → clD d = true → Rep K F' v d
  | _, _, .non, _ => .non
  | _, _, .bl, _ => .bl
  | _, _, .int, _ => .int
  | _, _, .str, _ => .str
  | _, _, .lst _ _, h => by cases h
  | _, _, .tup h r, c => .tup (ne _ _ h) (Reps.clean ne r c)
  | _, _, .dct _ _, h => by cases h
  | _, _, .lsr _ _, h => by cases h
  | _, _, .ob, _ => .ob
  | _, _, .ty, _ => .ty
  | _, _, .inst _ _, h => by cases h
theorem Reps.clean (ne : ∀ a xs, F a = some (.tup xs) → F' a = some (.tup xs)) : ∀ {vs : List V} {ds : List Dt}, Reps K F vs ds → clDs ds = true → Reps K F' vs ds
  | _, _, .nil, _ => .nil
  | _, _, .cons (d := d) (ds := ds) r t, h => by
    have h' : (clD d && clDs ds) = true := h
    rw [Bool.and_eq_true_iff] at h'
    exact .cons (Rep.clean ne r h'.1) (Reps.clean ne t h'.2)
end
def clO : Ow → Bool
  | .lst ds => clDs ds
  | .dct _ => false
theorem OwAt.clean {a : Addr} {o : Ow} (ne : ∀ a xs, F a = some (.tup xs) → F' a = some (.tup xs)) (h : OwAt K F H a o) (c : clO o = true) : OwAt K F' H a o := by
  cases o with
  | lst ds => obtain ⟨xs, e, r⟩ := h; exact ⟨xs, e, r.clean ne c⟩
  | dct ds => cases c
/-- what a callee starts from that sees the cells as frozen -/
theorem Ok.callV (k : Ok K B G F Γ M σ H) : Ok K H (withC F H M) (withC F H M) [] [] [] H :=
  ⟨k.exC2, Ex.refl _, Ex.refl H, fun _ _ => rfl, rfl, fun i d e => by simp at e, fun p hp => absurd hp (by simp), List.nodup_nil⟩
theorem cell_kind {a : Addr} {o : Ow} (h : OwAt K F H a o) : ∀ xs, H a ≠ some (.tup xs) := fun xs e => by
  cases o with
  | lst ds => obtain ⟨ys, e1, _⟩ := h; rw [e] at e1; cases e1
  | dct ds => obtain ⟨ys, e1, _⟩ := h; rw [e] at e1; cases e1
theorem Ok.backV {Γ2 : Gm} {σ2 : L2.St} (k : Ok K B G F Γ M σ H) (k2 : Ok K H (withC F H M) F' Γ2 M' σ2 H') (hc : ∀ p ∈ M', clO p.2 = true) :
    Ok K B G (hid F' M) Γ (M' ++ M) σ H' ∧ Ex F (hid F' M) ∧ ∀ v d, Rep K F' v d → clD d = true → Rep K (hid F' M) v d := by
  have cellH : ∀ p ∈ M, H p.1 ≠ none := fun p hp z => by
    obtain ⟨u, hu⟩ := (k.cel p hp).2.2.there
    rw [z] at hu; cases hu
  have exF : Ex F (hid F' M) := fun a o e => by
    rw [hid_ne fun m => ?_]
    · exact k2.gf a o (k.exC a o e)
    · obtain ⟨p, hp, rfl⟩ := List.mem_map.mp m
      rw [(k.cel p hp).1] at e; cases e
  have tupF : ∀ a xs, F' a = some (.tup xs) → hid F' M a = some (.tup xs) := fun a xs e => by
    rw [hid_ne fun m => ?_]
    · exact e
    · obtain ⟨p, hp, rfl⟩ := List.mem_map.mp m
      have e1 := k2.nw p.1 (cellH p hp)
      rw [e] at e1
      obtain ⟨j, hj, ej⟩ := List.getElem_of_mem hp
      have e2 : withC F H M p.1 = H p.1 := withC_at (j := j) (o := p.2) (by rw [List.getElem?_eq_getElem hj, ej])
      exact cell_kind (k.cel p hp).2.2 xs (by rw [← e2, ← e1])
  refine ⟨⟨(hid_ex F' M).trans k2.fh, k.gf.trans exF, k.bh.trans k2.bh, fun a ha => ?_, k.len, fun i d e => let ⟨v, h1, r⟩ := k.env i d e; ⟨v, h1, r.mono exF⟩, fun p hp => ?_, ?_⟩, exF, fun v d r c => r.clean tupF c⟩
  · have hH : H a ≠ none := fun z => ha (ex_none k.bh z)
    have nm : a ∉ M.map (·.1) := fun m => by
      obtain ⟨p, hp, rfl⟩ := List.mem_map.mp m
      exact ha (k.cel p hp).2.1
    rw [hid_ne nm, k2.nw a hH]
    unfold withC
    rw [if_neg nm]
    exact k.nw a ha
  · rcases List.mem_append.mp hp with h | h
    · obtain ⟨c1, c2, c3⟩ := k2.cel p h
      refine ⟨ex_none (hid_ex F' M) c1, ex_none k.bh c2, OwAt.clean (o := p.2) tupF c3 (hc p h)⟩
    · obtain ⟨c1, c2, c3⟩ := k.cel p h
      refine ⟨hid_at (List.mem_map.mpr ⟨p, h, rfl⟩), c2, c3.mono exF ?_⟩
      obtain ⟨u, hu⟩ := c3.there
      rw [hu]; exact k2.bh _ _ hu
  · rw [List.map_append]
    refine List.nodup_append.mpr ⟨k2.nd, k.nd, fun a ha b hb e => ?_⟩
    subst e
    obtain ⟨p, hp, e1⟩ := List.mem_map.mp ha
    obtain ⟨q, hq, e2⟩ := List.mem_map.mp hb
    have := (k2.cel p hp).2.1
    rw [e1, ← e2] at this
    exact cellH q hq this
/-- a call whose arguments are seen with the cells within -/
theorem evx_callV {R : Dt → Sto → Prop} (ha : EvA K Γ M ta ds) (hs : SeesL M ds ds') (ht : T ds' [] R (fun _ _ => False)) (hR : ∀ d M', R d M' → clD d = true ∧ (∀ p ∈ M', clO p.2 = true) ∧ P d (M' ++ M)) : EvX K B G Γ M (tCall (spT K T) [] E ta) P := fun F σ H Q k q =>
  ha B G F σ H _ k fun vs F1 H1 k1 e1 r1 => by
    show spT K T (vs ++ []) H1 Q E
    rw [List.append_nil]
    refine ⟨H1, withC F1 H1 M, [], ds', R, fun _ _ => False, k1.callV, hs.rep k1 (r1.mono k1.exC), ht, fun d M' p v F' Γ2 σ2 H' k2 r => ?_, fun _ _ z => z.elim⟩
    obtain ⟨c1, c2, c3⟩ := hR d M' p
    obtain ⟨k3, e3, g⟩ := k1.backV k2 c2
    exact q v _ H' d _ k3 (e1.trans e3) (g v d r c1) c3
theorem evd_callV {d : Dt} (ha : EvA K Γ M ta ds) (hs : SeesL M ds ds') (ht : T ds' [] (fun d' M' => d' = d ∧ M' = []) (fun _ _ => False)) (hc : clD d = true) : EvD K Γ M (tCall (spT K T) [] E ta) d := fun B G F σ H Q k q =>
  evx_callV (B := B) (G := G) (P := fun d' M' => d' = d ∧ M' = M) ha hs ht (fun d' M' ⟨e1, e2⟩ => by subst e1 e2; exact ⟨hc, fun p hp => absurd hp (by simp), rfl, rfl⟩) F σ H Q k fun v F' H' d' M' k' e r p => by
    obtain ⟨rfl, rfl⟩ := p
    exact q v F' H' k' e r
theorem evn_callV {o : Ow} (ha : EvA K Γ M ta ds) (hs : SeesL M ds ds') (ht : T ds' [] (fun d' M' => ∃ a, d' = .ob a ∧ M' = [(a, o)]) (fun _ _ => False)) (hc : clO o = true) : EvN K Γ M (tCall (spT K T) [] E ta) o := fun B G F σ H Q k q =>
  evx_callV (B := B) (G := G) (P := fun d' M' => ∃ a, d' = .ob a ∧ M' = (a, o) :: M) ha hs ht (fun d' M' ⟨a, e1, e2⟩ => by subst e1 e2; exact ⟨rfl, fun p hp => by rw [List.mem_singleton.mp hp]; exact hc, a, rfl, rfl⟩) F σ H Q k fun v F' H' d' M' k' e r p => by
    obtain ⟨a, rfl, rfl⟩ := p
    cases r
    exact q a F' H' k' e
theorem evx_methV {C : Addr} {m : Str} {fs : List (Str × Dt)} {to : TE} {R : Dt → Sto → Prop} {o' : Dt} (ho : EvD K Γ M to (.inst C fs)) (hm : fs.lookup m = none) (ha : EvA K Γ M ta ds) (hs : SeesL M (.inst C fs :: ds) ds') (ht : T ds' [] R (fun _ _ => False)) (hR : ∀ d M', R d M' → clD d = true ∧ (∀ p ∈ M', clO p.2 = true) ∧ P d (M' ++ M)) : EvX K B G Γ M (tMeth C m (spT K T) [] E to ta) P := fun F σ H Q k q =>
  ho B G F σ H _ k fun v F0 H0 k0 e0 r0 => by
    cases r0 with | inst h t =>
    refine ⟨_, _, _, rfl, k0.fh _ _ h, t.none hm, ha B G F0 σ H0 _ k0 fun vs F1 H1 k1 e1 r1 => ?_⟩
    show spT K T (_ :: (vs ++ [])) H1 Q E
    rw [List.append_nil]
    refine ⟨H1, withC F1 H1 M, [], ds', R, fun _ _ => False, k1.callV, hs.rep k1 ((Reps.cons ((Rep.inst h t).mono e1) r1).mono k1.exC), ht, fun d M' p v F' Γ2 σ2 H' k2 r => ?_, fun _ _ z => z.elim⟩
    obtain ⟨c1, c2, c3⟩ := hR d M' p
    obtain ⟨k3, e3, g⟩ := k1.backV k2 c2
    exact q v _ H' d _ k3 (e0.trans (e1.trans e3)) (g v d r c1) c3
end

/-! ### a def keeps its promise -/
theorem start_env {K : PySem.W.Frag} {G : Hp} {N : List Str} {vs : List V} {ds : List Dt} (r : Reps K G vs ds) (hl : ds.length ≤ N.length) : (startG N ds).length = (L2.start N vs).length ∧ ∀ (i : Nat) (d : Dt), (startG N ds)[i]? = some (some d) → ∃ v, (L2.start N vs)[i]? = some (some v) ∧ Rep K G v d := by
  have e := r.length
  refine ⟨by simp [startG, L2.start, e], fun i d h => ?_⟩
  unfold startG at h
  unfold L2.start
  by_cases hi : i < ds.length
  · rw [List.getElem?_append_left (by simpa using hi), List.getElem?_map] at h
    obtain ⟨d', h1, h2⟩ := Option.map_eq_some_iff.mp h
    cases h2
    obtain ⟨v, h3, h4⟩ := r.get h1
    exact ⟨v, by rw [List.getElem?_append_left (by simpa [e] using hi), List.getElem?_map, h3]; rfl, h4⟩
  · rw [List.getElem?_append_right (by simpa using Nat.le_of_not_lt hi), List.getElem?_replicate] at h
    split at h <;> cases h
section
variable {P : Program} {w : World} {K : PySem.W.Frag} {mg : Str → Option Value} {base : Heap}
theorem fnT {x qual : Str} {st : Stmt} {f : Addr} {fd : FuncData} {N ps : List Str} {k : Nat} {T : TmV} (F : FunD K x qual (defArgs st) (defBody st) (defScope st) [] [] f fd) (S : FnScope N ps (defScope st)) (hN : ps.length ≤ N.length)
    (hlen : ∀ ds M R X, T ds M R X → ds.length = ps.length)
    (hbody : ∀ (cdv : Value) (A : Around) (outer : List Env) (s : Shared) (H : Hp) (E : XK), Room k (A.deeper (envOfC qual (defScope st) s.heap.objs.size f cdv)) →
      ∃ t, PSs (cxOf (L2.CX P w) P w K mg base N qual (defScope st) f cdv A outer s H E) (defBody st) t ∧
        ∀ B G ds M R X Q, T ds M R X → (∀ d M', R d M' → Rt K B G d M' Q) → (∀ C M', X C M' → Xt K B G C M' E) → At K B G (startG N ds) M (t { nx := fun _ H' => Q .non H', rt := Q })) :
    FnOk P w K mg base (L2.CX P w) (k + 1) f fd ps (spT K T) := by
  refine FunD.ok F S (fun vs H Q E h => ?_) fun cdv A outer s H vs Q E hr h => ?_
  · obtain ⟨B, G, M, ds, R, X, _, r, t, _⟩ := h
    rw [r.length]; exact hlen ds M R X t
  · obtain ⟨t, h1, h2⟩ := hbody cdv A outer s H E hr
    obtain ⟨B, G, M, ds, R, X, ok, r, tt, q1, q2⟩ := h
    refine ⟨t, h1, h2 B G ds M R X Q tt q1 q2 G _ H ?_⟩
    obtain ⟨s1, s2⟩ := start_env (N := N) r (by rw [hlen ds M R X tt]; exact hN)
    exact ⟨ok.fh, ok.gf, ok.bh, ok.nw, s1, s2, ok.cel, ok.nd⟩
end
end Vl
namespace Vl
open PySem PySem.Spec PyProof.Rows L2 Evl

/-! ### comprehensions -/
section
variable {K : PySem.W.Frag} {B G F F' F1 H H' : Hp} {Γ Γ' : Gm} {M M' : Sto} {σ : L2.St} {te ta tl : TE} {tt : TT} {j : Nat} {Dl : Addr}
structure LcI (K : PySem.W.Frag) (B G F1 : Hp) (Γ : Gm) (M : Sto) (σ : L2.St) (Dl : Addr) (ds : List Dt) (H : Hp) : Prop where
  ex : ∃ F acc, Ok K B G F Γ M σ H ∧ Ex F1 F ∧ H Dl = some (.lst acc) ∧ F Dl = none ∧ Reps K F acc ds
  nm : Dl ∉ M.map (·.1)
  nb : B Dl = none
open Classical in
/-- a value read while the new list at Dl is hidden -/
theorem lc_hide (k : Ok K B G F Γ M σ H) (hf : F Dl = none) (nm : Dl ∉ M.map (·.1)) : Ok K (fun a => if a = Dl then H Dl else B a) G F Γ M σ H where
  fh := k.fh
  gf := k.gf
  bh := fun a o e => by
    by_cases h : a = Dl
    · subst h; simpa using e
    · exact k.bh a o (by simpa [h] using e)
  nw := fun a ha => by
    by_cases h : a = Dl
    · subst h; rw [hf]; exact (ex_none k.gf hf).symm
    · exact k.nw a (by simpa [h] using ha)
  len := k.len
  env := k.env
  cel := fun p hp => by
    obtain ⟨c1, c2, c3⟩ := k.cel p hp
    have ne : p.1 ≠ Dl := fun e => nm (List.mem_map.mpr ⟨p, hp, e⟩)
    exact ⟨c1, by simpa [ne] using c2, c3⟩
  nd := k.nd
open Classical in
theorem lc_show {Γ2 : Gm} {σ2 : L2.St} (k0 : Ok K B G F Γ M σ H) (nb : B Dl = none) (k : Ok K (fun a => if a = Dl then H Dl else B a) G F' Γ2 M σ2 H') (e : Ex F F') (hf : F Dl = none) (u : HO) (hu : H Dl = some u) : Ok K B G F' Γ M σ H' ∧ H' Dl = some u ∧ F' Dl = none := by
  have hB : Ex B H' := fun a o e => k.bh a o (by
    have : a ≠ Dl := fun z => by rw [z, nb] at e; cases e
    simpa [this] using e)
  refine ⟨⟨k.fh, k.gf, hB, fun a ha => ?_, k0.len, fun i d h => let ⟨v, h1, r⟩ := k0.env i d h; ⟨v, h1, r.mono e⟩, fun p hp => ?_, k.nd⟩, k.bh Dl u (by simpa using hu), ?_⟩
  · have : a ≠ Dl := fun z => ha (by rw [z]; exact nb)
    exact k.nw a (by simpa [this] using ha)
  · obtain ⟨c1, c2, c3⟩ := k.cel p hp
    exact ⟨c1, (k0.cel p hp).2.1, c3⟩
  · have := k.nw Dl (by simp [hu])
    rw [this]; exact ex_none k.gf (by
      cases q : F' Dl with
      | none => rfl
      | some o => rw [this] at q; rw [k0.gf Dl o q] at hf; cases hf)
theorem lc_turn {v : V} {d r : Dt} {b : Bool} {ds : List Dt} {F2 : Hp} (I2 : LcI K B G F2 Γ M σ Dl ds H) (e0 : Ex F1 F2) (rv : Rep K F2 v d) (hz : ds.length < 10000000)
    (ht : EvT K (Γ.set j (some d)) M tt b) (he : b = true → EvD K (Γ.set j (some d)) M te r) :
    tt (σ.set j (some v)) H fun b' H3 => if b' = true then te (σ.set j (some v)) H3 fun y H4 => ∃ acc, H4 Dl = some (.lst acc) ∧ acc.length < sizeLine ∧ LcI K B G F1 Γ M σ Dl (if b = true then ds ++ [r] else ds) (upd H4 Dl (.lst (acc ++ [y]))) else LcI K B G F1 Γ M σ Dl (if b = true then ds ++ [r] else ds) H3 := by
  obtain ⟨⟨F, acc, k, e1, hD, hf, ra⟩, nm, nb⟩ := I2
  refine ht _ G F _ H _ (lc_hide (k.setS (rv.mono e1)) hf nm) fun F2 H2 k2 e2 => ?_
  obtain ⟨k3, hD2, hf2⟩ := lc_show k nb k2 e2 hf _ hD
  cases b with
  | false => exact ⟨⟨F2, acc, k3, e0.trans (e1.trans e2), hD2, hf2, ra.mono e2⟩, nm, nb⟩
  | true =>
    show te _ _ _
    refine he rfl _ G F2 _ H2 _ (lc_hide (k3.setS (rv.mono (e1.trans e2))) hf2 nm) fun y F4 H4 k4 e4 ry => ?_
    obtain ⟨k5, hD4, hf4⟩ := lc_show k3 nb k4 e4 hf2 _ hD2
    refine ⟨acc, hD4, sz_lt (ra.length ▸ hz), ⟨F4, acc ++ [y], ⟨Ex.mut k5.fh hf4, k5.gf, Ex.mut k5.bh nb, k5.nw, k5.len, k5.env, fun p hp => ?_, k5.nd⟩, e0.trans (e1.trans (e2.trans e4)), upd_same, hf4, (ra.mono (e2.trans e4)).append (.cons ry .nil)⟩, nm, nb⟩
    obtain ⟨c1, c2, c3⟩ := k5.cel p hp
    exact ⟨c1, c2, c3.mono (Ex.refl _) (upd_ne fun z => nm (List.mem_map.mpr ⟨p, hp, z⟩))⟩
theorem lc_start (k : Ok K B G F1 Γ M σ H) (h : H Dl = none) : LcI K B G F1 Γ M σ Dl [] (upd H Dl (.lst [])) := by
  have nm : Dl ∉ M.map (·.1) := fun m => by
    obtain ⟨p, hp, e⟩ := List.mem_map.mp m
    exact k.ne_cell h p hp e
  exact ⟨⟨F1, [], ⟨Ex.mut k.fh (ex_none k.fh h), k.gf, Ex.mut k.bh (ex_none k.bh h), k.nw, k.len, k.env, fun p hp => let ⟨c1, c2, c3⟩ := k.cel p hp; ⟨c1, c2, c3.mono (Ex.refl _) (upd_ne (k.ne_cell h p hp))⟩, k.nd⟩, Ex.refl _, upd_same, ex_none k.fh h, .nil⟩, nm, ex_none k.bh h⟩
theorem lc_end {ds : List Dt} (I : LcI K B G F1 Γ M σ Dl ds H) : ∃ F, Ok K B G F Γ ((Dl, .lst ds) :: M) σ H ∧ Ex F1 F := by
  obtain ⟨⟨F, acc, k, e1, hD, hf, ra⟩, nm, nb⟩ := I
  refine ⟨F, ⟨k.fh, k.gf, k.bh, k.nw, k.len, k.env, fun p hp => ?_, ?_⟩, e1⟩
  · rcases List.mem_cons.mp hp with rfl | hp
    · exact ⟨hf, nb, acc, hD, ra⟩
    · exact k.cel p hp
  · rw [List.map_cons]; exact List.nodup_cons.mpr ⟨nm, k.nd⟩
theorem wipe1 {x : V} : wipe ((wipe σ [j]).set j (some x)) [j] = wipe σ [j] := by
  show ((σ.set j none).set j (some x)).set j none = σ.set j none
  rw [List.set_set, List.set_set]
theorem wipe1s {x : V} : (wipe σ [j]).set j (some x) = σ.set j (some x) := by
  show (σ.set j none).set j (some x) = _
  rw [List.set_set]
def outL {α : Type} (p : α → Bool) (h : α → Dt) (xs : List α) : List Dt := (xs.filter p).map h
theorem outL_take {α : Type} {p : α → Bool} {h : α → Dt} {xs : List α} {i : Nat} {x : α} (hx : xs[i]? = some x) : outL p h (xs.take (i + 1)) = if p x = true then outL p h (xs.take i) ++ [h x] else outL p h (xs.take i) := by
  unfold outL
  rw [List.take_add_one, hx, Option.toList_some, List.filter_append, List.map_append]
  by_cases hp : p x = true
  · rw [if_pos hp, List.filter_cons, if_pos hp]; rfl
  · rw [if_neg hp, List.filter_cons, if_neg hp]; simp
theorem outL_len {α : Type} {p : α → Bool} {h : α → Dt} {xs : List α} : (outL p h xs).length ≤ xs.length := by
  unfold outL; rw [List.length_map]; exact List.length_filter_le _ _
theorem LcI.less {F2 : Hp} {ds : List Dt} (I : LcI K B G F2 Γ M σ Dl ds H) (e : Ex F1 F2) : LcI K B G F1 Γ M σ Dl ds H :=
  ⟨let ⟨F, acc, k, e1, r⟩ := I.ex; ⟨F, acc, k, e.trans e1, r⟩, I.nm, I.nb⟩
/-- over a list, frozen or in a cell, or the script -/
theorem en_lc {α : Type} (xs : List α) (g : α → Dt) (p : α → Bool) (h : α → Dt) {x0 : Dt} (hd : EvD K Γ M tl x0) (hl : Lst M x0 (xs.map g) ∨ x0 = .lsr (xs.map g)) (hz : xs.length ≤ 10000000)
    (he : ∀ (i : Nat) (x : α), xs[i]? = some x → EvT K (Γ.set j (some (g x))) M tt (p x) ∧ (p x = true → EvD K (Γ.set j (some (g x))) M te (h x))) :
    EvN K Γ M (tLc (iSeqU K tl) (gName j) tt te [j]) (.lst (outL p h xs)) := fun B G F σ H Q k q => hd B G F σ H _ k fun v F1 H1 k1 e1 r1 => by
  obtain ⟨a, rfl, src⟩ : ∃ a, v = .ref a ∧ ∀ H' F2, Ok K B G F2 Γ M σ H' → Ex F1 F2 → ∃ ys, SqL K H' a ys ∧ Reps K F2 ys (xs.map g) := by
    rcases hl with hl | hl
    · cases hl with
      | frz => cases r1 with | lst e t => exact ⟨_, rfl, fun H' F2 k2 e2 => ⟨_, SqL.of (k2.fh _ _ (e2 _ _ e)), t.mono e2⟩⟩
      | own hj =>
        cases r1
        exact ⟨_, rfl, fun H' F2 k2 e2 => let ⟨_, _, ys, e, t⟩ := k2.at_ hj; ⟨ys, SqL.of e, t⟩⟩
    · subst hl
      cases r1 with | lsr e t => exact ⟨_, rfl, fun H' F2 k2 e2 => ⟨_, ex_l k2.fh (ex_l e2 e), t.mono e2⟩⟩
  obtain ⟨ys1, hS1, rs1⟩ := src H1 F1 k1 (Ex.refl _)
  refine .inl ⟨a, rfl, ⟨ys1, hS1⟩, fun Dl hD => ⟨fun i m H' => m = xs.length - i ∧ i ≤ xs.length ∧ LcI K B G F1 Γ M σ Dl (outL p h (xs.take i)) H', ⟨xs.length, by simp, Nat.zero_le _, by simpa [outL] using lc_start k1 hD⟩, ?_⟩⟩
  rintro i m H' ⟨rfl, hi, I⟩
  obtain ⟨⟨F2, acc, k2, e2, hD2, hf2, ra⟩, nm, nb⟩ := id I
  obtain ⟨ys, hS, rs⟩ := src H' F2 k2 e2
  have hlen : ys.length = xs.length := by rw [rs.length, List.length_map]
  by_cases hlt : i < xs.length
  · refine .inr ⟨⟨ys, ys[i]'(by omega), hS, by simp⟩, fun H3 => LcI K B G F1 Γ M σ Dl (outL p h (xs.take (i + 1))) H3, fun H3 I3 => ⟨xs.length - (i + 1), by omega, rfl, hlt, I3⟩, fun y H3 hy => ?_⟩
    obtain ⟨rfl, hy⟩ := hy
    obtain ⟨d, hd', rd⟩ := rs.getV (hy ys hS)
    rw [List.getElem?_map] at hd'
    obtain ⟨x, hx, rfl⟩ := Option.map_eq_some_iff.mp hd'
    obtain ⟨t1, t2⟩ := he i x hx
    refine ⟨wipe1, ?_⟩
    rw [wipe1s, outL_take hx]
    have hlt2 : (outL p h (xs.take i)).length < 10000000 := by
      have h1 := outL_len (p := p) (h := h) (xs := xs.take i)
      have h2 := (List.getElem?_eq_some_iff.mp hx).1
      rw [List.length_take] at h1
      omega
    have I2 : LcI K B G F2 Γ M σ Dl (outL p h (xs.take i)) H3 := ⟨⟨F2, acc, k2, Ex.refl _, hD2, hf2, ra⟩, nm, nb⟩
    exact lc_turn I2 e2 rd hlt2 t1 t2
  · have e : i = xs.length := by omega
    subst e
    obtain ⟨F3, k3, e3⟩ := lc_end I
    rw [List.take_length] at k3
    exact .inl ⟨⟨ys, hS, by omega⟩, q Dl F3 H' k3 (e1.trans e3)⟩
end
end Vl
namespace Vl
open PySem PySem.Spec PyProof.Rows L2 Evl

section
variable {K : PySem.W.Frag} {B G F F' F1 H H' : Hp} {Γ Γ' : Gm} {M M' : Sto} {σ : L2.St} {te ta tb tl td ty tx : TE} {tq : TA} {tt : TT} {j : Nat} {Dl : Addr} {d x y z : Dt} {b : Bool}
theorem et_yes : EvT K Γ M tYes true := fun B G F σ H Q k q => q F H k (Ex.refl F)
theorem ed_ty {n : String} : EvD K Γ M (tC (.ty n)) (.ty n) := fun _ _ F _ H _ k q => q _ F H k (Ex.refl F) .ty
theorem ed_cls {a : Addr} : EvD K Γ M (tC (.ref a)) (.ob a) := fun _ _ F _ H _ k q => q _ F H k (Ex.refl F) .ob
theorem ed_isN (h : EvD K Γ M ta d) : EvD K Γ M (tIsN ta) (.bl d.isNon) := fun B G F σ H Q k q => h B G F σ H _ k fun v F1 H1 k1 e1 r1 => q _ F1 H1 k1 e1 (by rw [r1.isNon]; exact .bl)
theorem ed_notN (h : EvD K Γ M ta d) : EvD K Γ M (tNotN ta) (.bl (!d.isNon)) := fun B G F σ H Q k q => h B G F σ H _ k fun v F1 H1 k1 e1 r1 => q _ F1 H1 k1 e1 (by rw [r1.isNon]; exact .bl)
/-- a < b < c -/
theorem ed_chain {r r' : R2} {tc : TE} {w : Dt} {b1 b2 : Bool} (ha : EvD K Γ M ta x) (hb : EvD K Γ M tb y) (hr : Op2 K M r x y (.bl b1)) (hc : b1 = true → EvD K Γ M tc w) (hr' : b1 = true → Op2 K M r' y w (.bl b2)) : EvD K Γ M (tChain r r' ta tb tc) (.bl (b1 && b2)) := fun B G F σ H Q k q =>
  ha B G F σ H _ k fun u F1 H1 k1 e1 r1 => hb B G F1 σ H1 _ k1 fun w F2 H2 k2 e2 r2 => hr B G F2 Γ σ H2 u w _ k2 (r1.mono e2) r2 fun v F3 H3 k3 e3 r3 => by
    cases r3
    refine ⟨b1, rfl, ?_⟩
    cases b1 with
    | false => exact q _ F3 H3 k3 (e1.trans (e2.trans e3)) .bl
    | true =>
      exact hc rfl B G F3 σ H3 _ k3 fun v4 F4 H4 k4 e4 r4 => hr' rfl B G F4 Γ σ H4 w v4 Q k4 (r2.mono (e3.trans e4)) r4 fun v F5 H5 k5 e5 r5 => q v F5 H5 k5 (e1.trans (e2.trans (e3.trans (e4.trans e5)))) r5
/-! numbers, texts -/
def rIntI : List V → Hp → VK → Prop := fun xs H Q => (∃ i, xs = [.int i] ∧ Q (.int i) H) ∨ ∃ k, xs = [.bl k] ∧ Q (.int (if k then 1 else 0)) H
def rIntS : List V → Hp → VK → Prop := fun xs H Q => ∃ a n, xs = [.str a] ∧ PySem.intText? a = some n ∧ a.length ≤ 640 ∧ Q (.int n) H
def rIntU : List V → Hp → VK → Prop := fun xs H Q => rIntI xs H Q ∨ rIntS xs H Q
theorem call_intU {X : Cx} : CallR X (.type "int") rIntU := (show CallR X _ rIntI from call_int1).or (show CallR X _ rIntS from call_int_str)
def rStrI : List V → Hp → VK → Prop := fun xs H Q => ∃ i, xs = [.int i] ∧ i.natAbs.log2 < 1920 ∧ Q (.str (toString i)) H
theorem call_strI {X : Cx} : CallR X (.type "str") rStrI := call_str_int
theorem c_intB : OpC K M rIntU [.bl b] (.int (if b = true then 1 else 0)) := opc_l fun B G F Γ σ H u Q k r1 q => by
  obtain ⟨v, rfl, r⟩ := r1.one
  cases r
  exact .inr ⟨b, rfl, q _ F H k (Ex.refl F) .int⟩
theorem c_intS {s : Str} {n : Int} (h : PySem.intText? s = some n) (hl : s.length ≤ 640) : OpC K M rIntU [.str s] (.int n) := opc_r fun B G F Γ σ H u Q k r1 q => by
  obtain ⟨v, rfl, r⟩ := r1.one
  cases r
  exact ⟨s, n, rfl, h, hl, q _ F H k (Ex.refl F) .int⟩
theorem c_strI {i : Int} (h : i.natAbs.log2 < 1920) : OpC K M rStrI [.int i] (.str (toString i)) := fun B G F Γ σ H u Q k r1 q => by
  obtain ⟨v, rfl, r⟩ := r1.one
  cases r
  exact ⟨i, rfl, h, q _ F H k (Ex.refl F) .str⟩
theorem c_all {bs : List Bool} (l : Lst M x (bs.map Dt.bl)) : OpC K M (rAll K) [x] (.bl (bs.all id)) := fun B G F Γ σ H u Q k r1 q => by
  obtain ⟨v, rfl, r⟩ := r1.one
  obtain ⟨a, xs, rfl, h1, t1⟩ := l.at_ k r
  rw [t1.of_bls] at h1
  exact ⟨a, bs, rfl, SqL.of h1, q _ F H k (Ex.refl F) .bl⟩
theorem c_sum {ns : List Int} (l : Lst M x (ns.map Dt.int)) : OpC K M (rSum K) [x] (.int ns.sum) := fun B G F Γ σ H u Q k r1 q => by
  obtain ⟨v, rfl, r⟩ := r1.one
  obtain ⟨a, xs, rfl, h1, t1⟩ := l.at_ k r
  rw [t1.of_ints] at h1
  exact ⟨a, ns, rfl, SqL.of h1, q _ F H k (Ex.refl F) .int⟩
def rListX (K : PySem.W.Frag) : List V → Hp → VK → Prop := fun xs H Q => ∃ p ys, xs = [.ref p] ∧ (SqL K H p ys ∨ SqT K H p ys) ∧ ∀ l, H l = none → Q (.ref l) (upd H l (.lst ys))
theorem call_listX {X : Cx} : CallR X (.type "list") (rListX X.K) := call_list_of
theorem c_list {ds : List Dt} (l : Lst M x ds) : OpCN K M (rListX K) [x] (.lst ds) := fun B G F Γ σ H u Q k r1 q => by
  obtain ⟨v, rfl, r⟩ := r1.one
  obtain ⟨a, xs, rfl, h1, t1⟩ := l.at_ k r
  exact ⟨a, xs, rfl, .inl (SqL.of h1), fun p hp => q p F _ (k.cell hp ⟨xs, upd_same, t1⟩) (Ex.refl F)⟩
theorem c_listT {ds : List Dt} : OpCN K M (rListX K) [.tup ds] (.lst ds) := fun B G F Γ σ H u Q k r1 q => by
  obtain ⟨v, rfl, r⟩ := r1.one
  cases r with | tup h1 t1 => exact ⟨_, _, rfl, .inr (SqT.of (k.fh _ _ h1)), fun p hp => q p F _ (k.cell hp ⟨_, upd_same, t1⟩) (Ex.refl F)⟩
def rMax2 : List V → Hp → VK → Prop := fun xs H Q => ∃ i j, xs = [.int i, .int j] ∧ Q (.int (if j > i then j else i)) H
def rMin2 : List V → Hp → VK → Prop := fun xs H Q => ∃ i j, xs = [.int i, .int j] ∧ Q (.int (if j < i then j else i)) H
theorem call_max2X {X : Cx} (hc : X.calm = true) : CallR X (.builtin "max") rMax2 := call_max2 hc
theorem call_min2X {X : Cx} (hc : X.calm = true) : CallR X (.builtin "min") rMin2 := call_min2 hc
theorem c_max2 {i j : Int} : OpC K M rMax2 [.int i, .int j] (.int (if j > i then j else i)) := fun B G F Γ σ H u Q k r1 q => by
  obtain ⟨v, w, rfl, r, r2⟩ := r1.two
  cases r; cases r2
  exact ⟨i, j, rfl, q _ F H k (Ex.refl F) .int⟩
theorem c_min2 {i j : Int} : OpC K M rMin2 [.int i, .int j] (.int (if j < i then j else i)) := fun B G F Γ σ H u Q k r1 q => by
  obtain ⟨v, w, rfl, r, r2⟩ := r1.two
  cases r; cases r2
  exact ⟨i, j, rfl, q _ F H k (Ex.refl F) .int⟩
/-! isinstance -/
def tyD : Dt → Option String
  | .non => some "NoneType"
  | .bl _ => some "bool"
  | .int _ => some "int"
  | .str _ => some "str"
  | .lst _ => some "list"
  | .tup _ => some "tuple"
  | .dct _ => some "dict"
  | _ => none
theorem Rep.tyx {v : V} {n : String} (r : Rep K H v d) (h : tyD d = some n) : TyX K H v (.type n) := by
  cases r with
  | non => cases h; exact .base .non
  | bl => cases h; exact .base (.bl _)
  | int => cases h; exact .base (.int _)
  | str => cases h; exact .base (.str _)
  | lst e _ => cases h; exact .base (.lst e)
  | tup e _ => cases h; exact .base (.tup e)
  | dct e _ => cases h; exact .base (.dK e)
  | _ => cases h
theorem c_isi {n m : String} {r : Bool} (h : tyD d = some n) (hk : kitB n m = some r) : OpC K M (rIsi K) [d, .ty m] (.bl r) := fun B G F Γ σ H u Q k r1 q => by
  obtain ⟨v, w, rfl, r, r2⟩ := r1.two
  cases r2
  exact ⟨v, .ty m, .type n, .type m, _, rfl, .ty m, (r.mono k.fh).tyx h, kit_ty hk, q _ F H k (Ex.refl F) .bl⟩
theorem c_isiL {ds : List Dt} {m : String} {r : Bool} (l : Lst M d ds) (hk : kitB "list" m = some r) : OpC K M (rIsi K) [d, .ty m] (.bl r) := fun B G F Γ σ H u Q k r1 q => by
  obtain ⟨v, w, rfl, r, r2⟩ := r1.two
  obtain ⟨a, xs, rfl, h1, t1⟩ := l.at_ k r
  cases r2
  exact ⟨.ref a, .ty m, .type "list", .type m, _, rfl, .ty m, .base (.lst h1), kit_ty hk, q _ F H k (Ex.refl F) .bl⟩
/-! parts of slices -/
def EvP (K : PySem.W.Frag) (Γ : Gm) (M : Sto) (t : TO) (o : Option Int) : Prop :=
  ∀ B G F σ H (Q : Option Int → Hp → Prop), Ok K B G F Γ M σ H → (∀ F' H', Ok K B G F' Γ M σ H' → Ex F F' → Q o H') → t σ H Q
theorem ep_none : EvP K Γ M tNoPart none := fun B G F σ H Q k q => q F H k (Ex.refl F)
theorem ep_some {i : Int} (h : EvD K Γ M te (.int i)) : EvP K Γ M (tPart te) (some i) := fun B G F σ H Q k q => h B G F σ H _ k fun v F1 H1 k1 e1 r1 => by
  cases r1; exact ⟨i, rfl, q F1 H1 k1 e1⟩
def cutD (ds : List Dt) (lo hi : Option Int) : List Dt := (ds.drop (HT.sIx ds.length 0 lo)).take (HT.sIx ds.length ds.length hi - HT.sIx ds.length 0 lo)
theorem Reps.cut {vs : List V} {ds : List Dt} (r : Reps K H vs ds) (lo hi : Option Int) : Reps K H (cutV vs lo hi) (cutD ds lo hi) := by
  unfold cutV cutD
  rw [r.length]
  exact (r.drop _).take _
def rSlU (K : PySem.W.Frag) : V → Option Int → Option Int → Hp → VK → Prop := fun x lo hi H Q => rSlL K x lo hi H Q ∨ (rSlS x lo hi H Q ∨ rSlA K x lo hi H Q)
theorem sl_U {X : Cx} : SlR X (rSlU X.K) := sl_list.or (sl_str.or sl_tupA)
theorem en_slL {ds : List Dt} {tlo thi : TO} {lo hi : Option Int} (he : EvD K Γ M te x) (l : Lst M x ds) (h1 : EvP K Γ M tlo lo) (h2 : EvP K Γ M thi hi) : EvN K Γ M (tSl (rSlU K) te tlo thi) (.lst (cutD ds lo hi)) := fun B G F σ H Q k q =>
  he B G F σ H _ k fun v F1 H1 k1 e1 r1 => h1 B G F1 σ H1 _ k1 fun F2 H2 k2 e2 => h2 B G F2 σ H2 _ k2 fun F3 H3 k3 e3 => by
    obtain ⟨a, xs, rfl, h, t⟩ := l.at_ k3 (r1.mono (e2.trans e3))
    exact .inl ⟨a, xs, rfl, SqL.of h, fun p hp => q p F3 _ (k3.cell hp ⟨_, upd_same, t.cut lo hi⟩) (e1.trans (e2.trans e3))⟩
theorem ed_slS {s : Str} {tlo thi : TO} {lo hi : Option Int} (he : EvD K Γ M te (.str s)) (hl : s.length ≤ 10000000) (h1 : EvP K Γ M tlo lo) (h2 : EvP K Γ M thi hi) : EvD K Γ M (tSl (rSlU K) te tlo thi) (.str (cutS s lo hi)) := fun B G F σ H Q k q =>
  he B G F σ H _ k fun v F1 H1 k1 e1 r1 => h1 B G F1 σ H1 _ k1 fun F2 H2 k2 e2 => h2 B G F2 σ H2 _ k2 fun F3 H3 k3 e3 => by
    cases r1
    exact .inr (.inl ⟨s, rfl, sz_le hl, q _ F3 H3 k3 (e1.trans (e2.trans e3)) .str⟩)
theorem en_rev {ds : List Dt} (he : EvD K Γ M te x) (l : Lst M x ds) : EvN K Γ M (tRevL K te) (.lst ds.reverse) := fun B G F σ H Q k q =>
  he B G F σ H _ k fun v F1 H1 k1 e1 r1 => by
    obtain ⟨a, xs, rfl, h, t⟩ := l.at_ k1 r1
    exact ⟨a, xs, rfl, SqL.of h, fun p hp => q p F1 _ (k1.cell hp ⟨_, upd_same, t.reverse⟩) e1⟩
/-! texts' methods -/
def rJoin (K : PySem.W.Frag) : V → List V → Hp → VK → Prop := fun x xs H Q => ∃ a p, ∃ ys : List Str, x = .str a ∧ xs = [.ref p] ∧ (SqL K H p (ys.map V.str) ∨ SqT K H p (ys.map V.str)) ∧
    (ys.map (·.length)).sum + ys.length * a.length ≤ 16777216 ∧ Q (.str (Txt.join a ys)) H
theorem mt_joinX {X : Cx} : MtR X "str.join" (rJoin X.K) := mt_join
theorem ed_join {s : Str} {ys : List Str} (ho : EvD K Γ M ta (.str s)) (he : EvD K Γ M te x) (l : Lst M x (ys.map Dt.str)) (hz : (ys.map (·.length)).sum + ys.length * s.length ≤ 10000000) : EvD K Γ M (tM1 (rJoin K) ta te) (.str (Txt.join s ys)) := fun B G F σ H Q k q =>
  ho B G F σ H _ k fun v F1 H1 k1 e1 r1 => by
    cases r1
    refine ⟨⟨s, rfl⟩, he B G F1 σ H1 _ k1 fun w F2 H2 k2 e2 r2 => ?_⟩
    obtain ⟨a, xs, rfl, h, t⟩ := l.at_ k2 r2
    rw [t.of_strs] at h
    exact ⟨s, a, ys, rfl, rfl, .inl (SqL.of h), Nat.le_trans hz (by decide), q _ F2 H2 k2 (e1.trans e2) .str⟩
/-! dicts' methods -/
theorem ed_get2 {kvs : List (Key × Dt)} {key : Key} {dd : Dt} (ho : EvD K Γ M td x) (l : Dct M x kvs) (hk : EvD K Γ M ty y) (ek : y = kD key) (hx : EvD K Γ M tx dd) : EvD K Γ M (tDGet2 td ty tx) ((valD kvs key).getD dd) := fun B G F σ H Q k q =>
  ho B G F σ H _ k fun v F1 H1 k1 e1 r1 => by
    subst ek
    obtain ⟨a, xs0, rfl, h0, t0⟩ := l.at_ k1 r1
    refine ⟨a, rfl, .inl ⟨_, .inl h0⟩, hk B G F1 σ H1 _ k1 fun w F2 H2 k2 e2 r2 => hx B G F2 σ H2 _ k2 fun u F3 H3 k3 e3 r3 => ?_⟩
    obtain ⟨a', xs, ea, h, t⟩ := l.at_ k3 (r1.mono (e2.trans e3))
    cases ea
    obtain rfl := r2.key
    refine ⟨valV xs key, DGet.k h, q _ F3 H3 k3 (e1.trans (e2.trans e3)) ?_⟩
    cases hv : valD kvs key with
    | none => rw [t.vno hv]; exact r3
    | some d' => obtain ⟨v', h1, r'⟩ := t.val hv; rw [h1]; exact r'
/-! comprehensions over ranges and texts -/
theorem en_lcR {n : Int} (p : Nat → Bool) (h : Nat → Dt) (hd : EvA K Γ M tq [.int n]) (hn : n ≤ 10000000)  (hn0 : -(2 ^ 62) ≤ n)
    (he : ∀ (i : Nat), (i : Int) < n → EvT K (Γ.set j (some (.int i))) M tt (p i) ∧ (p i = true → EvD K (Γ.set j (some (.int i))) M te (h i))) :
    EvN K Γ M (tLc (iRng1 tq) (gName j) tt te [j]) (.lst (outL p h (List.range n.toNat))) := fun B G F σ H Q k q => hd B G F σ H _ k fun vs F1 H1 k1 e1 r1 => by
  obtain ⟨v, rfl, r⟩ := r1.one
  cases r
  refine ⟨n, rfl, hn0, by omega, fun Dl hD => lc_range (lo := 0) (n := n.toNat) (fun i H' => LcI K B G F1 Γ M σ Dl (outL p h ((List.range n.toNat).take i)) H') (by simpa [outL] using lc_start k1 hD) (fun i H' hi I => ?_) (fun H' I => ?_)⟩
  · rw [Int.zero_add]
    obtain ⟨t1, t2⟩ := he i (by omega)
    have hx : (List.range n.toNat)[i]? = some i := by simp [hi]
    refine ⟨wipe1, ?_⟩
    rw [wipe1s, outL_take hx]
    have hlt2 : (outL p h ((List.range n.toNat).take i)).length < 10000000 := by
      have h1 := outL_len (p := p) (h := h) (xs := (List.range n.toNat).take i)
      rw [List.length_take] at h1
      omega
    exact lc_turn I (Ex.refl F1) .int hlt2 t1 t2
  · obtain ⟨F3, k3, e3⟩ := lc_end I
    rw [List.take_of_length_le (by simp)] at k3
    exact q Dl F3 H' k3 (e1.trans e3)
theorem en_lcS {s : Str} (p : Nat → Bool) (h : Nat → Dt) (hd : EvD K Γ M tl (.str s)) (hz : s.length ≤ 10000000)
    (he : ∀ (i c : Nat), s.cps.toList[i]? = some c → EvT K (Γ.set j (some (.str ⟨#[c]⟩))) M tt (p c) ∧ (p c = true → EvD K (Γ.set j (some (.str ⟨#[c]⟩))) M te (h c))) :
    EvN K Γ M (tLc (iSeqU K tl) (gName j) tt te [j]) (.lst (outL p h s.cps.toList)) := fun B G F σ H Q k q => hd B G F σ H _ k fun v F1 H1 k1 e1 r1 => by
  cases r1
  have hsz : s.cps.toList.length = s.cps.size := by simp
  have hl : s.length = s.cps.size := rfl
  refine .inr (.inr ⟨s, rfl, fun Dl hD => ⟨fun i m H' => m = s.cps.toList.length - i ∧ i ≤ s.cps.toList.length ∧ LcI K B G F1 Γ M σ Dl (outL p h (s.cps.toList.take i)) H', ⟨_, by simp; rfl, Nat.zero_le _, by simpa [outL] using lc_start k1 hD⟩, ?_⟩⟩)
  rintro i m H' ⟨rfl, hi, I⟩
  by_cases hlt : i < s.cps.toList.length
  · refine .inr ⟨(by show i < s.cps.size; omega), fun H3 => LcI K B G F1 Γ M σ Dl (outL p h (s.cps.toList.take (i + 1))) H3, fun H3 I3 => ⟨s.cps.toList.length - (i + 1), by omega, rfl, hlt, I3⟩, fun y H3 hy => ?_⟩
    obtain ⟨rfl, c, hc, rfl⟩ := hy
    have hx : s.cps.toList[i]? = some c := by rw [Array.getElem?_toList]; exact hc
    obtain ⟨t1, t2⟩ := he i c hx
    refine ⟨wipe1, ?_⟩
    rw [wipe1s, outL_take hx]
    have hlt2 : (outL p h (s.cps.toList.take i)).length < 10000000 := by
      have h1 := outL_len (p := p) (h := h) (xs := s.cps.toList.take i)
      rw [List.length_take] at h1
      omega
    exact lc_turn I (Ex.refl F1) .str hlt2 t1 t2
  · have e : i = s.cps.toList.length := by omega
    subst e
    obtain ⟨F3, k3, e3⟩ := lc_end I
    rw [List.take_length] at k3
    exact .inl ⟨(by show s.cps.size ≤ s.cps.toList.length; omega), q Dl F3 H' k3 (e1.trans e3)⟩
end
end Vl
namespace Vl
open PySem PySem.Spec PyProof.Rows L2 Evl
section
variable {X : Cx} {pos : Pos}
theorem pe_glI {x : Str} {i : Int} (h : ∃ t, X.mg x = some (.int i t)) (hg : Gl X x) (hd : (x == ("__debug__" : Str)) = false := by decide) : PE X (.Name x pos) (tC (.int i)) := by
  obtain ⟨t, e⟩ := h
  exact pe_glob hg e ⟨t, rfl⟩ hd
theorem pe_glS {x s : Str} (h : ∃ t, X.mg x = some (.str s t)) (hg : Gl X x) (hd : (x == ("__debug__" : Str)) = false := by decide) : PE X (.Name x pos) (tC (.str s)) := by
  obtain ⟨t, e⟩ := h
  exact pe_glob hg e ⟨t, rfl⟩ hd
end
section
variable {K : PySem.W.Frag} {B G F F' F1 H H' : Hp} {Γ Γ' : Gm} {M M' : Sto}
theorem op1_neg {i : Int} : Op1 K M (rU fun i => .int (-i)) (.int i) (.int (-i)) := fun B G F Γ σ H u Q k r1 q => by
  cases r1; exact ⟨i, rfl, q _ F H k (Ex.refl F) .int⟩
/-- places of a list made by a function -/
theorem atI_map {α : Type} {f : α → Dt} {xs : List α} {i : Int} {n : Nat} {x : α} (h : xs[n]? = some x) (e : i = (n : Int)) : atI (xs.map f) i = some (f x) := by
  subst e
  exact atI_nat (by rw [List.getElem?_map, h]; rfl)
theorem atI_mapD {α : Type} [Inhabited α] {f : α → Dt} {xs : List α} {i : Int} (h0 : 0 ≤ i) (h : i < xs.length) : atI (xs.map f) i = some (f (xs.getD i.toNat default)) := by
  have hn : i.toNat < xs.length := by omega
  exact atI_map (n := i.toNat) (by rw [List.getD_eq_getElem?_getD, List.getElem?_eq_getElem hn]; rfl) (by omega)
theorem atI_mapI {f : Int → Dt} {xs : List Int} {i : Int} (h0 : 0 ≤ i) (h : i < xs.length) : atI (xs.map f) i = some (f (xs.getD i.toNat 0)) := atI_mapD h0 h
theorem atI_D {α : Type} {xs : List α} {i : Int} (d : α) (h0 : 0 ≤ i) (h : i < xs.length) : atI xs i = some (xs.getD i.toNat d) := by
  have hn : i.toNat < xs.length := by omega
  have e : i = (i.toNat : Int) := by omega
  have := atI_nat (xs := xs) (j := i.toNat) (v := xs.getD i.toNat d) (by rw [List.getD_eq_getElem?_getD, List.getElem?_eq_getElem hn]; rfl)
  rw [← e] at this
  exact this
end
end Vl
namespace Vl
open PySem PySem.Spec PyProof.Rows L2 Evl
section
variable {K : PySem.W.Frag} {B G F F' F1 H H' : Hp} {Γ Γ' : Gm} {M M' : Sto}
theorem EvN.is {t : TE} {o o' : Ow} (h : EvN K Γ M t o) (e : o = o') : EvN K Γ M t o' := e ▸ h
theorem outL_all {α : Type} {h : α → Dt} {xs : List α} : outL (fun _ => true) h xs = xs.map h := by
  unfold outL
  rw [List.filter_eq_self.mpr (fun _ _ => rfl)]
/-- one sign -/
def sD (c : Nat) : Dt := .str ⟨#[c]⟩
theorem cutD_to {ds : List Dt} {hi : Int} (h : 0 ≤ hi) : cutD ds none (some hi) = ds.take hi.toNat := by
  unfold cutD
  have e : hi = (hi.toNat : Int) := by omega
  rw [e, HT.sIx_nat, HT.sIx_none, List.drop_zero, Nat.sub_zero, Int.toNat_natCast]
  by_cases q : hi.toNat ≤ ds.length
  · rw [Nat.min_eq_left q]
  · rw [Nat.min_eq_right (by omega), List.take_of_length_le (Nat.le_refl _), List.take_of_length_le (by omega)]
theorem glued_signs : ∀ (cs : List Nat) (acc : Array Nat), (cs.map fun c => (⟨#[c]⟩ : Str)).foldl (fun a p => a ++ (#[] : Array Nat) ++ p.cps) acc = acc ++ cs.toArray
  | [], acc => by simp
  | c :: cs, acc => by
    rw [List.map_cons, List.foldl_cons, glued_signs cs]
    simp
theorem join_signs (cs : List Nat) : Txt.join (⟨#[]⟩ : Str) (cs.map fun c => (⟨#[c]⟩ : Str)) = ⟨cs.toArray⟩ := by
  cases cs with
  | nil => rfl
  | cons c cs =>
    show (⟨((c :: cs).map fun c => (⟨#[c]⟩ : Str)).drop 1 |>.foldl (fun a p => a ++ (#[] : Array Nat) ++ p.cps) _⟩ : Str) = _
    rw [List.map_cons, List.drop_succ_cons, List.drop_zero, glued_signs]
    simp
end
end Vl
namespace Vl
open PySem PySem.Spec PyProof.Rows L2 Evl
/-! the rules with the written part by its letter -/
section
variable {X : Cx} (K : PySem.W.Frag) (hK : X.K = K)
include hK
theorem kaddU : OpR X (binaryOp .Add) (rAddU K) := hK ▸ op_addU
theorem kltU (hu : X.A.units + 64 < cLine) : OpR X (compareOp .Lt) (rLtU K) := hK ▸ op_ltU hu
theorem keqU (hu : X.A.units + 64 < cLine) : OpR X (compareOp .Eq) (rEqU K) := hK ▸ op_eqU hu
theorem kneU (hu : X.A.units + 64 < cLine) : OpR X (compareOp .NotEq) (rNeU K) := hK ▸ op_neU hu
theorem kinU (hu : X.A.units + 1 < cLine) : OpR X (compareOp .In) (rInU K) := hK ▸ op_inU hu
theorem kniU (hu : X.A.units + 1 < cLine) : OpR X (compareOp .NotIn) (rNiU K) := hK ▸ op_niU hu
theorem kixU (hu : X.A.units + 1 < cLine) : IxR X (rIxU K) := hK ▸ ix_U hu
theorem kslU : SlR X (rSlU K) := hK ▸ sl_U
theorem klenU : CallR X (.builtin "len") (rLenU K) := hK ▸ call_lenU
theorem klistX : CallR X (.type "list") (rListX K) := hK ▸ call_listX
theorem kisi : CallR X (.builtin "isinstance") (rIsi K) := hK ▸ call_isi
theorem kall (hc : X.calm = true) : CallR X (.builtin "all") (rAll K) := hK ▸ cr_all hc
theorem ksum (hc : X.calm = true) : CallR X (.builtin "sum") (rSum K) := hK ▸ cr_sum hc
theorem kjoin : MtR X "str.join" (rJoin K) := hK ▸ mt_joinX
theorem kindex : MtR X "list.index" (rIndex K) := hK ▸ mt_index
theorem kseqU {tg l : Expr} {tl : TE} (hl : PE X l tl) : PI X tg l (iSeqU K tl) := hK ▸ pi_seqU hl
theorem kfld {e : Expr} {f : Str} {pos : Pos} {ta : TE} (he : PE X e ta) (hb : attributeBase e f X.env (eval e X.env) = eval e X.env) : PE X (.Attribute e f pos) (tFld K ta f) := hK ▸ pe_fld he hb
theorem krevL {e : Expr} {te : TE} {k : Nat} {p1 p2 p3 pos : Pos} (he : PE X e te) : PE X (.Subscript e (.Slice none none (some (.UnaryOp .USub (.Constant (.int 1) k p1) p2)) p3) pos) (tRevL K te) := hK ▸ pe_revL he
theorem kbm0 {o : Expr} {to : TE} {name : Str} {apos cpos : Pos} {T id : String} {r : V → List V → Hp → VK → Prop} (pa : PlainAttrs T) (slot : Slot T name id) (hty : typeOf (.builtin id) = pure (.type "method_descriptor")) (hm : MtR X id r) (ho : PE X o to)
    (hbase : attributeBase o name X.env (eval o X.env) = eval o X.env := by rfl) (hline : (apos.endLine == cpos.line) = true := by rfl) : PE X (.Call (.Attribute o name apos) [] [] cpos) (tBM0 K T r to) := hK ▸ pe_bm0 pa slot hty hm ho hbase hline
theorem kbm {o e : Expr} {es : List Expr} {to : TE} {t : TA} {name : Str} {apos cpos : Pos} {T id : String} {r : V → List V → Hp → VK → Prop} (pa : PlainAttrs T) (slot : Slot T name id) (hty : typeOf (.builtin id) = pure (.type "method_descriptor")) (hm : MtR X id r) (ho : PE X o to) (ha : PA X (e :: es) t)
    (hbase : attributeBase o name X.env (eval o X.env) = eval o X.env := by rfl)
    (hfew : ((backTo cpos (starEach (e :: es) X.env)).all (fun x => !x.1) && (backToKw cpos (keywordEach [] X.env)).all (fun x => x.1.isSome)
      && decide ((e :: es).length + ([] : List Keyword).length + (if ([] : List Keyword).isEmpty then 0 else 1) < 30)) = true := by rfl)
    (hline : (apos.endLine == cpos.line) = true := by rfl) (hs : starEach (e :: es) X.env = (false, eval e X.env) :: starEach es X.env := by rfl) (hplain : (backTo cpos (starEach es X.env)).any (·.1) = false := by rfl) :
    PE X (.Call (.Attribute o name apos) (e :: es) [] cpos) (tBM K T r to t) := hK ▸ pe_bm pa slot hty hm ho ha hbase hfew hline hs hplain
theorem ktup {es : List Expr} {k n : Nat} {t : TGs} {pos : Pos} (hc : X.calm = true) (h : PGs X es t)
    (hn : (assignEach es X.env).length = n := by rfl) (hst : (assignEach es X.env).findIdx? (·.1) = none := by rfl) : PG X (.Tuple es k pos) (gTup K n t) := hK ▸ pg_tup hc h hn hst
end
end Vl
namespace Vl
open PySem PySem.Spec PyProof.Rows L2 Evl
section
variable {K : PySem.W.Frag} {B G : Hp} {M M' : Sto} {d : Dt} {Q : VK} {Γ : Gm} {N : L2.St → Hp → Prop}
theorem Rt.cells (h : Rt K B G d M Q) (hs : M.Sublist M') : Rt K B G d M' Q := fun v F Γ σ H k r => h v F Γ σ H (k.drop hs) r
theorem Rt.c1 {p : Addr × Ow} (h : Rt K B G d M Q) : Rt K B G d (p :: M) Q := h.cells (List.sublist_cons_self _ _)
theorem at_c1 {p : Addr × Ow} (h : At K B G Γ M N) : At K B G Γ (p :: M) N := at_cells h (List.sublist_cons_self _ _)
end
end Vl
namespace Vl
open PySem PySem.Spec PyProof.Rows L2 Evl
/-! ### == of equal data -/
def ShD (n : Nat) (d : Dt) : Prop := ∃ p, toPD d = some p ∧ p.canLay0 = true ∧ p.depth ≤ n
theorem ShD.mono {n m : Nat} {d : Dt} (h : ShD n d) (e : n ≤ m) : ShD m d := let ⟨p, a, b, c⟩ := h; ⟨p, a, b, Nat.le_trans c e⟩
theorem sh_int {n : Nat} {i : Int} : ShD n (.int i) := ⟨.int i, rfl, rfl, Nat.zero_le _⟩
theorem sh_bl {n : Nat} {i : Bool} : ShD n (.bl i) := ⟨.bool i, rfl, rfl, Nat.zero_le _⟩
theorem sh_non {n : Nat} : ShD n .non := ⟨.none, rfl, rfl, Nat.zero_le _⟩
theorem sh_str {n : Nat} {s : Str} (h : PyData.strOk s = true) : ShD n (.str s) := ⟨.str s, rfl, h, Nat.zero_le _⟩
theorem sh_all {n : Nat} : ∀ {ds : List Dt}, (∀ d ∈ ds, ShD n d) → ∃ ps, toPDs ds = some ps ∧ PyData.canLayAll0 ps = true ∧ PyData.depthAll ps ≤ n
  | [], _ => ⟨[], rfl, rfl, Nat.zero_le _⟩
  | d :: ds, h => by
    obtain ⟨p, a, b, c⟩ := h d List.mem_cons_self
    obtain ⟨ps, a', b', c'⟩ := sh_all (ds := ds) fun x hx => h x (List.mem_cons_of_mem _ hx)
    refine ⟨p :: ps, ?_, ?_, ?_⟩
    · show ((toPD d).bind fun p => (toPDs ds).map fun ps => p :: ps) = _
      rw [a, a']; rfl
    · show (PyData.canLay0 p && PyData.canLayAll0 ps) = true
      rw [b, b']; rfl
    · show max (PyData.depth p) (PyData.depthAll ps) ≤ n
      omega
theorem sh_lst {n : Nat} {ds : List Dt} (h : ∀ d ∈ ds, ShD n d) : ShD (n + 1) (.lst ds) := by
  obtain ⟨ps, a, b, c⟩ := sh_all h
  refine ⟨.list ps, ?_, b, ?_⟩
  · show (toPDs ds).map PyData.list = _
    rw [a]; rfl
  · show PyData.depthAll ps + 1 ≤ n + 1
    omega
theorem sh_tup {n : Nat} {ds : List Dt} (h : ∀ d ∈ ds, ShD n d) : ShD (n + 1) (.tup ds) := by
  obtain ⟨ps, a, b, c⟩ := sh_all h
  refine ⟨.tuple ps, ?_, b, ?_⟩
  · show (toPDs ds).map PyData.tuple = _
    rw [a]; rfl
  · show PyData.depthAll ps + 1 ≤ n + 1
    omega
section
variable {K : PySem.W.Frag} {M : Sto} {x y z : Dt}
theorem u_eqSame (sx : Sees M x z) (sy : Sees M y z) (h : ShD 64 z) : Op2 K M (rEqU K) x y (.bl true) := by
  obtain ⟨p, a, b, c⟩ := h
  have hs : SeqAt.shaped p = true := by unfold SeqAt.shaped; rw [b]; simp [c]
  have := u_eqD (K := K) sx sy a a hs hs
  rwa [SeqAt.eqv_refl p b] at this
theorem u_neSame (sx : Sees M x z) (sy : Sees M y z) (h : ShD 64 z) : Op2 K M (rNeU K) x y (.bl false) := by
  obtain ⟨p, a, b, c⟩ := h
  have hs : SeqAt.shaped p = true := by unfold SeqAt.shaped; rw [b]; simp [c]
  have := u_neD (K := K) sx sy a a hs hs
  rwa [SeqAt.eqv_refl p b] at this
end
theorem sum_signs (cs : List Nat) : ((cs.map fun c => (⟨#[c]⟩ : Str)).map (·.length)).sum = cs.length := by
  induction cs with
  | nil => rfl
  | cons c cs ih => rw [List.map_cons, List.map_cons, List.sum_cons, ih, List.length_cons]; show 1 + _ = _; omega
theorem ed_joinC {K : PySem.W.Frag} {Γ : Gm} {M : Sto} {t : TE} (cs : List Nat) (hc : cs.length ≤ 10000000) (h : EvD K Γ M t (.lst (cs.map sD))) : EvD K Γ M (tM1 (rJoin K) (tC (.str "")) t) (.str ⟨cs.toArray⟩) := by
  have := ed_join (s := "") (ys := cs.map fun c => (⟨#[c]⟩ : Str)) (ta := tC (.str "")) ed_str h (by rw [List.map_map]; exact Lst.frz) (by rw [sum_signs]; show _ + _ * 0 ≤ _; omega)
  rw [show Txt.join ("" : Str) (cs.map fun c => (⟨#[c]⟩ : Str)) = ⟨cs.toArray⟩ from join_signs cs] at this
  exact this
/-- a comprehension that gives signs -/
theorem ed_joinR {K : PySem.W.Frag} {Γ : Gm} {M : Sto} {tq : TA} {te : TE} {j : Nat} (n : Int) (h : Nat → Nat) (hd : EvA K Γ M tq [.int n]) (h0 : 0 ≤ n) (hn : n ≤ 1000000) (he : ∀ i : Nat, (i : Int) < n → EvD K (Γ.set j (some (.int i))) M te (sD (h i))) : EvD K Γ M (tM1 (rJoin K) (tC (.str "")) (tLc (iRng1 tq) (gName j) tYes te [j])) (.str ⟨((List.range n.toNat).map h).toArray⟩) := by
  apply ed_joinC
  · rw [List.length_map, List.length_range]; omega
  · have := (en_lcR (fun _ => true) (fun k => sD (h k)) hd (by omega) (by omega) fun i hi => ⟨et_yes, fun _ => he i hi⟩).toD
    rw [outL_all] at this
    rw [List.map_map]
    exact this
/-- where branches meet -/
theorem at_join {K : PySem.W.Frag} {B G : Hp} {Γ : Gm} {M : Sto} {D : Ends} {c : TT} {t u : TS} (I : Gm → Sto → Prop) (h : ∀ N, (∀ Γ' M', I Γ' M' → At K B G Γ' M' N) → At K B G Γ M (tIfS c t u { D with nx := N })) (q : ∀ Γ' M', I Γ' M' → At K B G Γ' M' D.nx) : At K B G Γ M (tIfS c t u D) := h D.nx q
/-! ### a law's end -/
theorem reps_ints {K : PySem.W.Frag} {H : Hp} : ∀ ns : List Int, Reps K H (ns.map V.int) (ns.map Dt.int)
  | [] => .nil
  | _ :: r => .cons .int (reps_ints r)
theorem law_sp {K : PySem.W.Frag} {T : TmV} {n : Nat} (h : ∀ ns : List Int, ns.length ≤ n → T [.lsr (ns.map Dt.int)] [] (fun d _ => d = .bl true) (fun _ _ => False)) (H : Hp) (a : Addr) (ns : List Int) (hl : ns.length ≤ n) (hS : SqL K H a (ns.map V.int)) : spT K T [.ref a] H (fun v _ => v = .bl true) fun _ _ _ => False :=
  ⟨fun _ => none, H, [], _, _, _, ⟨Ex.refl H, Ex.refl H, fun _ _ e => (nomatch e), fun _ z => (z rfl).elim, rfl, fun i d e => by simp at e, fun p hp => (nomatch hp), List.nodup_nil⟩, .cons (.lsr hS (reps_ints ns)) .nil, h ns hl, fun d M' e v F Γ σ H' _ r => (by subst e; cases r; rfl), fun C M' p => p.elim⟩
theorem noCX {P : Program} {w : World} (H : Hp) (s : Shared) (e : Value) (s' : Shared) : L2.CX P w [] H s (fun _ _ _ => False) e s' → False := fun ⟨_, _, _, _, _, _, _, _, _, _, _, _, z⟩ => z
/-- a law's walk, its facts out of the head -/
def TopOf (T : TmV) (l : PySem.W.OpenLaw) (k : Nat) (YP : World → Heap → Prop) (d : DefRec) : Prop :=
  ∀ w mg fa h, YP w h → h.Ns mainGlobals mg → mg d.name = some (.ref fa) →
    ∃ K fd, K.In h ∧ (∀ s u, BindsTo s fd ⟨[u], []⟩ [("_law_script", u)]) ∧
      ∀ base : Heap, K.In base → base.Ns mainGlobals mg → FnOk l.prog w K mg base (L2.CX l.prog w) k fa fd ["_law_script"] (spT K T)
theorem lawWalk {T : TmV} {l : PySem.W.OpenLaw} {k : Nat} {q : Program} {us : List Str} {XP : (Str → Option Value) → Heap → Prop} {YP : World → Heap → Prop} {d : DefRec}
    (hn : l.most = some 63) (hd : d.params.defaults = []) (hr : Room k callerA) (top : TopOf T l k YP d)
    (hT : ∀ ns : List Int, ns.length ≤ 63 → T [.lsr (ns.map Dt.int)] [] (fun d _ => d = .bl true) (fun _ _ => False)) :
    PySem.W.WalkO q us XP YP l.row.toRowW d [] (fun f vs => PySem.call f vs) := by
  apply Att.attach_call hn hd
  intro w s0 s1 mg mb fa o pm cd doc a vs ns G Y h1 h2 h3 hmg hobj hints hlen hg
  obtain ⟨K, fd, hK, hb, hF⟩ := top w mg fa _ Y G.T.g hmg
  have hlen' : ns.length ≤ sizeLine := Nat.le_trans hlen (by decide)
  apply law_call hK G.T.g G.T.b G.T.builtins G.T.nolimit hg hobj hints hlen' hr hF hb
  · intro H _ hS
    exact law_sp hT H a ns hlen hS
  · exact fun H e s' => noCX H s1 e s'
end Vl
namespace Vl
open PySem PySem.Spec PyProof.Rows L2 Evl

/-! ### tuples of ints as data -/
def pT (a : List Int) : PyData := .tuple (a.map .int)
def tI (a : List Int) : Dt := .tup (a.map .int)
theorem toksAll_ints : ∀ a b : List Int, PyProof.Rows.lexLt PyProof.Rows.itemOrd (PySem.W.keyToksAll (a.map .int)) (PySem.W.keyToksAll (b.map .int)) = HT.lexLt a b
  | [], [] => by decide
  | [], _ :: _ => PyProof.Rows.lex_diff (O := PyProof.Rows.itemOrd) (x := .inl 0) (y := .inl 1) (by decide)
  | _ :: _, [] => PyProof.Rows.lex_diff (O := PyProof.Rows.itemOrd) (x := .inl 1) (y := .inl 0) (by decide)
  | x :: xs, y :: ys => by
    rw [List.map_cons, List.map_cons, HT.lexLt_cons]
    by_cases h : x = y
    · subst h
      rw [if_pos rfl, PySem.W.dataLt_all_yes (by rfl) (by simp [PyData.eqv]), toksAll_ints xs ys]
    · rw [if_neg h, PySem.W.dataLt_all_no (by rfl) (by simp [PyData.eqv, h]), PySem.W.dataLt_int]
theorem lt_pT (a b : List Int) : PySem.W.dataLt (pT a) (pT b) = HT.lexLt a b := by
  unfold pT
  rw [PySem.W.dataLt_tuple, toksAll_ints]
theorem alikeAll_ints : ∀ a b : List Int, PySem.W.alikeAll (a.map .int) (b.map .int) = true
  | [], _ => by rw [List.map_nil]; unfold PySem.W.alikeAll; rfl
  | _ :: _, [] => by rw [List.map_nil, List.map_cons]; unfold PySem.W.alikeAll; rfl
  | x :: xs, y :: ys => by
    rw [List.map_cons, List.map_cons]
    unfold PySem.W.alikeAll
    rw [alikeAll_ints xs ys]; rfl
theorem alike_pT (a b : List Int) : PySem.W.alike (pT a) (pT b) = true := by
  unfold pT PySem.W.alike
  exact alikeAll_ints a b
theorem depthAll_ints : ∀ a : List Int, PyData.depthAll (a.map .int) ≤ 1
  | [] => by rw [List.map_nil]; unfold PyData.depthAll; omega
  | x :: xs => by
    have := depthAll_ints xs
    rw [List.map_cons]
    unfold PyData.depthAll
    have h2 : (PyData.int x).depth ≤ 1 := by unfold PyData.depth; omega
    omega
theorem depth_pT (a : List Int) : (pT a).depth ≤ 2 := by
  unfold pT PyData.depth
  have := depthAll_ints a
  omega
theorem depthAll_pT : ∀ l : List (List Int), PyData.depthAll (l.map pT) ≤ 2
  | [] => by rw [List.map_nil]; unfold PyData.depthAll; omega
  | x :: xs => by
    have := depthAll_pT xs
    have := depth_pT x
    rw [List.map_cons]
    unfold PyData.depthAll
    omega
theorem plainAll_ints : ∀ a : List Int, PyData.plainAll (a.map .int) = true
  | [] => by rw [List.map_nil]; unfold PyData.plainAll; rfl
  | x :: xs => by
    rw [List.map_cons]
    unfold PyData.plainAll
    rw [plainAll_ints xs]; rfl
theorem plain_pT (a : List Int) : (pT a).plain = true := by
  unfold pT PyData.plain
  exact plainAll_ints a
theorem plainAll_pT : ∀ l : List (List Int), PyData.plainAll (l.map pT) = true
  | [] => by rw [List.map_nil]; unfold PyData.plainAll; rfl
  | x :: xs => by
    rw [List.map_cons]
    unfold PyData.plainAll
    rw [plainAll_pT xs, plain_pT]; rfl
theorem eqvAll_ints : ∀ a b : List Int, PyData.eqvAll (a.map .int) (b.map .int) = decide (a = b)
  | [], [] => by simp [PyData.eqvAll]
  | [], _ :: _ => by simp [PyData.eqvAll]
  | _ :: _, [] => by simp [PyData.eqvAll]
  | x :: xs, y :: ys => by
    rw [List.map_cons, List.map_cons]
    unfold PyData.eqvAll
    rw [eqvAll_ints xs ys]
    by_cases h : x = y <;> by_cases h2 : xs = ys <;> simp [PyData.eqv, h, h2]
theorem eqv_pT (a b : List Int) : PyData.eqv (pT a) (pT b) = decide (a = b) := by
  unfold pT PyData.eqv
  exact eqvAll_ints a b
theorem pT_inj {a b : List Int} (h : pT a = pT b) : a = b := by
  have := eqv_pT a b
  rw [h, eqv_pT] at this
  simpa using this.symm
/-- the least by the order of tuples, the first -/
def minT (x : List Int) (xs : List (List Int)) : List Int := xs.foldl (fun a y => if HT.lexLt y a then y else a) x
theorem minD_pT (x : List Int) : ∀ xs : List (List Int), PySem.W.minD (pT x) (xs.map pT) = pT (minT x xs) := by
  intro xs
  unfold PySem.W.minD minT
  induction xs generalizing x with
  | nil => rfl
  | cons y r ih =>
    rw [List.map_cons, List.foldl_cons, List.foldl_cons, ← ih]
    rw [lt_pT]
    congr 1
    split <;> rfl

/-! ### min, remove, > of them -/
def DpTs (K : PySem.W.Frag) (H : Hp) (xs : List V) (l : List (List Int)) : Prop := DpAll K H xs (l.map pT)
def rMinT (K : PySem.W.Frag) : List V → Hp → VK → Prop := fun vs H Q => ∃ (a : Addr) (ys : List V) (x : List Int) (xs : List (List Int)), vs = [.ref a] ∧ SqL K H a ys ∧ DpTs K H ys (x :: xs) ∧ ∀ (i : Nat) (v : V), ys[i]? = some v → (x :: xs)[i]? = some (minT x xs) → Q v H
section
variable {X : Cx} {K : PySem.W.Frag}
theorem call_minT (hc : X.calm = true) (hu : X.A.units + 64 < cLine) : CallR X (.builtin "min") (rMinT X.K) := by
  intro pins s σ H vs us Q I r h
  obtain ⟨a, ys, x, xs, rfl, hs, hd, q⟩ := h
  obtain ⟨its, rv, hl, _⟩ := I.list hs
  rw [Vals.ref1 r]
  obtain ⟨as, hr⟩ := Dp.readsAll I _ ys its hd rv
  have hr' : ReadsAll s.heap its.toArray.toList (pT x :: xs.map pT) as := hr
  have hdep : PyData.depthAll ((x :: xs).map pT) ≤ 2 := depthAll_pT (x :: xs)
  refine PySem.W.min_list_data (I.ok.hd hc) hl.isList hr' ⟨fun p hp p' hp' => ?_, fun p hp => ?_⟩ (by rw [List.map_cons] at hdep; omega) fun i v h' tk bs hi hrd hk => ?_
  · obtain ⟨b, _, rfl⟩ := List.mem_map.mp (show p ∈ (x :: xs).map pT from hp)
    obtain ⟨b', _, rfl⟩ := List.mem_map.mp (show p' ∈ (x :: xs).map pT from hp')
    exact alike_pT b b'
  · obtain ⟨b, _, rfl⟩ := List.mem_map.mp (show p ∈ (x :: xs).map pT from hp)
    unfold pT; exact fun z => nomatch z
  · have hi' : its[i]? = some v := by simpa using hi
    have hil : i < its.length := (List.getElem?_eq_some_iff.mp hi').1
    obtain ⟨hx, e⟩ := PySem.SeqAt.readOf_at hr' (plainAll_pT (x :: xs)) i (by simpa using hil)
    have hlen := rv.length
    obtain ⟨u, hu1, ru⟩ := rv.get (List.getElem?_eq_getElem (by omega : i < ys.length))
    rw [hi'] at hu1
    cases hu1
    refine ⟨_, H, I.kept hk, ru, q i _ (List.getElem?_eq_getElem (by omega)) ?_⟩
    have hxl : i < (x :: xs).length := by simpa using hx
    rw [List.getElem?_eq_getElem hxl]
    congr 1
    apply pT_inj
    rw [← minD_pT]
    have e1 : SeqAt.readOf h' v = PySem.W.minD (pT x) (xs.map pT) := SeqAt.readOf_plain (by rw [minD_pT]; exact plain_pT _) hrd
    have hgi : its.toArray[i]'(by simpa using hil) = v := by
      have := List.getElem?_eq_some_iff.mp hi'
      obtain ⟨_, z⟩ := this
      simpa using z
    rw [hgi] at e
    have hpi : (pT x :: xs.map pT)[i] = pT (x :: xs)[i] := by
      have : (pT x :: xs.map pT) = (x :: xs).map pT := rfl
      simp only [this, List.getElem_map]
    rw [hpi] at e
    rw [← e, ← e1]
    obtain ⟨bs2, r2, _, _, _⟩ := PySem.W.readsAll_at (show ReadsAll s.heap its ((x :: xs).map pT) as from hr) i v hi'
    have e3 := SeqAt.readOf_plain (by
      rw [List.getD_eq_getElem?_getD, List.getElem?_map, List.getElem?_eq_getElem hxl]
      exact plain_pT _) r2
    have e4 := SeqAt.readOf_plain (by
      rw [List.getD_eq_getElem?_getD, List.getElem?_map, List.getElem?_eq_getElem hxl]
      exact plain_pT _) (PySem.W.reads_keeps hk r2)
    rw [e3, e4]
def rGtT (K : PySem.W.Frag) : R2 := fun x y H Q => ∃ a b ns ms, x = .ref a ∧ y = .ref b ∧ SqT K H a (ns.map V.int) ∧ SqT K H b (ms.map V.int) ∧ Q (.bl (HT.lexLt ms ns)) H
theorem dp_ints {H : Hp} : ∀ ns : List Int, DpAll K H (ns.map V.int) (ns.map .int)
  | [] => .nil
  | _ :: r => .cons (.int _) (dp_ints r)
theorem op_gtT (hu : X.A.units + 64 < cLine) : OpR X (compareOp .Gt) (rGtT X.K) := by
  intro pins s σ H x y v u Q I rx ry h
  obtain ⟨a, b, ns, ms, rfl, rfl, ha, hb, q⟩ := h
  obtain ⟨as, r1⟩ := Dp.reads I (pT ns) _ v (.tup ha (dp_ints ns)) rx
  obtain ⟨bs, r2⟩ := Dp.reads I (pT ms) _ u (.tup hb (dp_ints ms)) ry
  have d1 := depth_pT ns
  have := PySem.W.rcGt_alike _ _ X.A s v u as bs r1 r2 (alike_pT ns ms) (by unfold pT; exact fun z => nomatch z) (by omega) X.prog X.w
  rw [lt_pT] at this
  exact this _ _ ⟨.bl _, H, I, rfl, q⟩
def rGtU (K : PySem.W.Frag) : R2 := fun x y H Q => rI (fun _ _ => True) (fun i j => .bl (decide (i > j))) x y H Q ∨ rGtT K x y H Q
/-- remove: the first that is equal -/
def rRemT (K : PySem.W.Frag) : V → List V → Hp → VK → Prop := fun x xs H Q => ∃ (l : Addr) (ys : List V) (y : V) (ks : List (List Int)) (k : List Int) (j : Nat), x = .ref l ∧ xs = [y] ∧ H l = some (.lst ys) ∧ DpTs K H ys ks ∧ Dp K H y (pT k) ∧ ks.findIdx? (fun z => decide (z = k)) = some j ∧ Q .non (upd H l (.lst (ys.eraseIdx j)))
theorem find_map {k : List Int} : ∀ ks : List (List Int), SeqAt.dataPlace (ks.map pT) (pT k) = ks.findIdx? (fun z => decide (z = k)) := fun ks => by
  unfold SeqAt.dataPlace
  rw [List.findIdx?_map]
  congr 1
  funext z
  exact eqv_pT z k
theorem mt_removeT (hu : X.A.units + 64 < cLine) : MtR X "list.remove" (rRemT X.K) := by
  intro pins s σ H x xs v us Q I rx rxs h
  obtain ⟨l, ys, y, ks, k, j, rfl, rfl, hH, hd, hy, hj, q⟩ := h
  cases rx
  obtain ⟨u, rfl, ru⟩ := rxs.one
  obtain ⟨z, its, n, r, hl, e⟩ := I.lstM hH
  obtain ⟨as, hr⟩ := Dp.readsAll I _ ys its hd r
  obtain ⟨bs, hx⟩ := Dp.reads I (pT k) _ u hy ru
  have d2 := depth_pT k
  refine SeqAt.remove_list_data (l := l) (vs := its.toArray) (j := j) ⟨_, e, rfl, n, rfl⟩ (show ReadsAll s.heap its.toArray.toList (ks.map pT) as from hr) hx (plainAll_pT ks) (plain_pT k) (by omega) (by rw [find_map]; exact hj) (by rw [List.size_toArray]; omega) ?_
  refine ⟨.non, _, I.lset (its' := its.eraseIdx j) (t' := s.toks) hH e ?_ (r.eraseIdx j) ?_, rfl, q⟩
  · show its.toArray.eraseIdxIfInBounds j = (its.eraseIdx j).toArray
    rw [List.eraseIdxIfInBounds_toArray]
  · have z2 := len_erase ys j
    omega
end

/-! ### the same over data -/
theorem toPDs_ints : ∀ a : List Int, toPDs (a.map .int) = some (a.map .int)
  | [] => rfl
  | x :: r => by
    rw [List.map_cons, List.map_cons, toPDs, toPDs_ints r]; rfl
theorem toPD_tI (a : List Int) : toPD (tI a) = some (pT a) := by
  unfold tI pT
  rw [toPD, toPDs_ints]; rfl
theorem toPDs_tI : ∀ l : List (List Int), toPDs (l.map tI) = some (l.map pT)
  | [] => rfl
  | x :: r => by
    rw [List.map_cons, List.map_cons, toPDs, toPDs_tI r, toPD_tI]; rfl
section
variable {K : PySem.W.Frag} {B G : Hp} {M : Sto} {x y : Dt} {Γ : Gm} {N : L2.St → Hp → Prop} {D : Ends} {ta te : TE}
theorem erase_tI : ∀ (ks : List (List Int)) (i : Nat), (ks.map tI).eraseIdx i = (ks.eraseIdx i).map tI
  | [], i => by simp
  | a :: r, 0 => by simp
  | a :: r, i + 1 => by simp [erase_tI r i]
theorem c_minT {l0 : List Int} {ls : List (List Int)} (l : Lst M x ((l0 :: ls).map tI)) : OpC K M (rMinT K) [x] (tI (minT l0 ls)) := fun B G F Γ σ H u Q k r1 q => by
  obtain ⟨v, rfl, r⟩ := r1.one
  obtain ⟨a, xs, rfl, h1, t1⟩ := l.at_ k r
  refine ⟨a, xs, l0, ls, rfl, SqL.of h1, Reps.dp (t1.mono k.fh) (toPDs_tI (l0 :: ls)), fun i w hi he => ?_⟩
  obtain ⟨w', hw, rw'⟩ := t1.get (i := i) (d := tI (minT l0 ls)) (by rw [List.getElem?_map, he]; rfl)
  rw [hi] at hw
  cases hw
  exact q _ F H k (Ex.refl F) rw'
theorem u_gtT {a b : List Int} : Op2 K M (rGtT K) (tI a) (tI b) (.bl (HT.lexLt b a)) := fun B G F Γ σ H u w Q k r1 r2 q => by
  cases r1 with | tup h1 t1 =>
  cases r2 with | tup h2 t2 =>
  obtain rfl := Reps.of_ints t1
  obtain rfl := Reps.of_ints t2
  exact ⟨_, _, a, b, rfl, rfl, SqT.of (k.fh _ _ h1), SqT.of (k.fh _ _ h2), q _ F H k (Ex.refl F) .bl⟩
theorem Reps.eraseIdx {F : Hp} : ∀ {vs : List V} {ds : List Dt} (i : Nat), Reps K F vs ds → Reps K F (vs.eraseIdx i) (ds.eraseIdx i)
  | _, _, _, .nil => .nil
  | _, _, 0, .cons _ t => t
  | _, _, i + 1, .cons r t => .cons r (Reps.eraseIdx i t)
theorem at_remT {ks : List (List Int)} {kk : List Int} {i : Nat} (j : Nat) {a : Addr} (ho : EvD K Γ M ta (.ob a)) (hj : M[j]? = some (a, .lst (ks.map tI))) (he : EvD K Γ M te (tI kk)) (hi : ks.findIdx? (fun z => decide (z = kk)) = some i) (q : At K B G Γ (M.set j (a, .lst ((ks.eraseIdx i).map tI))) D.nx) :
    At K B G Γ M (tDrop (tBM K "list" (rRemT K) ta (tCons te tNil)) D) := fun F σ H k => ho B G F σ H _ k fun v F1 H1 k1 e1 r1 => by
  cases r1
  obtain ⟨_, _, xs1, hx1, _⟩ := k1.at_ hj
  refine ⟨ty_lst hx1, he B G F1 σ H1 _ k1 fun w F2 H2 k2 e2 r2 => ?_⟩
  obtain ⟨_, _, xs, hx, rx⟩ := k2.at_ hj
  refine ⟨a, xs, w, ks, kk, i, rfl, rfl, hx, Reps.dp (rx.mono k2.fh) (toPDs_tI ks), (r2.mono k2.fh).dp (toPD_tI kk), hi, q F2 σ _ (k2.wr hj ⟨_, upd_same, ?_⟩)⟩
  have := rx.eraseIdx i
  rwa [erase_tI] at this
/-- a list of a dict's keys -/
def rListDk : List V → Hp → VK → Prop := fun xs H Q => ∃ (a : Addr) (kvs : List (Key × V)), xs = [.ref a] ∧ Rd H a (.dK kvs) ∧ ∀ p, H p = none → Q (.ref p) (upd H p (.lst (kvs.map fun kv => kV kv.1)))
theorem call_listDk {X : Cx} (hc : X.calm = true) : CallR X (.type "list") rListDk := call_listD hc
end
/-! ### what was seen through cells is frozen -/
section
variable {K : PySem.W.Frag} {B G F H : Hp} {Γ : Gm} {M1 M2 : Sto} {σ : L2.St} {D : Ends} {te : TE} {d d' : Dt} {N : L2.St → Hp → Prop}
theorem Ok.frzP (k : Ok K B G F Γ (M1 ++ M2) σ H) : Ok K B G (withC F H M1) Γ M2 σ H ∧ Ex F (withC F H M1) := by
  have k1 : Ok K B G F Γ M1 σ H := k.drop (List.sublist_append_left _ _)
  have nin : ∀ a, F a ≠ none → a ∉ M1.map (·.1) := fun a h m => by
    obtain ⟨p, hp, rfl⟩ := List.mem_map.mp m
    exact h (k1.cel p hp).1
  have nB : ∀ a, B a ≠ none → a ∉ M1.map (·.1) := fun a h m => by
    obtain ⟨p, hp, rfl⟩ := List.mem_map.mp m
    exact h (k1.cel p hp).2.1
  refine ⟨⟨k1.exC2, k.gf.trans k1.exC, k.bh, fun a ha => ?_, k.len, fun i d e => let ⟨v, h1, r⟩ := k.env i d e; ⟨v, h1, r.mono k1.exC⟩, fun p hp => ?_, ?_⟩, k1.exC⟩
  · have : withC F H M1 a = F a := by unfold withC; rw [if_neg (nB a ha)]
    rw [this]; exact k.nw a ha
  · obtain ⟨c1, c2, c3⟩ := k.cel p (List.mem_append_right _ hp)
    have nm : p.1 ∉ M1.map (·.1) := fun m => by
      have nd := k.nd
      rw [List.map_append] at nd
      exact (List.nodup_append.mp nd).2.2 _ m _ (List.mem_map.mpr ⟨p, hp, rfl⟩) rfl
    refine ⟨?_, c2, c3.mono k1.exC rfl⟩
    unfold withC; rw [if_neg nm]; exact c1
  · have nd := k.nd
    rw [List.map_append] at nd
    exact (List.nodup_append.mp nd).2.1
theorem at_retV (h : EvD K Γ (M1 ++ M2) te d) (s : Sees M1 d d') (q : Rt K B G d' M2 D.rt) : At K B G Γ (M1 ++ M2) (tRet te D) := fun F σ H k => h B G F σ H _ k fun v F' H' k' e r => by
  obtain ⟨k2, e2⟩ := k'.frzP
  have k1 : Ok K B G F' Γ M1 σ H' := k'.drop (List.sublist_append_left _ _)
  exact q v _ Γ σ H' k2 (s.rep k1 (r.mono e2))
theorem at_frzV (i : Nat) (hi : Γ[i]? = some (some d)) (s : Sees M1 d d') (q : At K B G (Γ.set i (some d')) M2 N) : At K B G Γ (M1 ++ M2) N := fun F σ H k => by
  obtain ⟨k2, e2⟩ := k.frzP
  have k1 : Ok K B G F Γ M1 σ H := k.drop (List.sublist_append_left _ _)
  obtain ⟨v, hv, r⟩ := k.env i d hi
  have k3 := k2.setS (i := i) (v := v) (s.rep k1 (r.mono e2))
  have e : σ.set i (some v) = σ := by
    obtain ⟨hl, e⟩ := List.getElem?_eq_some_iff.mp hv
    rw [← e]; exact List.set_getElem_self hl
  rw [e] at k3
  exact q _ σ H k3
/-- a raise -/
theorem at_raise {C : Addr} {M : Sto} {E : XK} (q : Xt K B G C M E) : At K B G Γ M (fun _ H => E (.ref C) none H) := fun F σ H k => q F Γ σ H k
end
section
variable {X : Cx} (K : PySem.W.Frag) (hK : X.K = K)
include hK
theorem kminT (hc : X.calm = true) (hu : X.A.units + 64 < cLine) : CallR X (.builtin "min") (rMinT K) := hK ▸ call_minT hc hu
theorem kminI (hc : X.calm = true) : CallR X (.builtin "min") (rMin K) := hK ▸ cr_min hc
theorem kgtT (hu : X.A.units + 64 < cLine) : OpR X (compareOp .Gt) (rGtT K) := hK ▸ op_gtT hu
theorem kremT (hu : X.A.units + 64 < cLine) : MtR X "list.remove" (rRemT K) := hK ▸ mt_removeT hu
end
section
variable {K : PySem.W.Frag} {B G : Hp} {M : Sto} {x : Dt} {Γ : Gm} {to te : TE}
theorem RepK.keysV {F : Hp} : ∀ {vs : List (Key × V)} {kvs : List (Key × Dt)}, RepK K F vs kvs → Reps K F (vs.map fun kv => kV kv.1) (kvs.map fun kv => kD kv.1)
  | _, _, .nil => .nil
  | _, _, .cons (k := k) r t => .cons (by cases k <;> constructor) (RepK.keysV t)
theorem c_listDk {kvs : List (Key × Dt)} (l : Dct M x kvs) : OpCN K M rListDk [x] (.lst (kvs.map fun kv => kD kv.1)) := fun B G F Γ σ H u Q k r1 q => by
  obtain ⟨v, rfl, r⟩ := r1.one
  obtain ⟨a, xs, rfl, h1, t1⟩ := l.at_ k r
  exact ⟨a, xs, rfl, Rd.of h1, fun p hp => q p F _ (k.cell hp ⟨_, upd_same, t1.keysV⟩) (Ex.refl F)⟩
theorem ed_index {ss : List Str} {s : Str} {i : Nat} (ho : EvD K Γ M to x) (l : Lst M x (ss.map Dt.str)) (he : EvD K Γ M te (.str s)) (hi : ss.findIdx? (fun z => decide (z = s)) = some i) : EvD K Γ M (tBM K "list" (rIndex K) to (tCons te tNil)) (.int i) := fun B G F σ H Q k q =>
  ho B G F σ H _ k fun v F1 H1 k1 e1 r1 => by
    obtain ⟨a1, xs1, rfl, h1, t1⟩ := l.at_ k1 r1
    refine ⟨ty_lst h1, he B G F1 σ H1 _ k1 fun w F2 H2 k2 e2 r2 => ?_⟩
    cases r2
    obtain ⟨a, xs, ea, h2, t2⟩ := l.at_ k2 (r1.mono e2)
    cases ea
    obtain rfl := Reps.of_strs t2
    obtain ⟨g1, g2, g3⟩ := List.findIdx?_eq_some_iff_getElem.mp hi
    refine ⟨a1, _, .str s, i, .str ss[i], rfl, rfl, SqL.of h2, rfl, ?_, ?_, ?_, ?_, q _ F2 H2 k2 (e1.trans e2) .int⟩
    · rw [List.all_map]; exact List.all_eq_true.mpr fun _ _ => rfl
    · rw [List.getElem?_map, List.getElem?_eq_getElem g1]; rfl
    · have : ss[i] = s := by simpa using g2
      rw [this]; simp [eqV]
    · intro m z hm hz
      rw [List.getElem?_map] at hz
      obtain ⟨y, hy, rfl⟩ := Option.map_eq_some_iff.mp hz
      obtain ⟨hml, e⟩ := List.getElem?_eq_some_iff.mp hy
      have h4 := g3 m hm
      rw [e] at h4
      have : y ≠ s := by simpa using h4
      simpa [eqV] using this
end
end Vl
namespace Vl
open PySem PySem.Spec PyProof.Rows L2 Evl
theorem Dct.push {M : Sto} {x : Dt} {kvs : List (Key × Dt)} {p : Addr × Ow} (h : Dct M x kvs) : Dct (p :: M) x kvs := by
  cases h with
  | frz => exact .frz
  | own e => exact .own (j := _ + 1) e
theorem Lst.push {M : Sto} {x : Dt} {ds : List Dt} {p : Addr × Ow} (h : Lst M x ds) : Lst (p :: M) x ds := by
  cases h with
  | frz => exact .frz
  | own e => exact .own (j := _ + 1) e
section
variable {K : PySem.W.Frag} {B G : Hp} {M : Sto} {x : Dt} {Γ : Gm} {te tl td ty : TE} {D : Ends} {tb : TS} {g : TG}
/-- a part of a tuple -/
theorem ed_slT {ds : List Dt} {tlo thi : TO} {lo hi : Option Int} (he : EvD K Γ M te (.tup ds)) (hw : ¬ (HT.sIx ds.length 0 lo = 0 ∧ HT.sIx ds.length ds.length hi = ds.length)) (h1 : EvP K Γ M tlo lo) (h2 : EvP K Γ M thi hi) : EvD K Γ M (tSl (rSlU K) te tlo thi) (.tup (cutD ds lo hi)) := fun B G F σ H Q k q =>
  he B G F σ H _ k fun v F1 H1 k1 e1 r1 => h1 B G F1 σ H1 _ k1 fun F2 H2 k2 e2 => h2 B G F2 σ H2 _ k2 fun F3 H3 k3 e3 => by
    cases r1 with | tup h t =>
    rename_i aa xs
    have t3 := t.mono (e2.trans e3)
    refine .inr (.inr ⟨_, _, rfl, SqT.of (k3.fh _ _ (e3 _ _ (e2 _ _ h))), fun z => absurd z (by rw [t.length]; exact hw), fun _ p hp => ?_⟩)
    have k4 := k3.new (o := .tup (cutV xs lo hi)) hp
    exact q (.ref p) _ _ k4 ((e1.trans (e2.trans e3)).trans (Ex.new (ex_none k3.fh hp))) (.tup upd_same ((t3.cut lo hi).mono (Ex.new (ex_none k3.fh hp))))
/-- a loop over a tuple -/
theorem at_forT {ds : List Dt} (h : EvD K Γ M tl (.tup ds)) (I : Nat → Gm → Sto → Prop) (h0 : I 0 Γ M)
    (hs : ∀ G', Le B G G' → ∀ (i : Nat) (d : Dt) Γ' M', ds[i]? = some d → I i Γ' M' → AtG K B G' Γ' M' g d (tb { D with nx := Up K B G' (I (i + 1)), ct := Up K B G' (I (i + 1)), bk := D.nx }))
    (hd : ∀ Γ' M', I ds.length Γ' M' → At K B G Γ' M' D.nx) : At K B G Γ M (tFor (iSeqU K tl) g tb D) := fun F σ H k => h B G F σ H _ k fun v F1 H1 k1 e1 r1 => by
  cases r1 with | tup e t =>
  obtain ⟨kh, le⟩ := k1.here
  have fr := for_tup (K := K) (g := g) (tb := tb) (D := D) (fun i σ' H' => Up K B F1 (I i) σ' H') ⟨F1, Γ, M, kh, h0⟩ (fun i σ' H' _ ⟨F', _, _, k', _⟩ => SqT.of (k'.fh _ _ (k'.gf _ _ e)))
    (fun i x σ' H' hx ⟨F', Γ', M', k', hi⟩ => by
      obtain ⟨d, hd', rd⟩ := t.getV hx
      exact hs F1 le i d Γ' M' hd' hi F' σ' H' x k' (rd.mono k'.gf))
    (fun σ' H' ⟨F', Γ', M', k', hi⟩ => by
      rw [t.length] at hi
      exact hd Γ' M' hi F' σ' H' (k'.le le))
  exact .inr (.inl ⟨_, rfl, ⟨_, SqT.of (k1.fh _ _ e)⟩, fr⟩)
/-- d.setdefault(k, []).append(x) -/
theorem at_setd {kvs : List (Key × Dt)} {key : Key} {y d : Dt} {a : Addr} (j : Nat) (ho : EvD K Γ M td (.ob a)) (hj : M[j]? = some (a, .dct kvs)) (hk : EvD K Γ M ty y) (ek : y = kD key) (hx : ∀ M', EvD K Γ M' te d) (hz : kvs.length < 10000000)
    (q1 : ∀ z, valD kvs key = some z → ∃ (b : Addr) (i : Nat) (ds : List Dt), z = .ob b ∧ M[i]? = some (b, .lst ds) ∧ ds.length < 10000000 ∧ At K B G Γ (M.set i (b, .lst (ds ++ [d]))) D.nx)
    (q2 : valD kvs key = none → ∀ b, At K B G Γ ((b, .lst [d]) :: M.set j (a, .dct (putD kvs key (.ob b)))) D.nx) :
    At K B G Γ M (tDrop (tBM K "list" rAppend (tDSetd td ty (tLst tNil)) (tCons te tNil)) D) := fun F σ H k => ho B G F σ H _ k fun v F1 H1 k1 e1 r1 => by
  cases r1
  obtain ⟨_, _, xs1, hx1, _⟩ := k1.at_ hj
  refine ⟨a, rfl, .inl ⟨_, Rd.of hx1⟩, hk B G F1 σ H1 _ k1 fun w F2 H2 k2 e2 r2 => ⟨Nat.zero_le _, fun p hp => ?_⟩⟩
  subst ek
  obtain rfl := r2.key
  obtain ⟨f1, b1, xs, hxs, rxs⟩ := k2.at_ hj
  have k3 := k2.cell (p := p) (o := .lst []) (u := .lst []) hp ⟨[], upd_same, .nil⟩
  have hne : a ≠ p := fun e => by rw [← e, hxs] at hp; cases hp
  have hj3 : ((p, Ow.lst []) :: M)[j + 1]? = some (a, Ow.dct kvs) := hj
  have hxs3 : upd H2 p (.lst []) a = some (.dK xs) := by rw [upd_ne hne]; exact hxs
  refine ⟨xs, key, hxs3, rfl, by rw [rxs.length]; exact sz_lt hz, fun v hv => ?_, fun hv => ?_⟩
  · cases hd : valD kvs key with
    | none => rw [rxs.vno hd] at hv; cases hv
    | some z =>
      obtain ⟨b, i, ds, rfl, hi, hl, hq⟩ := q1 z hd
      obtain ⟨v', hv', rv⟩ := rxs.val hd
      rw [hv] at hv'
      cases hv'
      cases rv
      have hi3 : ((p, Ow.lst []) :: M)[i + 1]? = some (b, Ow.lst ds) := hi
      obtain ⟨_, _, ys, hy, _⟩ := k3.at_ hi3
      refine ⟨ty_lst hy, hx M B G F2 σ _ _ (k3.drop (List.sublist_cons_self _ _)) fun w F4 H4 k4 e4 r4 => ?_⟩
      obtain ⟨_, _, ys4, hy4, ry4⟩ := k4.at_ hi
      exact ⟨b, ys4, w, rfl, rfl, hy4, sz_lt (ry4.length ▸ hl), hq F4 σ _ (k4.wr hi ⟨_, upd_same, ry4.append (.cons r4 .nil)⟩)⟩
  · have hd : valD kvs key = none := by
      cases hd : valD kvs key with
      | none => rfl
      | some z =>
        obtain ⟨v', hv', _⟩ := rxs.val hd
        rw [hv] at hv'; cases hv'
    have k4 := k3.wr (u := .dK (putK xs key (.ref p))) (o' := .dct (putD kvs key (.ob p))) hj3 ⟨_, upd_same, rxs.put key .ob⟩
    have hp4 : (((p, Ow.lst []) :: M).set (j + 1) (a, Ow.dct (putD kvs key (.ob p))))[0]? = some (p, Ow.lst []) := rfl
    obtain ⟨_, _, ys, hy, _⟩ := k4.at_ hp4
    refine ⟨ty_lst hy, hx _ B G F2 σ _ _ k4 fun w F4 H4 k5 e4 r4 => ?_⟩
    obtain ⟨_, _, ys4, hy4, ry4⟩ := k5.at_ hp4
    cases ry4
    exact ⟨p, [], w, rfl, rfl, hy4, sz_lt (Nat.zero_lt_succ _), q2 hd p F4 σ _ (k5.wr hp4 ⟨_, upd_same, .cons r4 .nil⟩)⟩
/-- a loop over a sequence, wherever it stands -/
theorem at_forG {ds : List Dt} (h : EvD K Γ M tl x) (l : Lst M x ds) (I : Nat → Gm → Sto → Prop) (h0 : I 0 Γ M) (hst : ∀ i Γ' M', I i Γ' M' → Lst M' x ds)
    (hs : ∀ G', Le B G G' → ∀ (i : Nat) (d : Dt) Γ' M', ds[i]? = some d → I i Γ' M' → AtG K B G' Γ' M' g d (tb { D with nx := Up K B G' (I (i + 1)), ct := Up K B G' (I (i + 1)), bk := D.nx }))
    (hd : ∀ Γ' M', I ds.length Γ' M' → At K B G Γ' M' D.nx) : At K B G Γ M (tFor (iSeqU K tl) g tb D) := by
  cases l with
  | frz => exact at_forL h I h0 hs hd
  | own e =>
    refine at_forO h I h0 (fun i Γ' M' hi => ?_) hs hd
    cases hst i Γ' M' hi with
    | own e => exact ⟨_, e⟩
theorem c_minI {ns : List Int} {m : Int} (l : Lst M x (ns.map Dt.int)) (hm : m ∈ ns) (hle : ∀ y ∈ ns, m ≤ y) : OpC K M (rMin K) [x] (.int m) := fun B G F Γ σ H u Q k r1 q => by
  obtain ⟨v, rfl, r⟩ := r1.one
  obtain ⟨a, xs, rfl, h1, t1⟩ := l.at_ k r
  obtain rfl := t1.of_ints
  refine ⟨a, ns, rfl, SqL.of h1, List.length_pos_of_mem hm, fun m' h1 h2 => ?_⟩
  have : m' = m := by
    have a1 := h2 m hm
    have a2 := hle m' h1
    omega
  subst this
  exact q _ F H k (Ex.refl F) .int
theorem evx_opD {r : R2} {ta tb : TE} {P : Dt → Sto → Prop} {z : Dt} (ha : EvX K B G Γ M ta P) (hb : ∀ d M', P d M' → ∃ y, EvD K Γ M' tb y ∧ Op2 K M' r d y z) : EvX K B G Γ M (tOp r ta tb) (fun d' M1 => d' = z ∧ ∃ d, P d M1) := fun F σ H Q k q =>
  ha F σ H _ k fun u F1 H1 d M1 k1 e1 r1 p => by
    obtain ⟨y, hy, hr⟩ := hb d M1 p
    exact hy B G F1 σ H1 _ k1 fun w F2 H2 k2 e2 r2 => hr B G F2 Γ σ H2 u w _ k2 (r1.mono e2) r2 fun v F3 H3 k3 e3 r3 => q v F3 H3 z M1 k3 (e1.trans (e2.trans e3)) r3 ⟨rfl, d, p⟩
theorem evx_andV {ta tb : TE} {P : Dt → Sto → Prop} (ha : EvD K Γ M ta (.bl true)) (hb : EvX K B G Γ M tb P) : EvX K B G Γ M (tAndV ta tb) P := fun F σ H Q k q =>
  ha B G F σ H _ k fun v F1 H1 k1 e1 r1 => by
    cases r1
    exact ⟨true, rfl, hb F1 σ H1 Q k1 fun v F2 H2 d M2 k2 e2 r2 p => q v F2 H2 d M2 k2 (e1.trans e2) r2 p⟩
end
end Vl
namespace Vl
open PySem PySem.Spec PyProof.Rows L2 Evl
section
variable {K : PySem.W.Frag} {B G F F1 H : Hp} {Γ : Gm} {M : Sto} {σ : L2.St} {tq : TA} {j : Nat} {Dl : Addr}
/-- a comprehension of new empty dicts: one turn -/
theorem lc_turnE {ds : List Dt} {τ : L2.St} {N : Addr → List V → Hp → Prop} (I : LcI K B G F1 Γ M σ Dl ds H) (hz : ds.length < 10000000)
    (hN : ∀ p acc H4, LcI K B G F1 Γ ((p, .dct []) :: M) σ Dl (ds ++ [.ob p]) (upd H4 Dl (.lst (acc ++ [.ref p]))) → N p acc H4) :
    tDNewK τ H fun y H4 => ∃ acc, H4 Dl = some (.lst acc) ∧ acc.length < sizeLine ∧ ∃ p, y = .ref p ∧ N p acc H4 := by
  obtain ⟨⟨F, acc, k, e1, hD, hf, ra⟩, nm, nb⟩ := I
  intro p hp
  have hne : Dl ≠ p := fun e => by rw [e, hp] at hD; cases hD
  have k2 := k.cell (p := p) (o := .dct []) (u := .dK []) hp ⟨[], upd_same, .nil⟩
  have hD2 : upd H p (.dK []) Dl = some (.lst acc) := by rw [upd_ne hne]; exact hD
  refine ⟨acc, hD2, sz_lt (ra.length ▸ hz), p, rfl, hN _ _ _ ⟨⟨F, acc ++ [.ref p], ⟨Ex.mut k2.fh hf, k2.gf, Ex.mut k2.bh nb, k2.nw, k2.len, k2.env, fun q hq => ?_, k2.nd⟩, e1, upd_same, hf, ra.append (.cons .ob .nil)⟩, ?_, nb⟩⟩
  · obtain ⟨c1, c2, c3⟩ := k2.cel q hq
    refine ⟨c1, c2, c3.mono (Ex.refl _) (upd_ne fun z => ?_)⟩
    rcases List.mem_cons.mp hq with rfl | hq
    · exact hne z.symm
    · exact nm (List.mem_map.mpr ⟨q, hq, z⟩)
  · rw [List.map_cons]
    exact fun h => by
      rcases List.mem_cons.mp h with h | h
      · exact hne h
      · exact nm h
theorem evx_lcE {n : Int} (hd : EvA K Γ M tq [.int n]) (hn : n ≤ 1000000) (hn0 : -(2 ^ 62) ≤ n) :
    EvX K B G Γ M (tLc (iRng1 tq) (gName j) tYes tDNewK [j]) (fun d M' => ∃ (l : Addr) (as : List Addr), as.length = n.toNat ∧ d = .ob l ∧ M' = (l, Ow.lst (as.map Dt.ob)) :: (as.reverse.map (fun a => (a, Ow.dct [])) ++ M)) := fun F σ H Q k q => hd B G F σ H _ k fun vs F1 H1 k1 e1 r1 => by
  obtain ⟨v, rfl, r⟩ := r1.one
  cases r
  refine ⟨n, rfl, hn0, by omega, fun Dl hD => lc_range (lo := 0) (n := n.toNat) (fun i H' => ∃ as : List Addr, as.length = i ∧ LcI K B G F1 Γ (as.reverse.map (fun a => (a, Ow.dct [])) ++ M) σ Dl (as.map Dt.ob) H') ⟨[], rfl, lc_start k1 hD⟩ (fun i H' hi I => ?_) (fun H' I => ?_)⟩
  · obtain ⟨as, hl, I⟩ := I
    refine ⟨wipe1, ?_⟩
    rw [wipe1s]
    unfold tYes
    dsimp only
    rw [if_pos rfl]
    have := lc_turnE (τ := σ.set j (some (.int (0 + (i : Int))))) I (by rw [List.length_map]; omega) (N := fun p acc H4 => ∃ as : List Addr, as.length = i + 1 ∧ LcI K B G F1 Γ (as.reverse.map (fun a => (a, Ow.dct [])) ++ M) σ Dl (as.map Dt.ob) (upd H4 Dl (.lst (acc ++ [.ref p])))) (fun p acc H4 h => ⟨as ++ [p], by rw [List.length_append, hl]; rfl, by
      rw [List.reverse_append, List.map_append, List.map_append]
      exact h⟩)
    intro p hp
    obtain ⟨acc, h1, h2, p', e, h3⟩ := this p hp
    cases e
    exact ⟨acc, h1, h2, h3⟩
  · obtain ⟨as, hl, I⟩ := I
    obtain ⟨F3, k3, e3⟩ := lc_end I
    exact q (.ref Dl) F3 H' (.ob Dl) _ k3 (e1.trans e3) .ob ⟨Dl, as, hl, rfl, rfl⟩
end
end Vl
namespace Vl
open PySem PySem.Spec PyProof.Rows L2 Evl
/-- a promise that nobody asks for -/
theorem fn_never {P : Program} {w : World} {K : PySem.W.Frag} {mg : Str → Option Value} {base : Heap} {CX : CXT} {k : Nat} {f : Addr} {fd : FuncData} {ps : List Str} {T : TmV} (h : ∀ ds M R X, ¬ T ds M R X) : FnOk P w K mg base CX k f fd ps (spT K T) :=
  ⟨fun vs H Q E q => by obtain ⟨_, _, _, _, _, _, _, _, t, _⟩ := q; exact (h _ _ _ _ t).elim, fun A outer s H args us vs Q E hr he hb hv q => by obtain ⟨_, _, _, _, _, _, _, _, t, _⟩ := q; exact (h _ _ _ _ t).elim⟩
/-! ### == of pairs -/
theorem u_eqSI {K : PySem.W.Frag} {M : Sto} {a b : Str} {i j : Int} (ha : PyData.strOk a = true) (hb : PyData.strOk b = true) : Op2 K M (rEqU K) (.tup [.str a, .int i]) (.tup [.str b, .int j]) (.bl (decide ((a, i) = (b, j)))) := by
  have e : PyData.eqv (.tuple [.str a, .int i]) (.tuple [.str b, .int j]) = decide ((a, i) = (b, j)) := by
    simp only [PyData.eqv, PyData.eqvAll, Bool.and_true, Prod.mk.injEq, Bool.decide_and]
    congr 1
  have hs : ∀ (a : Str) (i : Int), PyData.strOk a = true → SeqAt.shaped (.tuple [.str a, .int i]) = true := fun a i h => by
    have hd : PyData.depth (.tuple [.str a, .int i]) ≤ 64 := by
      show max 0 (max 0 0) + 1 ≤ 64
      decide
    unfold SeqAt.shaped
    rw [show PyData.canLay0 (.tuple [.str a, .int i]) = true by show (PyData.strOk a && (true && true)) = true; rw [h]; rfl]
    simp [hd]
  have := u_eqD (K := K) (M := M) (x := .tup [.str a, .int i]) (y := .tup [.str b, .int j]) Sees.rfl Sees.rfl (p := .tuple [.str a, .int i]) (q := .tuple [.str b, .int j]) rfl rfl (hs a i ha) (hs b j hb)
  rwa [e] at this
/-! ### tuple(xs) -/
def rTupX (K : PySem.W.Frag) : List V → Hp → VK → Prop := fun xs H Q => ∃ p ys, xs = [.ref p] ∧ ((SqL K H p ys ∧ ∀ l, H l = none → Q (.ref l) (upd H l (.tup ys))) ∨ (SqT K H p ys ∧ Q (.ref p) H))
theorem call_tupX {X : Cx} : CallR X (.type "tuple") (rTupX X.K) := call_tuple_of
theorem ktupX {X : Cx} (K : PySem.W.Frag) (hK : X.K = K) : CallR X (.type "tuple") (rTupX K) := hK ▸ call_tupX
section
variable {K : PySem.W.Frag} {B G F F' F1 H H' : Hp} {Γ Γ' : Gm} {M M' : Sto} {σ : L2.St} {te ta tl : TE} {tt : TT} {j : Nat} {Dl a : Addr} {x : Dt}
theorem c_tupL {ds : List Dt} (l : Lst M x ds) : OpC K M (rTupX K) [x] (.tup ds) := fun B G F Γ σ H u Q k r1 q => by
  obtain ⟨v, rfl, r⟩ := r1.one
  obtain ⟨a, xs, rfl, h1, t1⟩ := l.at_ k r
  exact ⟨a, xs, rfl, .inl ⟨SqL.of h1, fun p hp => q _ _ _ (k.new hp) (Ex.new (ex_none k.fh hp)) (.tup upd_same (t1.mono (Ex.new (ex_none k.fh hp))))⟩⟩
theorem c_tupT {ds : List Dt} : OpC K M (rTupX K) [.tup ds] (.tup ds) := fun B G F Γ σ H u Q k r1 q => by
  obtain ⟨v, rfl, r⟩ := r1.one
  cases r with | tup h1 t1 => exact ⟨_, _, rfl, .inr ⟨SqT.of (k.fh _ _ h1), q _ _ _ k (Ex.refl _) (.tup h1 t1)⟩⟩
theorem ed_slTw {ds : List Dt} {tlo thi : TO} {lo hi : Option Int} (he : EvD K Γ M te (.tup ds)) (hw : HT.sIx ds.length 0 lo = 0 ∧ HT.sIx ds.length ds.length hi = ds.length) (h1 : EvP K Γ M tlo lo) (h2 : EvP K Γ M thi hi) : EvD K Γ M (tSl (rSlU K) te tlo thi) (.tup ds) := fun B G F σ H Q k q =>
  he B G F σ H _ k fun v F1 H1 k1 e1 r1 => h1 B G F1 σ H1 _ k1 fun F2 H2 k2 e2 => h2 B G F2 σ H2 _ k2 fun F3 H3 k3 e3 => by
    cases r1 with | tup h t =>
    have h3 := e3 _ _ (e2 _ _ h)
    exact .inr (.inr ⟨_, _, rfl, SqT.of (k3.fh _ _ h3), fun _ => q _ F3 H3 k3 (e1.trans (e2.trans e3)) (.tup h3 (t.mono (e2.trans e3))), fun z => absurd (by rw [t.length]; exact hw) z⟩)
/-! ### a comprehension over a dict: it is locked meanwhile -/
theorem lc_turnB {v : V} {d r : Dt} {ds : List Dt} {F2 : Hp} (I2 : LcI K B G F2 Γ M σ Dl ds H) (e0 : Ex F1 F2) (rv : Rep K F2 v d) (hz : ds.length < 10000000)
    (he : ∀ B2, Ex B B2 → ∀ F σ H (Q : VK), Ex F2 F → Ok K B2 G F (Γ.set j (some d)) M σ H → (∀ v F' H', Ok K B2 G F' (Γ.set j (some d)) M σ H' → Ex F F' → Rep K F' v r → Q v H') → te σ H Q) :
    te (σ.set j (some v)) H fun y H4 => ∃ acc, H4 Dl = some (.lst acc) ∧ acc.length < sizeLine ∧ LcI K B G F1 Γ M σ Dl (ds ++ [r]) (upd H4 Dl (.lst (acc ++ [y]))) := by
  obtain ⟨⟨F, acc, k, e1, hD, hf, ra⟩, nm, nb⟩ := I2
  refine he _ (fun b o e => ?_) F _ H _ e1 (lc_hide (k.setS (rv.mono e1)) hf nm) fun y F4 H4 k4 e4 ry => ?_
  · have : b ≠ Dl := fun z => by rw [z, nb] at e; cases e
    simpa [this] using e
  obtain ⟨k5, hD4, hf4⟩ := lc_show k nb k4 e4 hf _ hD
  refine ⟨acc, hD4, sz_lt (ra.length ▸ hz), ⟨F4, acc ++ [y], ⟨Ex.mut k5.fh hf4, k5.gf, Ex.mut k5.bh nb, k5.nw, k5.len, k5.env, fun p hp => ?_, k5.nd⟩, e0.trans (e1.trans e4), upd_same, hf4, (ra.mono e4).append (.cons ry .nil)⟩, nm, nb⟩
  obtain ⟨c1, c2, c3⟩ := k5.cel p hp
  exact ⟨c1, c2, c3.mono (Ex.refl _) (upd_ne fun z => nm (List.mem_map.mpr ⟨p, hp, z⟩))⟩
theorem cell_split {j0 : Nat} {o : Ow} (h : M[j0]? = some (a, o)) (nd : (M.map (·.1)).Nodup) : ∀ q ∈ M.eraseIdx j0, q.1 ≠ a := fun q hq e => by
  have hj : j0 < M.length := (List.getElem?_eq_some_iff.mp h).1
  have hq' : q ∈ M.take j0 ++ M.drop (j0 + 1) := by rw [← List.eraseIdx_eq_take_drop_succ]; exact hq
  have split : M = M.take j0 ++ (a, o) :: M.drop (j0 + 1) := by
    have e1 : M[j0] = (a, o) := (List.getElem?_eq_some_iff.mp h).2
    rw [← e1, ← List.drop_eq_getElem_cons hj, List.take_append_drop]
  rw [split, List.map_append, List.map_cons] at nd
  rcases List.mem_append.mp hq' with z | z
  · exact (List.nodup_append.mp nd).2.2 q.1 (List.mem_map.mpr ⟨q, z, rfl⟩) a (List.mem_cons_self) e
  · exact (List.nodup_cons.mp (List.nodup_append.mp nd).2.1).1 (List.mem_map.mpr ⟨q, z, e⟩)
theorem mem_cell {j0 : Nat} {o : Ow} {q : Addr × Ow} (h : M[j0]? = some (a, o)) (hq : q ∈ M) : q = (a, o) ∨ q ∈ M.eraseIdx j0 := by
  have hj : j0 < M.length := (List.getElem?_eq_some_iff.mp h).1
  have e1 : M[j0] = (a, o) := (List.getElem?_eq_some_iff.mp h).2
  rw [List.eraseIdx_eq_take_drop_succ]
  rw [← List.take_append_drop j0 M, List.drop_eq_getElem_cons hj, e1] at hq
  rcases List.mem_append.mp hq with z | z
  · exact .inr (List.mem_append_left _ z)
  · rcases List.mem_cons.mp z with z | z
    · exact .inl z
    · exact .inr (List.mem_append_right _ z)
theorem rep_key {k : Key} : Rep K H (kV k) (kD k) := by
  cases k with
  | inl i => exact .int
  | inr s => exact .str
theorem en_lcK {kvs : List (Key × Dt)} (h : Key × Dt → Dt) (j0 : Nat) (hj : M[j0]? = some (a, .dct kvs)) (hd : EvD K Γ (M.eraseIdx j0) tl (.ob a)) (hz : kvs.length ≤ 10000000)
    (he : ∀ (i : Nat) (kv : Key × Dt), kvs[i]? = some kv → ∀ (od : Obj) (xs : List (Key × V)) (F2 : Hp), RepK K F2 xs kvs → ∀ B2 G F σ H (Q : VK), Ex F2 F → B2 a = some (.frz od (.dK xs)) → Ok K B2 G F (Γ.set j (some (kD kv.1))) (M.eraseIdx j0) σ H →
      (∀ v F' H', Ok K B2 G F' (Γ.set j (some (kD kv.1))) (M.eraseIdx j0) σ H' → Ex F F' → Rep K F' v (h kv) → Q v H') → te σ H Q) :
    EvN K Γ M (tLockE (tLc (iKeys tl) (gName j) tYes te [j])) (.lst (kvs.map h)) := fun B G F σ H Q k q => by
  obtain ⟨c1, c2, xs, hx, rx⟩ := k.at_ hj
  have hlen := rx.length
  have hG : G a = none := ex_none k.gf c1
  have hsp := cell_split hj k.nd
  refine ⟨a, _, hx, trivial, fun od => ?_⟩
  have k1 : Ok K (upd B a (.frz od (.dK xs))) G F Γ (M.eraseIdx j0) σ (upd H a (.frz od (.dK xs))) := by
    refine ⟨Ex.mut k.fh c1, k.gf, fun b o e => ?_, fun b hb => ?_, k.len, k.env, fun p hp => ?_, ((List.eraseIdx_sublist M j0).map _).nodup k.nd⟩
    · by_cases h0 : b = a
      · subst h0; rw [upd_same] at e ⊢; exact e
      · rw [upd_ne h0] at e ⊢; exact k.bh b o e
    · by_cases h0 : b = a
      · subst h0; rw [c1, hG]
      · rw [upd_ne h0] at hb; exact k.nw b hb
    · obtain ⟨d1, d2, d3⟩ := k.cel p ((List.eraseIdx_sublist M j0).subset hp)
      have ne := hsp p hp
      exact ⟨d1, by rw [upd_ne ne]; exact d2, d3.mono (Ex.refl _) (upd_ne ne)⟩
  refine hd _ G F σ _ _ k1 fun v F1 H1 k2 e1 r1 => ?_
  cases r1
  have hfrz : ∀ {F3 : Hp} {H3 : Hp} {Γ3 : Gm} {M3 : Sto} {σ3 : L2.St}, Ok K (upd B a (.frz od (.dK xs))) G F3 Γ3 M3 σ3 H3 → H3 a = some (.frz od (.dK xs)) := fun k3 => k3.bh a _ upd_same
  refine ⟨a, od, rfl, .inl ⟨xs, hfrz k2, fun Dl hD => ⟨fun i m H' => m = kvs.length - i ∧ i ≤ kvs.length ∧ LcI K (upd B a (.frz od (.dK xs))) G F1 Γ (M.eraseIdx j0) σ Dl ((kvs.take i).map h) H', ⟨kvs.length, by simp, Nat.zero_le _, by simpa using lc_start k2 hD⟩, ?_⟩⟩⟩
  rintro i m H' ⟨rfl, hi, I⟩
  obtain ⟨⟨F2, acc, k3, e2, hD2, hf2, ra⟩, nm, nb⟩ := id I
  by_cases hlt : i < kvs.length
  · refine .inr ⟨⟨hfrz k3, by omega⟩, fun H3 => LcI K (upd B a (.frz od (.dK xs))) G F1 Γ (M.eraseIdx j0) σ Dl ((kvs.take (i + 1)).map h) H3, fun H3 I3 => ⟨kvs.length - (i + 1), by omega, rfl, hlt, I3⟩, fun y H3 hy => ?_⟩
    obtain ⟨rfl, ky, vy, hxi, rfl⟩ := hy
    obtain ⟨kv, hkv⟩ : ∃ kv, kvs[i]? = some kv := ⟨kvs[i], List.getElem?_eq_getElem hlt⟩
    have hkk : kv.1 = ky := by
      have e1 : (xs.map (·.1))[i]? = some ky := by rw [List.getElem?_map, hxi]; rfl
      have e2 : (kvs.map (·.1))[i]? = some kv.1 := by rw [List.getElem?_map, hkv]; rfl
      rw [rx.keys, e2] at e1
      exact Option.some.inj e1
    have htk : (kvs.take (i + 1)).map h = (kvs.take i).map h ++ [h kv] := by rw [List.take_add_one, hkv, List.map_append]; rfl
    refine ⟨wipe1, ?_⟩
    rw [wipe1s, htk]
    have I2 : LcI K (upd B a (.frz od (.dK xs))) G F2 Γ (M.eraseIdx j0) σ Dl ((kvs.take i).map h) H3 := ⟨⟨F2, acc, k3, Ex.refl _, hD2, hf2, ra⟩, nm, nb⟩
    refine lc_turnB I2 e2 (d := kD kv.1) (by rw [hkk]; exact rep_key) (by rw [List.length_map, List.length_take]; omega) ?_
    intro B2 hB F3 σ3 H3' Q3 e3 k4 q4
    exact he i kv hkv od xs F2 (rx.mono (e1.trans e2)) B2 G F3 σ3 H3' Q3 e3 (hB a _ upd_same) k4 q4
  · have e : i = kvs.length := by omega
    subst e
    obtain ⟨F3, k4, e3⟩ := lc_end I
    rw [List.take_length] at k4
    refine .inl ⟨⟨hfrz k3, by omega⟩, hfrz k4, ?_⟩
    have hDa : Dl ≠ a := fun z => by rw [z, upd_same] at nb; cases nb
    have hFa : F3 a = none := by rw [k4.nw a (by rw [upd_same]; exact fun z => nomatch z), hG]
    have hBa : ∀ b, B b ≠ none → b ≠ a := fun b hb z => by rw [z, c2] at hb; exact hb rfl
    apply q Dl F3 _ _ (e1.trans e3)
    refine ⟨Ex.mut k4.fh hFa, k4.gf, fun b o e => ?_, fun b hb => k4.nw b (by rw [upd_ne (hBa b hb)]; exact hb), k4.len, k4.env, fun p hp => ?_, ?_⟩
    · have hb : b ≠ a := hBa b (by rw [e]; exact fun z => nomatch z)
      rw [upd_ne hb]
      exact k4.bh b o (by rw [upd_ne hb]; exact e)
    · rcases List.mem_cons.mp hp with rfl | hp
      · obtain ⟨d1, d2, d3⟩ := k4.cel _ List.mem_cons_self
        exact ⟨d1, by rw [upd_ne hDa] at d2; exact d2, d3.mono (Ex.refl _) (upd_ne hDa)⟩
      · rcases mem_cell hj hp with rfl | hp
        · exact ⟨hFa, c2, xs, upd_same, rx.mono (e1.trans e3)⟩
        · obtain ⟨d1, d2, d3⟩ := k4.cel _ (List.mem_cons_of_mem _ hp)
          have ne := hsp p hp
          exact ⟨d1, by rw [upd_ne ne] at d2; exact d2, d3.mono (Ex.refl _) (upd_ne ne)⟩
    · rw [List.map_cons]
      refine List.nodup_cons.mpr ⟨fun z => ?_, k.nd⟩
      obtain ⟨p, hp, ep⟩ := List.mem_map.mp z
      rcases mem_cell hj hp with rfl | hp
      · exact hDa ep.symm
      · exact nm (List.mem_map.mpr ⟨p, hp, ep⟩)
/-- reading a dict that is locked -/
theorem ix_lock {od : Obj} {xs : List (Key × V)} {kvs : List (Key × Dt)} {B2 G F Fx H : Hp} {Γ : Gm} {M : Sto} {σ : L2.St} {key : Key} {z : Dt} {Q : VK} (hB : B2 a = some (.frz od (.dK xs))) (rx : RepK K Fx xs kvs) (e : Ex Fx F) (k : Ok K B2 G F Γ M σ H) (h : valD kvs key = some z)
    (q : ∀ v, Rep K F v z → Q v H) : rIxU K (.ref a) (kV key) H Q := by
  obtain ⟨v, hv, rv⟩ := (rx.mono e).val h
  exact .inr (.inr (.inr ⟨a, v, rfl, .inl ⟨xs, key, .inr ⟨od, k.bh a _ hB⟩, rfl, hv.symm⟩, q v rv⟩))
theorem tup2_run {tb : TE} {Q : VK} (h : ta σ H fun x H1 => tb σ H1 fun y H2 => [x, y].length ≤ sizeLine ∧ ∀ p, H2 p = none → Q (.ref p) (upd H2 p (.tup [x, y]))) : tTup (tCons ta (tCons tb tNil)) σ H Q := h
theorem op_run {r : R2} {tb : TE} {Q : VK} (h : ta σ H fun x H1 => tb σ H1 fun y H2 => r x y H2 Q) : tOp r ta tb σ H Q := h
end
end Vl
namespace Vl
open PySem PySem.Spec PyProof.Rows L2 Evl
/-! ### sorted: pairs of a whole number and a text -/
abbrev sortKey (p : Int × Str) : List (Int ⊕ List Nat) := [Sum.inl p.1, Sum.inr p.2.cps.toList]
abbrev OrdIS : KeyOrd := listOrd itemOrd
def ltIS (p q : Int × Str) : Bool := OrdIS.blt (sortKey p) (sortKey q)
theorem sortKey_inj {p q : Int × Str} (h : sortKey p = sortKey q) : p = q := by
  obtain ⟨i, ⟨a⟩⟩ := p
  obtain ⟨j, ⟨b⟩⟩ := q
  have h' : i = j ∧ a.toList = b.toList := by simpa [sortKey] using h
  obtain ⟨rfl, h2⟩ := h'
  rw [Array.toList_inj.mp h2]
def leIS (p q : Int × Str) : Bool := !ltIS q p
theorem leIS_antisymm {p q : Int × Str} (h1 : leIS p q = true) (h2 : leIS q p = true) : p = q := by
  apply sortKey_inj
  apply OrdIS.total
  · simpa [leIS, ltIS] using h2
  · simpa [leIS, ltIS] using h1
theorem leIS_trans (a b c : Int × Str) (h1 : leIS a b = true) (h2 : leIS b c = true) : leIS a c = true := by
  have h1' : OrdIS.kle (sortKey a) (sortKey b) := by
    unfold leIS ltIS at h1
    show OrdIS.blt (sortKey b) (sortKey a) = false
    cases h : OrdIS.blt (sortKey b) (sortKey a) with
    | false => rfl
    | true => rw [h] at h1; cases h1
  have h2' : OrdIS.kle (sortKey b) (sortKey c) := by
    unfold leIS ltIS at h2
    show OrdIS.blt (sortKey c) (sortKey b) = false
    cases h : OrdIS.blt (sortKey c) (sortKey b) with
    | false => rfl
    | true => rw [h] at h2; cases h2
  have := KeyOrd.kle_trans h1' h2'
  unfold KeyOrd.kle at this
  unfold leIS ltIS
  rw [this]; rfl
theorem leIS_total (a b : Int × Str) : (leIS a b || leIS b a) = true := by
  unfold leIS ltIS
  cases h : OrdIS.blt (sortKey b) (sortKey a) with
  | false => rfl
  | true =>
    have := KeyOrd.klt_asymm (O := OrdIS) (show OrdIS.klt (sortKey b) (sortKey a) from h)
    unfold KeyOrd.kle at this
    rw [this]; rfl
theorem srt_uniq {α : Type} {le : α → α → Bool} (anti : ∀ a b, le a b = true → le b a = true → a = b) : ∀ {xs ys : List α}, xs.Perm ys → xs.Pairwise (fun a b => le a b = true) → ys.Pairwise (fun a b => le a b = true) → (∀ a, le a a = true) → xs = ys
  | [], ys, h, _, _, _ => by rw [List.nil_perm.mp h]
  | x :: xs, [], h, _, _, _ => by have := h.length_eq; simp at this
  | x :: xs, y :: ys, h, h1, h2, hr => by
    have hx : x ∈ y :: ys := h.mem_iff.mp List.mem_cons_self
    have hy : y ∈ x :: xs := h.mem_iff.mpr List.mem_cons_self
    rw [List.pairwise_cons] at h1 h2
    have e : x = y := by
      rcases List.mem_cons.mp hx with e | hx
      · exact e
      · rcases List.mem_cons.mp hy with e | hy
        · exact e.symm
        · exact anti x y (h1.1 y hy) (h2.1 x hx)
    subst e
    rw [srt_uniq anti (List.perm_cons x |>.mp h) h1.2 h2.2 hr]
def srtIS (l : List (Int × Str)) : List (Int × Str) := l.mergeSort leIS
theorem srtIS_perm (l : List (Int × Str)) : (srtIS l).Perm l := List.mergeSort_perm l _
theorem srtIS_sorted (l : List (Int × Str)) : (srtIS l).Pairwise (fun a b => leIS a b = true) := List.pairwise_mergeSort leIS_trans leIS_total l
theorem leIS_refl (a : Int × Str) : leIS a a = true := by have := leIS_total a a; simpa using this
theorem srtIS_eq {l ys : List (Int × Str)} (h : ys.Perm l) (hs : ys.Pairwise (fun a b => leIS a b = true)) : ys = srtIS l :=
  srt_uniq (fun _ _ => leIS_antisymm) (h.trans (srtIS_perm l).symm) hs (srtIS_sorted l) leIS_refl
def rSortIS (K : PySem.W.Frag) : List V → Hp → VK → Prop := fun vs H Q => ∃ (a : Addr) (xs : List V) (k : V → Int × Str), vs = [V.ref a] ∧ SqL K H a xs ∧ (∀ x ∈ xs, ∃ t, x = V.ref t ∧ H t = some (.tup [.int (k x).1, .str (k x).2])) ∧
  ∀ ys p, ys.Perm xs → ys.Pairwise (fun x y => leIS (k x) (k y) = true) → H p = none → Q (.ref p) (upd H p (.lst ys))
def shIS : Nat → Bool := fun i => decide (i = 1)
theorem tups_of {h : Heap} : ∀ {its : List Value}, (∀ v ∈ its, ∃ t o i a t1 t2 n, v = Value.ref t ∧ h.get? t = some o ∧ o.cls = .type "tuple" ∧ o.data = .seq #[.int i t1, .str a t2] n) → ∃ fs, TupsOf h shIS its fs
  | [], _ => ⟨[], .nil⟩
  | v :: its, hv => by
    obtain ⟨fs, r⟩ := tups_of (its := its) fun u hu => hv u (List.mem_cons_of_mem _ hu)
    obtain ⟨t, o, i, a, t1, t2, n, e, ho, hc, hd⟩ := hv v List.mem_cons_self
    exact ⟨_ :: fs, .cons ⟨t, o, _, n, e, ho, hc, hd, rfl, fun _ => ⟨i, t1, rfl⟩, fun z => by cases z⟩ r⟩
section
variable {X : Cx}
theorem call_sortIS : CallR X (.builtin "sorted") (rSortIS X.K) := by
  intro pins s σ H vs us Q I r h
  obtain ⟨a, xs, k, rfl, hs, hx, q⟩ := h
  obtain ⟨its, rv, hl, hz⟩ := I.list hs
  obtain ⟨u, rfl, ru⟩ := vals1 r
  obtain rfl : u = Value.ref a := ru
  obtain ⟨e1, e2⟩ := refs_back rv fun x m => by
    obtain ⟨t, e, _⟩ := hx x m
    exact ⟨t, e⟩
  have hit : ∀ v ∈ its, ∃ t o i a t1 t2 n, v = Value.ref t ∧ s.heap.get? t = some o ∧ o.cls = .type "tuple" ∧ o.data = .seq #[.int i t1, .str a t2] n ∧ k (backV v) = (i, a) := fun v hv => by
    obtain ⟨t, rfl⟩ := e2 v hv
    have hm : V.ref t ∈ xs := by rw [e1]; exact List.mem_map.mpr ⟨_, hv, rfl⟩
    obtain ⟨t', e, ht⟩ := hx _ hm
    cases e
    obtain ⟨_, its2, r2, o, ho, hc, n, hd⟩ := I.hok _ _ ht
    obtain ⟨u1, u2, rfl, ri, rj⟩ := vals2 r2
    obtain ⟨t1, rfl⟩ := ri
    obtain ⟨t2, rfl⟩ := rj
    exact ⟨t, o, (k (.ref t)).1, (k (.ref t)).2, t1, t2, n, rfl, ho, hc, hd, rfl⟩
  obtain ⟨fs, htu⟩ := tups_of (h := s.heap) (its := its) fun v hv => by
    obtain ⟨t, o, i, a, t1, t2, n, h1, h2, h3, h4, _⟩ := hit v hv
    exact ⟨t, o, i, a, t1, t2, n, h1, h2, h3, h4⟩
  have hkey : ∀ v ∈ its, G.tupKeyC s.heap shIS v = some (sortKey (k (backV v))) := fun v hv => by
    obtain ⟨t, o, i, a, t1, t2, n, rfl, ho, hc, hd, hk⟩ := hit v hv
    rw [hk]
    unfold G.tupKeyC G.isTupObj
    simp only [ho, hc]
    rw [if_pos (by simp)]
    unfold tupKey
    simp only [ho, hd]
    rfl
  refine G.sorted_tups hl.isList htu (fun v hv => ⟨_, hkey v hv⟩) (by rw [← rv.length]; exact hz) fun st' hp hso _ => ?_
  have hself : ∀ p ∈ (arrOf st').toList, p.1 = p.2 ∧ p.1 ∈ its := fun p hm => by
    have := (Array.perm_iff_toList_perm.mp hp).mem_iff.mp hm
    rw [pairsOf_toList] at this
    exact mem_zip_self this
  have hout : (((arrOf st').map (·.2)).toList).Perm its := by
    have := (Array.perm_iff_toList_perm.mp hp).map (·.2)
    rw [pairsOf_toList] at this
    rw [Array.toList_map]
    have e : (its.zip its).map (·.2) = its := by
      rw [List.map_snd_zip]; exact Nat.le_refl _
    rwa [e] at this
  have h3 : ∀ u ∈ ((arrOf st').map (·.2)).toList, ∃ a, u = Value.ref a := fun u hu => e2 u (hout.mem_iff.mp hu)
  obtain ⟨n, hn⟩ := sortedAll_at s.heap its ((arrOf st').map (·.2))
  refine ⟨.ref (s.heap.objs.size + 1), upd H (s.heap.objs.size + 1) (.lst ((((arrOf st').map (·.2)).toList).map backV)), I.laid (t' := s.toks) (fun b o e => sortedAll_old e) (Nat.le_succ _) ⟨?_, ((arrOf st').map (·.2)).toList, n, vals_back h3, ?_⟩, rfl, q _ _ ?_ ?_ (I.hok.fresh (Nat.le_succ _))⟩
  · rw [List.length_map, hout.length_eq, ← rv.length]; exact hz
  · rw [Array.toArray_toList]; exact hn
  · rw [e1]; exact hout.map backV
  · rw [List.pairwise_iff_getElem]
    intro i j hi hj hij
    rw [List.length_map, Array.length_toList, Array.size_map] at hi hj
    have hsz : (arrOf st').size = (pairsOf its).size := hp.size_eq
    have := hso i j (by omega) (by omega)
    have hKK : ∀ i (h : i < (arrOf st').size), KK (G.tupKindC s.heap shIS) (arrOf st') i = sortKey (k (backV (arrOf st')[i].2)) := fun i h => by
      have hm := hself _ (Array.getElem_mem_toList h)
      unfold KK
      rw [Array.getElem?_eq_getElem h]
      show (G.tupKeyC s.heap shIS (arrOf st')[i].1).getD [] = _
      rw [hkey _ hm.2, ← hm.1]; rfl
    rw [hKK i hi, hKK j hj] at this
    rw [List.getElem_map, List.getElem_map, Array.getElem_toList, Array.getElem_toList, Array.getElem_map, Array.getElem_map]
    unfold leIS ltIS
    have t2 : OrdIS.blt (sortKey (k (backV (arrOf st')[j].2))) (sortKey (k (backV (arrOf st')[i].2))) = false := this
    rw [t2]; rfl
end
theorem ksortIS {X : Cx} (K : PySem.W.Frag) (hK : X.K = K) : CallR X (.builtin "sorted") (rSortIS K) := hK ▸ call_sortIS
def isD (p : Int × Str) : Dt := .tup [.int p.1, .str p.2]
def keyIS (F : Hp) : V → Int × Str
  | .ref t => match F t with
    | some (.tup [.int i, .str s]) => (i, s)
    | _ => (0, "")
  | _ => (0, "")
theorem rep_isD {K : PySem.W.Frag} {F : Hp} {v : V} {p : Int × Str} (r : Rep K F v (isD p)) : ∃ t, v = .ref t ∧ F t = some (.tup [.int p.1, .str p.2]) ∧ keyIS F v = p := by
  unfold isD at r
  cases r with
  | tup h t =>
    cases t with
    | cons r1 t =>
      cases r1
      cases t with
      | cons r2 t =>
        cases r2
        cases t
        refine ⟨_, rfl, h, ?_⟩
        show (match F _ with
          | some (.tup [.int i, .str s]) => (i, s)
          | _ => ((0 : Int), ("" : Str))) = p
        rw [h]
theorem reps_isD {K : PySem.W.Frag} {F : Hp} : ∀ {xs : List V} {l : List (Int × Str)}, Reps K F xs (l.map isD) → xs.map (keyIS F) = l ∧ ∀ x ∈ xs, Rep K F x (isD (keyIS F x))
  | [], [], _ => ⟨rfl, fun x hx => (nomatch hx)⟩
  | [], _ :: _, h => by cases h
  | _ :: _, [], h => by cases h
  | x :: xs, p :: l, h => by
    cases h with
    | cons r t =>
      obtain ⟨h1, h2⟩ := reps_isD t
      obtain ⟨_, _, _, hk⟩ := rep_isD r
      refine ⟨by rw [List.map_cons, hk, h1], fun y hy => ?_⟩
      rcases List.mem_cons.mp hy with rfl | hy
      · rw [hk]; exact r
      · exact h2 y hy
theorem reps_of {K : PySem.W.Frag} {F : Hp} {k : V → Int × Str} : ∀ {ys : List V}, (∀ y ∈ ys, Rep K F y (isD (k y))) → Reps K F ys ((ys.map k).map isD)
  | [], _ => .nil
  | y :: ys, h => .cons (h y List.mem_cons_self) (reps_of fun z hz => h z (List.mem_cons_of_mem _ hz))
theorem c_sortIS {K : PySem.W.Frag} {M : Sto} {x : Dt} {l : List (Int × Str)} (hl : Lst M x (l.map isD)) : OpCN K M (rSortIS K) [x] (.lst ((srtIS l).map isD)) := fun B G F Γ σ H u Q k r1 q => by
  obtain ⟨v, rfl, r⟩ := r1.one
  obtain ⟨a, xs, rfl, h1, t1⟩ := hl.at_ k r
  obtain ⟨e1, e2⟩ := reps_isD t1
  refine ⟨a, xs, keyIS F, rfl, SqL.of h1, fun x hx => ?_, fun ys p hp hs hn => ?_⟩
  · obtain ⟨t, e, ht, _⟩ := rep_isD (e2 x hx)
    exact ⟨t, e, k.fh _ _ ht⟩
  · have hk : ys.map (keyIS F) = srtIS l := by
      apply srtIS_eq
      · rw [← e1]; exact hp.map _
      · rw [List.pairwise_map]; exact hs
    refine q p F _ (k.cell hn ⟨ys, upd_same, ?_⟩) (Ex.refl F)
    rw [← hk]
    exact reps_of fun y hy => e2 y (hp.mem_iff.mp hy)
/-! ### sorted: the keys of a dict, texts -/
def leS (a b : Str) : Bool := !ltCps b.cps.toList a.cps.toList
abbrev OrdS : KeyOrd := strKind.toKeyOrd
theorem leS_kle {a b : Str} (h : leS a b = true) : OrdS.kle a.cps.toList b.cps.toList := by
  unfold leS at h
  show decide (b.cps.toList < a.cps.toList) = false
  rw [← ltCps_eq]
  cases q : ltCps b.cps.toList a.cps.toList with
  | false => rfl
  | true => rw [q] at h; cases h
theorem kle_leS {a b : Str} (h : OrdS.kle a.cps.toList b.cps.toList) : leS a b = true := by
  have h' : ltCps b.cps.toList a.cps.toList = false := by rw [ltCps_eq]; exact h
  unfold leS; rw [h']; rfl
theorem leS_trans (a b c : Str) (h1 : leS a b = true) (h2 : leS b c = true) : leS a c = true := kle_leS (KeyOrd.kle_trans (leS_kle h1) (leS_kle h2))
theorem leS_total (a b : Str) : (leS a b || leS b a) = true := by
  cases q : leS a b with
  | true => rfl
  | false =>
    rw [Bool.false_or]
    apply kle_leS
    apply KeyOrd.klt_asymm
    unfold leS at q
    show decide (b.cps.toList < a.cps.toList) = true
    rw [← ltCps_eq]
    cases z : ltCps b.cps.toList a.cps.toList with
    | true => rfl
    | false => rw [z] at q; cases q
theorem leS_antisymm {a b : Str} (h1 : leS a b = true) (h2 : leS b a = true) : a = b := by
  have e := KeyOrd.kle_antisymm (leS_kle h1) (leS_kle h2)
  obtain ⟨a⟩ := a
  obtain ⟨b⟩ := b
  have e' : a = b := Array.toList_inj.mp e
  rw [e']
theorem leS_refl (a : Str) : leS a a = true := by have := leS_total a a; simpa using this
def srtS (l : List Str) : List Str := l.mergeSort leS
theorem rising_pair : ∀ (p : Str) (l : List Str), risingS p l = true → (p :: l).Pairwise (fun a b => leS a b = true)
  | p, [], _ => by simp
  | p, x :: r, h => by
    have h' : (!ltCps x.cps.toList p.cps.toList && risingS x r) = true := h
    rw [Bool.and_eq_true_iff] at h'
    have ih := rising_pair x r h'.2
    have hpx : leS p x = true := h'.1
    refine List.pairwise_cons.mpr ⟨fun y hy => ?_, ih⟩
    rcases List.mem_cons.mp hy with rfl | hy
    · exact hpx
    · exact leS_trans _ _ _ hpx ((List.pairwise_cons.mp ih).1 y hy)
theorem sortedS_pair {l : List Str} (h : sortedS l = true) : l.Pairwise (fun a b => leS a b = true) := by
  cases l with
  | nil => simp
  | cons p r => exact rising_pair p r h
theorem srtS_eq {l ys : List Str} (h : ys.Perm l) (hs : sortedS ys = true) : ys = srtS l :=
  srt_uniq (fun _ _ => leS_antisymm) (h.trans (List.mergeSort_perm l _).symm) (sortedS_pair hs) (List.pairwise_mergeSort leS_trans leS_total l) leS_refl
def rSortD : List V → Hp → VK → Prop := fun xs H Q => ∃ (a : Addr) (kvs : List (Key × V)) (ks : List Str), xs = [.ref a] ∧ Rd H a (.dK kvs) ∧ kvs.map (·.1) = ks.map Sum.inr ∧ ks.length < 64 ∧
    ∀ ys p, ys.Perm ks → sortedS ys = true → H p = none → Q (.ref p) (upd H p (.lst (ys.map V.str)))
theorem ksortD {X : Cx} (hc : X.calm = true) : CallR X (.builtin "sorted") rSortD := call_sortedD hc
theorem reps_strs {K : PySem.W.Frag} {H : Hp} : ∀ ss : List Str, Reps K H (ss.map V.str) (ss.map Dt.str)
  | [] => .nil
  | _ :: r => .cons .str (reps_strs r)
theorem c_sortD {K : PySem.W.Frag} {M : Sto} {x : Dt} {kvs : List (Key × Dt)} {ks : List Str} (hl : Dct M x kvs) (hk : kvs.map (·.1) = ks.map Sum.inr) (h64 : ks.length < 64) : OpCN K M rSortD [x] (.lst ((srtS ks).map Dt.str)) := fun B G F Γ σ H u Q k r1 q => by
  obtain ⟨v, rfl, r⟩ := r1.one
  obtain ⟨a, xs, rfl, h1, t1⟩ := hl.at_ k r
  refine ⟨a, xs, ks, rfl, .inl h1, by rw [t1.keys, hk], h64, fun ys p hp hs hn => ?_⟩
  rw [srtS_eq hp hs]
  exact q p F _ (k.cell hn ⟨_, upd_same, reps_strs _⟩) (Ex.refl F)
end Vl
namespace Vl
open PySem PySem.Spec PyProof.Rows L2 Evl
/-! ### a pair in a list of pairs -/
def rInData (K : PySem.W.Frag) : R2 := fun x y H Q => ∃ (ks : List PyData) (k : PyData), Dp K H y (.list ks) ∧ Dp K H x k ∧ PyData.plainAll ks = true ∧ k.plain = true ∧ k.depth ≤ 60 ∧ Q (.bl (ks.any fun y => PyData.eqv y k)) H
theorem op_inData {X : Cx} (hu : X.A.units + 64 < cLine) : OpR X (compareOp .In) (rInData X.K) := by
  intro pins s σ H x y v u Q I rx ry h
  obtain ⟨ks, k, hy, hx, p1, p2, d, q⟩ := h
  obtain ⟨as, r1⟩ := Dp.reads I _ _ u hy ry
  obtain ⟨bs, r2⟩ := Dp.reads I _ _ v hx rx
  exact PySem.SeqAt.in_list_data r1 r2 p1 p2 (by omega) ⟨.bl _, H, I, rfl, q⟩
theorem op_niData {X : Cx} (hu : X.A.units + 64 < cLine) : OpR X (compareOp .NotIn) (fun x y H Q => rInData X.K x y H (fun v H' => ∃ b, v = .bl b ∧ Q (.bl (!b)) H')) := by
  intro pins s σ H x y v u Q I rx ry h
  obtain ⟨ks, k, hy, hx, p1, p2, d, b, eb, q⟩ := h
  cases eb
  obtain ⟨as, r1⟩ := Dp.reads I _ _ u hy ry
  obtain ⟨bs, r2⟩ := Dp.reads I _ _ v hx rx
  exact PySem.SeqAt.notIn_list_data r1 r2 p1 p2 (by omega) ⟨.bl _, H, I, rfl, q⟩
def rNiData (K : PySem.W.Frag) : R2 := fun x y H Q => rInData K x y H (fun v H' => ∃ b, v = .bl b ∧ Q (.bl (!b)) H')
theorem kinData {X : Cx} (K : PySem.W.Frag) (hK : X.K = K) (hu : X.A.units + 64 < cLine) : OpR X (compareOp .In) (rInData K) := hK ▸ op_inData hu
theorem kniData {X : Cx} (K : PySem.W.Frag) (hK : X.K = K) (hu : X.A.units + 64 < cLine) : OpR X (compareOp .NotIn) (rNiData K) := hK ▸ op_niData hu
def pdIS (p : Int × Str) : PyData := .tuple [.int p.1, .str p.2]
theorem toPD_isD (p : Int × Str) : toPD (isD p) = some (pdIS p) := rfl
theorem toPDs_isD : ∀ l : List (Int × Str), toPDs (l.map isD) = some (l.map pdIS)
  | [] => rfl
  | x :: r => by rw [List.map_cons, List.map_cons, toPDs, toPDs_isD r, toPD_isD]; rfl
theorem plain_IS : ∀ l : List (Int × Str), PyData.plainAll (l.map pdIS) = true
  | [] => rfl
  | x :: r => by
    rw [List.map_cons]
    show (PyData.plain (pdIS x) && PyData.plainAll (r.map pdIS)) = true
    rw [plain_IS r]; rfl
theorem eqv_IS (p q : Int × Str) : PyData.eqv (pdIS p) (pdIS q) = decide (p = q) := by
  obtain ⟨i, a⟩ := p
  obtain ⟨j, b⟩ := q
  unfold pdIS
  simp only [PyData.eqv, PyData.eqvAll, Bool.and_true, Prod.mk.injEq, Bool.decide_and]
  congr 1
theorem any_IS (l : List (Int × Str)) (p : Int × Str) : ((l.map pdIS).any fun y => PyData.eqv y (pdIS p)) = decide (p ∈ l) := by
  induction l with
  | nil => rfl
  | cons x r ih =>
    rw [List.map_cons, List.any_cons, ih, eqv_IS]
    by_cases h : x = p
    · subst h; simp
    · have : p ≠ x := fun z => h z.symm
      simp [h, this]
theorem dp_IS {K : PySem.W.Frag} {H : Hp} {v : V} {p : Int × Str} (r : Rep K H v (isD p)) : Dp K H v (pdIS p) := r.dp (toPD_isD p)
theorem u_inDat {K : PySem.W.Frag} {M : Sto} {y : Dt} {p : Int × Str} {l : List (Int × Str)} (hl : Lst M y (l.map isD)) : Op2 K M (rInData K) (isD p) y (.bl (decide (p ∈ l))) := fun B G F Γ σ H u w Q k r1 r2 q => by
  obtain ⟨a, xs, rfl, h1, t1⟩ := hl.at_ k r2
  refine ⟨l.map pdIS, pdIS p, .lst (SqL.of h1) (Reps.dp (t1.mono k.fh) (toPDs_isD l)), dp_IS (r1.mono k.fh), plain_IS l, rfl, by show max 0 (max 0 0) + 1 ≤ 60; decide, ?_⟩
  rw [any_IS]
  exact q _ F H k (Ex.refl F) .bl
theorem u_niDat {K : PySem.W.Frag} {M : Sto} {y : Dt} {p : Int × Str} {l : List (Int × Str)} (hl : Lst M y (l.map isD)) : Op2 K M (rNiData K) (isD p) y (.bl (!decide (p ∈ l))) := fun B G F Γ σ H u w Q k r1 r2 q =>
  u_inDat hl B G F Γ σ H u w _ k r1 r2 fun v F' H' k' e r => by
    cases r
    exact ⟨_, rfl, q _ F' H' k' e .bl⟩
/-! ### try -/
def tMethA (C : Addr) (m : Str) (sp : Sp) (E : L2.St → XK) (ta : TE) (t : TA) : TE := fun σ H Q => ta σ H fun x H1 => ∃ a dx fs, x = .ref a ∧ H1 a = some (.ins C dx fs) ∧ fs.lookup m = none ∧ t σ H1 fun vs H2 => sp (x :: vs) H2 Q (E σ)
section
variable {X : Cx} {CX : CXT} {k : Nat} {f C : Addr} {fd : FuncData} {ps : List Str} {sp : Sp} {E : L2.St → XK} {m : Str} {pos apos : Pos} {e o : Expr} {es : List Expr} {ta : TE} {t : TA}
theorem pe_methA {pl : Sem Bool} (he : PE X o ta) (c : Cls X.K C) (hm : Meth X.K C m f) (F : FnOk X.prog X.w X.K X.mg X.base CX k f fd ps sp) (hr : Room k X.A) (hb : Binds X.K fd ps []) (hx : ∀ σ, PassesAt CX X σ (E σ)) (ha : PA X (e :: es) t)
    (hst : starEach (e :: es) X.env = (false, eval e X.env) :: starEach es X.env := by rfl) (hpl : (backTo pos (starEach es X.env)).any (·.1) = false := by rfl)
    (ht : eval (.Call (.Attribute o m apos) (e :: es) [] pos) X.env = (do
      let ov ← eval o X.env
      standAt apos.atName
      let (f, first) ← holding [ov] (getMethod ov m pl)
      callWith pos f first (backTo pos (starEach (e :: es) X.env)) (backToKw pos (keywordEach [] X.env))) := by rfl) :
    PE X (.Call (.Attribute o m apos) (e :: es) [] pos) (tMethA C m sp E ta t) := by
  refine ⟨fun pins s σ H Q I h => ?_⟩
  refine PySem.W.methodCall_KW (pl := pl) (thn (he.run pins s σ H _ I h) fun u s1 ⟨x, H1, I1, rx, a, dx, fs, ex, ea, l, q⟩ => ?_) ht
  subst ex
  obtain rfl : u = Value.ref a := rx
  refine getmeth_ok I1 ea c hm l ?_
  refine PySem.W.callWith_K (first := [.ref a]) (h₀ := X.base) I.ok.mod.kin hm.kp (thn (ha.run pos pins s1 σ H1 _ I1 q) fun us s2 ⟨vs, H2, I2, r, q2⟩ => ⟨I2.kIn, ?_⟩) hst hpl
  exact run_fnS (us := .ref a :: us) (vs := .ref a :: vs) F hr hb (hx σ) I2 (.cons rfl r) q2
end
/-- one clause, without a name -/
def tTry1 (K : PySem.W.Frag) (c : Value) (ts : Addr → Value → Option Addr → TS) (tb : WX → TS) : TS := fun D σ H => tb (wOnly K c ts (fun _ _ _ _ => False) D) D σ H
theorem ps_try1 {X : Cx} (K : PySem.W.Frag) (hK : X.K = K) {x : Str} {c : Value} {body suite : List Stmt} {b₀ : Stmt} {np pos pos' : Pos} {tb : WX → TS} {ts : Addr → Value → Option Addr → TS} (hs : X.stack = X.env :: X.outer) (hf : X.env.frame = some X.env.locals) (hc : Names X x c)
    (hb : ∀ (W : WX) (pn : List (Addr × Obj)) (xe : Value → Shared → Prop), Takes (X.tr pn xe) W → PassesOwn (model X.prog X.w) X.A X.env xe → PSs (X.tr pn xe) body (tb W))
    (hsu : ∀ (a : Addr) (oe : Obj) (cls : Value) (d : Option Addr) (pn : List (Addr × Obj)), Zc cls d oe → (∃ vs, oe.data = .fields vs) → PSs (X.suite a ((a, oe) :: pn)) (b₀ :: suite) (ts a cls d)) :
    PS X (.Try body [.ExceptHandler (some (.Name x np)) none (b₀ :: suite) pos'] [] [] pos) (tTry1 K c ts tb) := hK ▸ ps_try_only hs hf hc takes0 hb hsu
def tTryM (K : PySem.W.Frag) (l : List (Value × (Addr → Value → Option Addr → TS))) (tb : WX → TS) : TS := fun D σ H => tb (wMany K (fun _ _ _ _ => False) D l) D σ H
theorem ps_tryM {X : Cx} (K : PySem.W.Frag) (hK : X.K = K) {body : List Stmt} {h₀ : ExceptHandler} {hds : List ExceptHandler} {l : List (Value × (Addr → Value → Option Addr → TS))} {pos : Pos} {tb : WX → TS} (hs : X.stack = X.env :: X.outer) (hf : X.env.frame = some X.env.locals)
    (hb : ∀ (W : WX) (pn : List (Addr × Obj)) (xe : Value → Shared → Prop), Takes (X.tr pn xe) W → PassesOwn (model X.prog X.w) X.A X.env xe → PSs (X.tr pn xe) body (tb W))
    (hh : HdsOk X (h₀ :: hds) l) : PS X (.Try body (h₀ :: hds) [] [] pos) (tTryM K l tb) := hK ▸ ps_try_many hs hf takes0 hb hh
section
variable {K : PySem.W.Frag} {B G : Hp} {Γ : Gm} {M : Sto} {D : Ends} {ta : TA} {ds : List Dt} {T : TmV} {P : Dt → Sto → Prop} {PX : Addr → Sto → Prop} {E : L2.St → XK}
theorem at_try1 {c : Value} {ts : Addr → Value → Option Addr → TS} {tb : WX → TS} (h : At K B G Γ M (tb (wOnly K c ts (fun _ _ _ _ => False) D) D)) : At K B G Γ M (tTry1 K c ts tb D) := h
theorem at_tryM {l : List (Value × (Addr → Value → Option Addr → TS))} {tb : WX → TS} (h : At K B G Γ M (tb (wMany K (fun _ _ _ _ => False) D l) D)) : At K B G Γ M (tTryM K l tb D) := h
/-- the way out of a call in a try's body -/
def XtS (K : PySem.W.Frag) (B G : Hp) (Γ : Gm) (C : Addr) (M : Sto) (E : L2.St → XK) : Prop := ∀ F σ H, Ok K B G F Γ M σ H → E σ (.ref C) none H
theorem xtS_1 {C : Addr} {c : Value} {ts : Addr → Value → Option Addr → TS} {Wo : WX} (hb : PySem.W.exmOne K (.ref C) c = some true) (h : ∀ a, At K B G Γ M (ts a (.ref C) none D)) : XtS K B G Γ C M (WE (wOnly K c ts Wo D)) := fun F σ H k =>
  ⟨true, hb, fun _ a _ => h a F σ H k, fun z => nomatch z⟩
theorem xtS_yes {C : Addr} {c : Value} {ts : Addr → Value → Option Addr → TS} {Wo : WX} {l : List (Value × (Addr → Value → Option Addr → TS))} (hb : PySem.W.exmOne K (.ref C) c = some true) (h : ∀ a, At K B G Γ M (ts a (.ref C) none D)) : XtS K B G Γ C M (WE (wMany K Wo D ((c, ts) :: l))) := fun F σ H k =>
  ⟨true, hb, fun _ a _ => h a F σ H k, fun z => nomatch z⟩
theorem xtS_no {C : Addr} {c : Value} {ts : Addr → Value → Option Addr → TS} {Wo : WX} {l : List (Value × (Addr → Value → Option Addr → TS))} (hb : PySem.W.exmOne K (.ref C) c = some false) (h : XtS K B G Γ C M (WE (wMany K Wo D l))) : XtS K B G Γ C M (WE (wMany K Wo D ((c, ts) :: l))) := fun F σ H k =>
  ⟨false, hb, (fun z => (nomatch z)), fun _ => h F σ H k⟩
theorem evx_methA {C : Addr} {m : Str} {fs : List (Str × Dt)} {to : TE} (ho : EvD K Γ M to (.inst C fs)) (hm : fs.lookup m = none) (ha : EvA K Γ M ta ds) (ht : T (.inst C fs :: ds) M P PX) (hE : ∀ C M', PX C M' → XtS K B G Γ C M' E) : EvX K B G Γ M (tMethA C m (spT K T) E to ta) P := fun F σ H Q k q =>
  ho B G F σ H _ k fun v F0 H0 k0 e0 r0 => by
    cases r0 with | inst h t =>
    refine ⟨_, _, _, rfl, k0.fh _ _ h, t.none hm, ha B G F0 σ H0 _ k0 fun vs F1 H1 k1 e1 r1 => ?_⟩
    exact ⟨hid H1 M, F1, M, .inst C fs :: ds, P, PX, k1.call, .cons ((Rep.inst h t).mono e1) r1, ht, fun d M' p v F' Γ2 σ2 H' k2 r => q v F' H' d M' (k1.back k2) (e0.trans (e1.trans k2.gf)) r p, fun C M' p F' Γ2 σ2 H' k2 => hE C M' p F' σ H' (k1.back k2)⟩
theorem at_pop {kvs : List (Key × Dt)} {key : Key} {y : Dt} {a : Addr} {td ty : TE} (j : Nat) (ho : EvD K Γ M td (.ob a)) (hj : M[j]? = some (a, .dct kvs)) (hk : EvD K Γ M ty y) (ek : y = kD key) (hv : (valD kvs key).isSome = true)
    (q : At K B G Γ (M.set j (a, .dct (dropD kvs key))) D.nx) : At K B G Γ M (tDrop (tDPop1 td ty) D) := fun F σ H k => ho B G F σ H _ k fun v F1 H1 k1 e1 r1 => by
  subst ek
  cases r1
  obtain ⟨_, _, xs1, hx1, _⟩ := k1.at_ hj
  refine ⟨a, rfl, .inl ⟨_, .inl hx1⟩, hk B G F1 σ H1 _ k1 fun w F2 H2 k2 e2 r2 => ?_⟩
  obtain rfl := r2.key
  obtain ⟨_, _, xs, hx, rx⟩ := k2.at_ hj
  obtain ⟨z, hz⟩ := Option.isSome_iff_exists.mp hv
  obtain ⟨v, hv', _⟩ := rx.val hz
  exact ⟨xs, key, v, hx, rfl, hv', q F2 σ _ (k2.wr hj ⟨_, upd_same, rx.drop key⟩)⟩
theorem at_setDN {kvs : List (Key × Dt)} {te ta' tb : TE} {y : Dt} {key : Key} {a : Addr} {o : Ow} (j : Nat) (he : EvN K Γ M te o) (ho : ∀ p, EvD K Γ ((p, o) :: M) ta' (.ob a)) (hj : M[j]? = some (a, .dct kvs)) (hi : ∀ p, EvD K Γ ((p, o) :: M) tb y) (hk : y = kD key) (hz : kvs.length < 10000000)
    (q : ∀ p, At K B G Γ ((p, o) :: M.set j (a, .dct (putD kvs key (.ob p)))) D.nx) : At K B G Γ M (tAsg te (gSub ta' tb rSetU) D) := fun F σ H k => he B G F σ H _ k fun p F1 H1 k1 e1 => ho p B G F1 σ H1 _ k1 fun w F2 H2 k2 e2 r2 => hi p B G F2 σ H2 _ k2 fun u F3 H3 k3 e3 r3 => by
  subst hk
  cases r2
  obtain rfl := r3.key
  have hj' : ((p, o) :: M)[j + 1]? = some (a, .dct kvs) := hj
  obtain ⟨_, _, xs, hx, rx⟩ := k3.at_ hj'
  have k4 := k3.wr (o' := .dct (putD kvs key (.ob p))) hj' ⟨putK xs key (.ref p), upd_same, rx.put key .ob⟩
  exact .inr ⟨a, _, rfl, DPut.k hx (sz_lt (rx.length ▸ hz)), q p F3 σ _ k4⟩
theorem evx_callS (ha : EvA K Γ M ta ds) (ht : T ds M P PX) (hE : ∀ C M', PX C M' → XtS K B G Γ C M' E) : EvX K B G Γ M (tCallS (spT K T) E ta) P := fun F σ H Q k q =>
  ha B G F σ H _ k fun vs F1 H1 k1 e1 r1 =>
    ⟨hid H1 M, F1, M, ds, P, PX, k1.call, r1, ht, fun d M' p v F' Γ2 σ2 H' k2 r => q v F' H' d M' (k1.back k2) (e1.trans k2.gf) r p, fun C M' p F' Γ2 σ2 H' k2 => hE C M' p F' σ H' (k1.back k2)⟩
theorem at_nd {N : L2.St → Hp → Prop} (h : (M.map (·.1)).Nodup → At K B G Γ M N) : At K B G Γ M N := fun F σ H k => h k.nd F σ H k
theorem eax_nil {P : List Dt → Sto → Prop} (h : P [] M) : EvAX K B G Γ M tNil P := fun F σ H Q k q => q [] F H [] M k (Ex.refl F) .nil h
theorem eax_cons {te : TE} {tq : TA} {P1 : Dt → Sto → Prop} {P : List Dt → Sto → Prop} (h : EvX K B G Γ M te P1) (hr : ∀ d M', P1 d M' → EvAX K B G Γ M' tq (fun ds M2 => P (d :: ds) M2)) : EvAX K B G Γ M (tCons te tq) P := fun F σ H Q k q =>
  h F σ H _ k fun v F1 H1 d M1 k1 e1 r1 p1 => hr d M1 p1 F1 σ H1 _ k1 fun vs F2 H2 ds M2 k2 e2 r2 p2 => q (v :: vs) F2 H2 (d :: ds) M2 k2 (e1.trans e2) (.cons (r1.mono e2) r2) p2
theorem evx_nd {te : TE} (h : EvX K B G Γ M te (fun d M' => (M'.map (·.1)).Nodup → P d M')) : EvX K B G Γ M te P := fun F σ H Q k q => h F σ H Q k fun v F' H' d M' k' e r p => q v F' H' d M' k' e r (p k'.nd)
theorem evx_andX {ta tb : TE} {P1 : Sto → Prop} (ha : EvX K B G Γ M ta (fun d M' => d = .bl true ∧ P1 M')) (hb : ∀ M', P1 M' → EvX K B G Γ M' tb P) : EvX K B G Γ M (tAndV ta tb) P := fun F σ H Q k q => ha F σ H _ k fun v F1 H1 d M1 k1 e1 r1 ⟨ed, p1⟩ => by
  subst ed
  cases r1
  exact ⟨true, rfl, hb M1 p1 F1 σ H1 Q k1 fun v F2 H2 d M2 k2 e2 r2 p => q v F2 H2 d M2 k2 (e1.trans e2) r2 p⟩
/-- a list of them, frozen -/
theorem evx_lstF {tq : TA} {P : List Dt → Sto → Prop} (h : EvAX K B G Γ M tq P) (hl : ∀ ds M', P ds M' → ds.length ≤ 10000000) : EvX K B G Γ M (tLst tq) (fun d M' => ∃ ds, d = .lst ds ∧ P ds M') := fun F σ H Q k q =>
  h F σ H _ k fun vs F1 H1 ds M1 k1 e1 r1 p1 => ⟨sz_le (r1.length ▸ hl ds M1 p1), fun p hp => by
    have k2 := k1.new (o := .lst vs) hp
    have ex : Ex F1 (upd F1 p (.lst vs)) := Ex.new (ex_none k1.fh hp)
    exact q (.ref p) _ _ (.lst ds) M1 k2 (e1.trans ex) (.lst upd_same (r1.mono ex)) ⟨ds, rfl, p1⟩⟩
end
end Vl
namespace Vl
open PySem PySem.Spec PyProof.Rows L2 Evl
/-! ### xs[::k] -/
def stIdx (n : Nat) (k : Int) : List Nat := sliceRange (sliceBounds none none (some k) n).1 (sliceBounds none none (some k) n).2.1 (sliceBounds none none (some k) n).2.2
def pickL {α : Type} (xs : List α) (k : Int) : List α := (stIdx xs.length k).filterMap (xs[·]?)
def tStepL (K : PySem.W.Frag) (te ts : TE) : TE := fun σ H Q => te σ H fun x H1 => tPart ts σ H1 fun o H2 => ∃ a xs k, o = some k ∧ x = .ref a ∧ k ≠ 0 ∧ SqL K H2 a xs ∧ (pickL xs k).length ≤ sizeLine ∧ ∀ p, H2 p = none → Q (.ref p) (upd H2 p (.lst (pickL xs k)))
theorem vals_pick {xs : List V} {its : List Value} (r : Vals xs its) : ∀ idx : List Nat, Vals (idx.filterMap (xs[·]?)) (idx.filterMap (its[·]?))
  | [] => .nil
  | i :: idx => by
    have ih := vals_pick r idx
    have hl := r.length
    by_cases h : i < xs.length
    · obtain ⟨u, hu, ru⟩ := r.get (List.getElem?_eq_getElem h)
      rw [List.filterMap_cons, List.filterMap_cons, List.getElem?_eq_getElem h, hu]
      exact .cons ru ih
    · rw [List.filterMap_cons, List.filterMap_cons, List.getElem?_eq_none (by omega), List.getElem?_eq_none (by omega)]
      exact ih
theorem pe_stepL {X : Cx} (K : PySem.W.Frag) (hK : X.K = K) {e st : Expr} {te ts : TE} {p3 pos : Pos} (he : PE X e te) (hs : PE X st ts) : PE X (.Subscript e (.Slice none none (some st) p3) pos) (tStepL K te ts) := by
  subst hK
  refine ⟨fun pins s σ H Q I h => ?_⟩
  refine Subscript_ (thn (he.run pins s σ H _ I h) fun v s1 ⟨x, H1, I1, r1, q1⟩ => ?_)
  have hst : PO X (some st) (tPart ts) := po_some hs
  refine wpAny_Slice (thn (po_none.run pins s1 σ H1 (fun o H2 => o = none ∧ H2 = H1) I1 ⟨rfl, rfl⟩) fun vl s2 ⟨l, H2, I2, pl, el, e2⟩ => ?_)
  subst el e2
  refine thn (po_none.run pins s2 σ H2 (fun o H3 => o = none ∧ H3 = H2) I2 ⟨rfl, rfl⟩) fun vu s3 ⟨u, H3, I3, pu, eu, e3⟩ => ?_
  subst eu e3
  refine thn (hst.run pins s3 σ H3 _ I3 q1) fun vs s4 ⟨o, H4, I4, ps, a, xs, k, eo, ex, k0, hx, hz2, q⟩ => ?_
  subst eo ex
  cases r1
  have I5 : Inv X pins σ H4 { s4 with heap := s4.heap.push { cls := .type "slice", data := .fields #[vl, vu, vs] } } := I4.kept (t' := s4.toks) fun b ob q => Heap.get?_push_of_some _ q
  obtain ⟨its, r, ht, hz⟩ := I5.list hx
  have hlen := r.length
  show wpAny (model X.prog X.w) X.A (subscriptTail e (.Slice none none (some st) p3) (.ref a) (.ref s4.heap.objs.size)) (EP X pins σ Q) X.xe { s4 with heap := s4.heap.push { cls := .type "slice", data := .fields #[vl, vu, vs] } }
  refine tail_any (ops := [.ref a, .ref s4.heap.objs.size]) ht.isList.typeIs (PySem.slot_list_getitem.lookup) ?_ (by with_unfolding_all rfl)
  refine wpAny_getItem_list_slice ht.isList (Heap.IsSliceOf.new _ vl vu vs) pl pu ps (fun z => k0 (Option.some.inj z)) ?_ (by rw [List.size_toArray]; omega)
  have hpick : slicePick its.toArray none none (some k) = (pickL its k).toArray := by
    unfold slicePick pickL stIdx
    rw [List.size_toArray]
    have e : (fun i : Nat => its.toArray[i]?) = (fun i : Nat => its[i]?) := by funext i; simp
    rw [e]
  have hv : Vals (pickL xs k) (pickL its k) := by
    have := vals_pick r (stIdx xs.length k)
    unfold pickL
    rw [← hlen]
    exact this
  rw [hpick]
  refine ⟨.ref _, _, I5.laid (t' := s4.toks) (o := .lst (pickL xs k)) (fun b ob q => Heap.get?_push_of_some _ q) (Nat.le_refl _) ?_, rfl, q _ (I5.hok.fresh (Nat.le_refl _))⟩
  exact ⟨hz2, _, 0, hv, Heap.get?_push_size _ rfl⟩
section
variable {K : PySem.W.Frag} {B G : Hp} {Γ : Gm} {M : Sto} {te ts : TE} {x : Dt}
theorem reps_pick {H : Hp} {vs : List V} {ds : List Dt} (r : Reps K H vs ds) : ∀ idx : List Nat, Reps K H (idx.filterMap (vs[·]?)) (idx.filterMap (ds[·]?))
  | [] => .nil
  | i :: idx => by
    have ih := reps_pick r idx
    have hl := r.length
    by_cases h : i < ds.length
    · obtain ⟨u, hu, ru⟩ := r.get (List.getElem?_eq_getElem h)
      rw [List.filterMap_cons, List.filterMap_cons, List.getElem?_eq_getElem h, hu]
      exact .cons ru ih
    · rw [List.filterMap_cons, List.filterMap_cons, List.getElem?_eq_none (by omega), List.getElem?_eq_none (by omega)]
      exact ih
theorem en_step {ds : List Dt} {k : Int} (he : EvD K Γ M te x) (l : Lst M x ds) (hs : EvD K Γ M ts (.int k)) (k0 : k ≠ 0) (hz : (pickL ds k).length ≤ 10000000) : EvN K Γ M (tStepL K te ts) (.lst (pickL ds k)) := fun B G F σ H Q kk q =>
  he B G F σ H _ kk fun v F1 H1 k1 e1 r1 => hs B G F1 σ H1 _ k1 fun w F2 H2 k2 e2 r2 => by
    cases r2
    obtain ⟨a, xs, rfl, h, t⟩ := l.at_ k2 (r1.mono e2)
    have hr : Reps K F2 (pickL xs k) (pickL ds k) := by
      have := reps_pick t (stIdx ds.length k)
      unfold pickL
      rw [t.length]
      exact this
    exact ⟨k, rfl, a, xs, k, rfl, rfl, k0, SqL.of h, by rw [hr.length]; exact sz_le hz, fun p hp => q p F2 _ (k2.cell hp ⟨_, upd_same, hr⟩) (e1.trans e2)⟩
theorem pick_mem {α : Type} {xs : List α} {k : Int} {y : α} (h : y ∈ pickL xs k) : y ∈ xs := by
  unfold pickL at h
  obtain ⟨i, _, hi⟩ := List.mem_filterMap.mp h
  exact List.mem_of_getElem? hi
theorem pick_len {α : Type} {xs : List α} {k : Int} (hk : 1 ≤ k) : (pickL xs k).length ≤ xs.length := by
  unfold pickL
  refine Nat.le_trans (List.length_filterMap_le _ _) ?_
  unfold stIdx sliceRange
  rw [List.length_map, List.length_range]
  have e1 : (sliceBounds none none (some k) xs.length).1 = 0 := by
    show (if k > 0 then (0 : Int) else _) = 0
    rw [if_pos (by omega)]
  have e2 : (sliceBounds none none (some k) xs.length).2.1 = xs.length := by
    show (if k > 0 then (xs.length : Int) else _) = _
    rw [if_pos (by omega)]
  have e3 : (sliceBounds none none (some k) xs.length).2.2 = k := rfl
  rw [e1, e2, e3]
  rw [if_pos (by omega)]
  split
  · have := ceilDiv_le ((xs.length : Int) - 0) k (by omega) hk
    omega
  · exact Nat.zero_le _
theorem reps_rep {H : Hp} {vs : List V} {ds : List Dt} (r : Reps K H vs ds) : ∀ n : Nat, Reps K H (List.replicate n vs).flatten (List.replicate n ds).flatten
  | 0 => .nil
  | n + 1 => by
    rw [List.replicate_succ, List.replicate_succ, List.flatten_cons, List.flatten_cons]
    exact r.append (reps_rep r n)
theorem u_repL {ds : List Dt} {k : Int} (l : Lst M x ds) (h1 : -(2 ^ 63) ≤ k) (h2 : k < 2 ^ 63) (hz : ds.length * k.toNat ≤ 10000000) : OpN K M rMulU x (.int k) (.lst (List.replicate k.toNat ds).flatten) := fun B G F Γ σ H u w Q kk r1 r2 q => by
  cases r2
  obtain ⟨a, xs, rfl, h, t⟩ := l.at_ kk r1
  exact .inr ⟨a, k, xs, rfl, rfl, h, h1, h2, by rw [t.length]; exact sz_le hz, fun p hp => q p F _ (kk.cell hp ⟨_, upd_same, reps_rep t _⟩) (Ex.refl F)⟩
theorem evx_tup {tq : TA} {P : List Dt → Sto → Prop} (h : EvAX K B G Γ M tq P) (hl : ∀ ds M', P ds M' → ds.length ≤ 10000000) : EvX K B G Γ M (tTup tq) (fun d M' => ∃ ds, d = .tup ds ∧ P ds M') := fun F σ H Q k q =>
  h F σ H _ k fun vs F1 H1 ds M1 k1 e1 r1 p1 => ⟨sz_le (r1.length ▸ hl ds M1 p1), fun p hp => by
    have k2 := k1.new (o := .tup vs) hp
    have ex : Ex F1 (upd F1 p (.tup vs)) := Ex.new (ex_none k1.fh hp)
    exact q (.ref p) _ _ (.tup ds) M1 k2 (e1.trans ex) (.tup upd_same (r1.mono ex)) ⟨ds, rfl, p1⟩⟩
theorem evx_rev {P : List Dt → Sto → Prop} (h : EvX K B G Γ M te (fun d M' => ∃ ds, d = .lst ds ∧ P ds M')) : EvX K B G Γ M (tRevL K te) (fun d M' => ∃ ds, d = .lst ds.reverse ∧ P ds M') := fun F σ H Q k q =>
  h F σ H _ k fun v F1 H1 d M1 k1 e1 r1 ⟨ds, ed, p1⟩ => by
    subst ed
    cases r1 with | lst hf t =>
    rename_i aa xs
    refine ⟨_, _, rfl, SqL.of (k1.fh _ _ hf), fun p hp => ?_⟩
    have k2 := k1.new (o := .lst xs.reverse) hp
    have ex : Ex F1 (upd F1 p (.lst xs.reverse)) := Ex.new (ex_none k1.fh hp)
    exact q (.ref p) _ _ (.lst ds.reverse) M1 k2 (e1.trans ex) (.lst upd_same (t.reverse.mono ex)) ⟨ds, rfl, p1⟩
theorem flat_strs (l : List Str) : (l.map Dt.str).all flatD = true := by
  rw [List.all_map, List.all_eq_true]
  intro x _
  rfl
theorem in_strs (s : Str) (l : List Str) : inDt (.str s) (l.map Dt.str) = decide (s ∈ l) := by
  unfold inDt inV
  induction l with
  | nil => rfl
  | cons x r ih =>
    rw [List.map_cons, List.map_cons, List.any_cons, ih]
    by_cases h : x = s
    · subst h
      have : eqV (vD (.str x)) (vD (.str x)) = true := by simp [vD, eqV]
      rw [this]; simp
    · have h2 : s ≠ x := fun z => h z.symm
      have : eqV (vD (.str x)) (vD (.str s)) = false := by simp [vD, eqV, h]
      rw [this]; simp [h2]
end
end Vl
namespace Vl
open PySem PySem.Spec PyProof.Rows L2 Evl
/-! ### comprehensions of new lists -/
section
variable {K : PySem.W.Frag} {B G F F' F1 H H' : Hp} {Γ : Gm} {M : Sto} {σ : L2.St} {te : TE} {tq : TA} {j : Nat} {Dl : Addr}
open Classical in
theorem lc_showN {Γ2 : Gm} {σ2 : L2.St} {M' : Sto} (k0 : Ok K B G F Γ M σ H) (nb : B Dl = none) (k : Ok K (fun a => if a = Dl then H Dl else B a) G F' Γ2 M' σ2 H') (e : Ex F F') (hf : F Dl = none) (u : HO) (hu : H Dl = some u) : Ok K B G F' Γ M' σ H' ∧ H' Dl = some u ∧ F' Dl = none ∧ Dl ∉ M'.map (·.1) := by
  have hB : Ex B H' := fun a o e => k.bh a o (by
    have : a ≠ Dl := fun z => by rw [z, nb] at e; cases e
    simpa [this] using e)
  have hne : ∀ p ∈ M', p.1 ≠ Dl := fun p hp z => by
    have := (k.cel p hp).2.1
    rw [if_pos z, hu] at this; cases this
  refine ⟨⟨k.fh, k.gf, hB, fun a ha => ?_, k0.len, fun i d h => let ⟨v, h1, r⟩ := k0.env i d h; ⟨v, h1, r.mono e⟩, fun p hp => ?_, k.nd⟩, k.bh Dl u (by simpa using hu), ?_, fun m => ?_⟩
  · have : a ≠ Dl := fun z => ha (by rw [z]; exact nb)
    exact k.nw a (by simpa [this] using ha)
  · obtain ⟨c1, c2, c3⟩ := k.cel p hp
    rw [if_neg (hne p hp)] at c2
    exact ⟨c1, c2, c3⟩
  · have := k.nw Dl (by simp [hu])
    rw [this]; exact ex_none k.gf (by
      cases q : F' Dl with
      | none => rfl
      | some o => rw [this] at q; rw [k0.gf Dl o q] at hf; cases hf)
  · obtain ⟨p, hp, e1⟩ := List.mem_map.mp m
    exact hne p hp e1
theorem lc_turnN {v : V} {d : Dt} {o : Ow} {ds : List Dt} (I : LcI K B G F1 Γ M σ Dl ds H) (rv : Rep K F1 v d) (hz : ds.length < 10000000) (he : EvN K (Γ.set j (some d)) M te o) {N : V → Hp → List V → Prop}
    (hN : ∀ p acc H4, LcI K B G F1 Γ ((p, o) :: M) σ Dl (ds ++ [.ob p]) (upd H4 Dl (.lst (acc ++ [.ref p]))) → N (.ref p) H4 acc) :
    te (σ.set j (some v)) H fun y H4 => ∃ acc, H4 Dl = some (.lst acc) ∧ acc.length < sizeLine ∧ N y H4 acc := by
  obtain ⟨⟨F, acc, k, e1, hD, hf, ra⟩, nm, nb⟩ := I
  refine he _ G F _ H _ (lc_hide (k.setS (rv.mono e1)) hf nm) fun p F4 H4 k4 e4 => ?_
  obtain ⟨k5, hD4, hf4, nm4⟩ := lc_showN k nb k4 e4 hf _ hD
  refine ⟨acc, hD4, sz_lt (ra.length ▸ hz), hN p acc H4 ⟨⟨F4, acc ++ [.ref p], ⟨Ex.mut k5.fh hf4, k5.gf, Ex.mut k5.bh nb, k5.nw, k5.len, k5.env, fun q hq => ?_, k5.nd⟩, e1.trans e4, upd_same, hf4, (ra.mono e4).append (.cons .ob .nil)⟩, nm4, nb⟩⟩
  obtain ⟨c1, c2, c3⟩ := k5.cel q hq
  exact ⟨c1, c2, c3.mono (Ex.refl _) (upd_ne fun z => nm4 (List.mem_map.mpr ⟨q, hq, z⟩))⟩
/-- the new cells behind i turns -/
theorem evx_lcN {n : Int} (o : Nat → Ow) (hd : EvA K Γ M tq [.int n]) (hn : n ≤ 1000000) (hn0 : -(2 ^ 62) ≤ n)
    (he : ∀ (i : Nat) (X : Sto), (i : Int) < n → EvN K (Γ.set j (some (.int i))) (X ++ M) te (o i)) :
    EvX K B G Γ M (tLc (iRng1 tq) (gName j) tYes te [j]) (fun d M' => ∃ (l : Addr) (as : List Addr), as.length = n.toNat ∧ d = .ob l ∧ M' = (l, Ow.lst (as.map Dt.ob)) :: ((as.zip ((List.range n.toNat).map o)).reverse ++ M)) := fun F σ H Q k q => hd B G F σ H _ k fun vs F1 H1 k1 e1 r1 => by
  obtain ⟨v, rfl, r⟩ := r1.one
  cases r
  refine ⟨n, rfl, hn0, by omega, fun Dl hD => lc_range (lo := 0) (n := n.toNat) (fun i H' => ∃ as : List Addr, as.length = i ∧ LcI K B G F1 Γ ((as.zip ((List.range i).map o)).reverse ++ M) σ Dl (as.map Dt.ob) H') ⟨[], rfl, lc_start k1 hD⟩ (fun i H' hi I => ?_) (fun H' I => ?_)⟩
  · obtain ⟨as, hl, I⟩ := I
    rw [Int.zero_add]
    refine ⟨wipe1, ?_⟩
    rw [wipe1s]
    unfold tYes
    dsimp only
    rw [if_pos rfl]
    refine lc_turnN (j := j) (v := .int (i : Int)) (d := .int (i : Int)) I .int (by rw [List.length_map]; omega) (he i _ (by omega)) (N := fun y H4 acc => ∃ as : List Addr, as.length = i + 1 ∧ LcI K B G F1 Γ ((as.zip ((List.range (i + 1)).map o)).reverse ++ M) σ Dl (as.map Dt.ob) (upd H4 Dl (.lst (acc ++ [y])))) fun p acc H4 a3 => ?_
    refine ⟨as ++ [p], by rw [List.length_append, hl]; rfl, ?_⟩
    rw [List.range_succ, List.map_append, List.zip_append (by rw [hl, List.length_map, List.length_range]), List.reverse_append, List.map_append]
    exact a3
  · obtain ⟨as, hl, I⟩ := I
    obtain ⟨F3, k3, e3⟩ := lc_end I
    exact q (.ref Dl) F3 H' (.ob Dl) _ k3 (e1.trans e3) .ob ⟨Dl, as, hl, rfl, rfl⟩
end
/-! ### max of a list of numbers -/
theorem kmaxI {X : Cx} (K : PySem.W.Frag) (hK : X.K = K) (hc : X.calm = true) : CallR X (.builtin "max") (rMax K) := hK ▸ cr_max hc
theorem c_maxI {K : PySem.W.Frag} {M : Sto} {x : Dt} {ns : List Int} {m : Int} (l : Lst M x (ns.map Dt.int)) (hm : m ∈ ns) (hle : ∀ y ∈ ns, y ≤ m) : OpC K M (rMax K) [x] (.int m) := fun B G F Γ σ H u Q k r1 q => by
  obtain ⟨v, rfl, r⟩ := r1.one
  obtain ⟨a, xs, rfl, h1, t1⟩ := l.at_ k r
  obtain rfl := t1.of_ints
  refine ⟨a, ns, rfl, SqL.of h1, List.length_pos_of_mem hm, fun m' h1 h2 => ?_⟩
  have : m' = m := by
    have a1 := h2 m hm
    have a2 := hle m' h1
    omega
  subst this
  exact q _ F H k (Ex.refl F) .int
/-! ### pairs in order rise by their numbers -/
theorem leIS_fst {p q : Int × Str} (h : leIS p q = true) : p.1 ≤ q.1 := by
  unfold leIS ltIS at h
  by_cases z : p.1 ≤ q.1
  · exact z
  · exfalso
    have e : OrdIS.blt (sortKey q) (sortKey p) = true := by
      show lexLt itemOrd (Sum.inl q.1 :: _) (Sum.inl p.1 :: _) = true
      exact lex_true.mpr (.inl (decide_eq_true (show q.1 < p.1 by omega)))
    rw [e] at h
    cases h
def leI (a b : Int) : Bool := decide (a ≤ b)
theorem srtIS_fst {l : List (Int × Str)} (h : (l.map (·.1)).Pairwise (· ≤ ·)) : (srtIS l).map (·.1) = l.map (·.1) := by
  apply srt_uniq (le := leI) (fun a b h1 h2 => by have := of_decide_eq_true h1; have := of_decide_eq_true h2; omega) ((srtIS_perm l).map _)
  · rw [List.pairwise_map]
    exact (srtIS_sorted l).imp fun h => decide_eq_true (leIS_fst h)
  · exact h.imp fun h => decide_eq_true h
  · intro a; exact decide_eq_true (Int.le_refl a)
/-! ### the loop over a dict: it is locked meanwhile -/
section
variable {K : PySem.W.Frag} {B G F F' H H' : Hp} {Γ Γ' : Gm} {M : Sto} {σ σ' : L2.St} {a : Addr}
theorem Ok.lock {kvs : List (Key × Dt)} {xs : List (Key × V)} {j0 : Nat} (k : Ok K B G F Γ M σ H) (hj : M[j0]? = some (a, .dct kvs)) (od : Obj) : Ok K (upd B a (.frz od (.dK xs))) G F Γ (M.eraseIdx j0) σ (upd H a (.frz od (.dK xs))) := by
  obtain ⟨c1, c2, _⟩ := k.at_ hj
  have hG : G a = none := ex_none k.gf c1
  have hsp := cell_split hj k.nd
  refine ⟨Ex.mut k.fh c1, k.gf, fun b o e => ?_, fun b hb => ?_, k.len, k.env, fun p hp => ?_, ((List.eraseIdx_sublist M j0).map _).nodup k.nd⟩
  · by_cases h0 : b = a
    · subst h0; rw [upd_same] at e ⊢; exact e
    · rw [upd_ne h0] at e ⊢; exact k.bh b o e
  · by_cases h0 : b = a
    · subst h0; rw [c1, hG]
    · rw [upd_ne h0] at hb; exact k.nw b hb
  · obtain ⟨d1, d2, d3⟩ := k.cel p ((List.eraseIdx_sublist M j0).subset hp)
    have ne := hsp p hp
    exact ⟨d1, by rw [upd_ne ne]; exact d2, d3.mono (Ex.refl _) (upd_ne ne)⟩
theorem Ok.unlock {kvs : List (Key × Dt)} {xs : List (Key × V)} {j0 : Nat} {G1 : Hp} {od : Obj} (k : Ok K B G F Γ M σ H) (hj : M[j0]? = some (a, .dct kvs)) (hx : H a = some (.dK xs)) (k2 : Ok K (upd B a (.frz od (.dK xs))) G1 F' Γ' (M.eraseIdx j0) σ' H') (l : Le (upd B a (.frz od (.dK xs))) G G1) (rx : RepK K F' xs kvs) : Ok K B G F' Γ' M σ' (upd H' a (.dK xs)) := by
  obtain ⟨c1, c2, _⟩ := k.at_ hj
  have hG : G a = none := ex_none k.gf c1
  have hsp := cell_split hj k.nd
  have hFa : F' a = none := by
    rw [k2.nw a (by rw [upd_same]; exact fun z => nomatch z), l.eq a (by rw [upd_same]; exact fun z => nomatch z), hG]
  have hBa : ∀ b, B b ≠ none → b ≠ a := fun b hb z => by rw [z, c2] at hb; exact hb rfl
  refine ⟨Ex.mut k2.fh hFa, l.ex.trans k2.gf, fun b o e => ?_, fun b hb => ?_, k2.len, k2.env, fun p hp => ?_, k.nd⟩
  · have hb : b ≠ a := hBa b (by rw [e]; exact fun z => nomatch z)
    rw [upd_ne hb]
    exact k2.bh b o (by rw [upd_ne hb]; exact e)
  · have hb' : upd B a (.frz od (.dK xs)) b ≠ none := by rw [upd_ne (hBa b hb)]; exact hb
    rw [k2.nw b hb', l.eq b hb']
  · rcases mem_cell hj hp with rfl | hp
    · exact ⟨hFa, c2, xs, upd_same, rx⟩
    · obtain ⟨d1, d2, d3⟩ := k2.cel p hp
      have ne := hsp p hp
      exact ⟨d1, by rw [upd_ne ne] at d2; exact d2, d3.mono (Ex.refl _) (upd_ne ne)⟩
theorem at_forK {kvs : List (Key × Dt)} {tl : TE} {g : TG} {tb : TS} {D : Ends} (j0 : Nat) (hj : M[j0]? = some (a, .dct kvs)) (hd : EvD K Γ (M.eraseIdx j0) tl (.ob a)) (I : Nat → Gm → Prop) (h0 : I 0 Γ)
    (hs : ∀ (od : Obj) (xs : List (Key × V)) (B' G' : Hp), B' a = some (.frz od (.dK xs)) → RepK K G' xs kvs → ∀ (rt : VK) (bk : L2.St → Hp → Prop) (i : Nat) (kv : Key × Dt) Γ', kvs[i]? = some kv → I i Γ' →
      AtG K B' G' Γ' (M.eraseIdx j0) g (kD kv.1) (tb { nx := Up K B' G' (fun Γ2 M2 => I (i + 1) Γ2 ∧ M2 = M.eraseIdx j0), rt := rt, bk := bk, ct := Up K B' G' (fun Γ2 M2 => I (i + 1) Γ2 ∧ M2 = M.eraseIdx j0) }))
    (hq : ∀ Γ', I kvs.length Γ' → At K B G Γ' M D.nx) : At K B G Γ M (tLock (tFor (iKeys tl) g tb) D) := fun F σ H k => by
  obtain ⟨c1, c2, xs, hx, rx⟩ := k.at_ hj
  refine ⟨a, _, hx, trivial, fun od => ?_⟩
  have k1 : Ok K (upd B a (.frz od (.dK xs))) G F Γ (M.eraseIdx j0) σ (upd H a (.frz od (.dK xs))) := k.lock hj od
  refine hd _ G F σ _ _ k1 fun v F1 H1 k2 e1 r1 => ?_
  cases r1
  have hlen := rx.length
  obtain ⟨kh, le⟩ := k2.here
  refine ⟨a, od, rfl, .inl ⟨xs, k2.bh a _ upd_same, fun i m σ' H' => m = kvs.length - i ∧ i ≤ kvs.length ∧ Up K (upd B a (.frz od (.dK xs))) F1 (fun Γ2 M2 => I i Γ2 ∧ M2 = M.eraseIdx j0) σ' H', ⟨kvs.length, by simp, Nat.zero_le _, F1, Γ, _, kh, h0, rfl⟩, ?_⟩⟩
  rintro i m σ' H' ⟨rfl, hi, F', Γ', M', k', p, rfl⟩
  by_cases hlt : i < kvs.length
  · refine .inr ⟨⟨k'.bh a _ upd_same, by omega⟩, Up K (upd B a (.frz od (.dK xs))) F1 (fun Γ2 M2 => I (i + 1) Γ2 ∧ M2 = M.eraseIdx j0), fun σ2 H2 p' => ⟨kvs.length - (i + 1), by omega, rfl, hlt, p'⟩, fun x H2 y => ?_⟩
    obtain ⟨rfl, ky, vy, hxi, rfl⟩ := y
    obtain ⟨kv, hkv⟩ : ∃ kv, kvs[i]? = some kv := ⟨kvs[i], List.getElem?_eq_getElem hlt⟩
    have hkk : kv.1 = ky := by
      have e1 : (xs.map (·.1))[i]? = some ky := by rw [List.getElem?_map, hxi]; rfl
      have e2 : (kvs.map (·.1))[i]? = some kv.1 := by rw [List.getElem?_map, hkv]; rfl
      rw [rx.keys, e2] at e1
      exact Option.some.inj e1
    exact hs od xs _ F1 upd_same (rx.mono e1) _ _ i kv Γ' hkv p F' σ' _ _ k' (by rw [hkk]; exact rep_key)
  · have e : i = kvs.length := by omega
    subst e
    exact .inl ⟨⟨k'.bh a _ upd_same, by omega⟩, k'.bh a _ upd_same, hq Γ' p F' σ' _ (k.unlock hj hx k' le (rx.mono (e1.trans k'.gf)))⟩
/-- sorted pairs of a dict that is locked -/
theorem evx_sortLock {od : Obj} {xs : List (Key × V)} {kvs : List (Key × Dt)} {io ic : Nat} {key : Key} {l : List (Int × Str)} (hB : B a = some (.frz od (.dK xs))) (rx : RepK K G xs kvs) (ho : Γ[io]? = some (some (.ob a))) (hc : Γ[ic]? = some (some (kD key))) (hv : valD kvs key = some (.lst (l.map isD))) :
    EvX K B G Γ M (tCB (rSortIS K) (tCons (tOp (rIxU K) (tVar io) (tVar ic)) tNil)) (fun d M' => d = .lst ((srtIS l).map isD) ∧ M' = M) := fun F σ H Q k q => by
  obtain ⟨v, h1, r⟩ := k.env io _ ho
  obtain ⟨w, h2, r2⟩ := k.env ic _ hc
  refine ⟨v, h1, w, h2, ?_⟩
  cases r
  obtain rfl := r2.key
  refine ix_lock hB rx k.gf k hv fun u ru => ?_
  exact (c_sortIS (K := K) (M := M) (x := .lst (l.map isD)) .frz) B G F Γ σ H _ _ k (.cons ru .nil) fun p F1 H1 k1 e1 => by
    obtain ⟨f1, _, ys, hy, ry⟩ := k1.cel (p, .lst ((srtIS l).map isD)) List.mem_cons_self
    exact q (.ref p) (upd F1 p (.lst ys)) H1 _ _ (k1.freeze (j := 0) rfl hy) (e1.trans (Ex.new f1)) (.lst upd_same (ry.mono (Ex.new f1))) ⟨rfl, rfl⟩
/-- a call whose arguments are seen with the cells within, by arguments of any kind -/
theorem evx_callVX {T : TmV} {ta : TA} {E : XK} {ds ds' : List Dt} {d : Dt} (ha : EvAX K B G Γ M ta (fun ds2 M2 => ds2 = ds ∧ M2 = M)) (hs : SeesL M ds ds') (ht : T ds' [] (fun d' M' => d' = d ∧ M' = []) (fun _ _ => False)) (hc : clD d = true) : EvX K B G Γ M (tCall (spT K T) [] E ta) (fun d' M' => d' = d ∧ M' = M) := fun F σ H Q k q => by
  refine ha F σ H _ k fun vs F1 H1 ds2 M2 k1 e1 r1 ⟨h1, h2⟩ => ?_
  subst h1 h2
  show spT K T (vs ++ []) H1 Q E
  rw [List.append_nil]
  refine ⟨H1, withC F1 H1 M2, [], ds', fun d' M' => d' = d ∧ M' = [], fun _ _ => False, k1.callV, hs.rep k1 (r1.mono k1.exC), ht, fun d2 M' p v F' Γ2 σ2 H' k2 r => ?_, fun _ _ z => z.elim⟩
  obtain ⟨rfl, rfl⟩ := p
  obtain ⟨k3, e3, g⟩ := k1.backV k2 (fun p hp => absurd hp (by simp))
  exact q v _ H' _ _ k3 (e1.trans e3) (g v _ r hc) ⟨rfl, rfl⟩
end
end Vl
/-! Vl20: the head's part of the heap, grown by its rim alone (seen ones are bits of a number: cheap for the kernel). -/
namespace Vl
open PySem PySem.Spec PyProof.Rows L2
def rimQ (g : Addr → Option Obj) (fr : List Addr) (st : Nat × List Addr) : Nat × List Addr :=
  fr.foldl (fun st a => match g a with
    | none => st
    | some o => (He.refsD o).foldl (fun st b => match Nat.testBit st.1 b with
      | true => st
      | false => (st.1 ||| (1 <<< b), b :: st.2)) st) st
def growQ (g : Addr → Option Obj) : Nat → Nat → List Addr → List Addr → List Addr
  | 0, _, fr, all => all ++ fr
  | n + 1, seen, fr, all => match rimQ g fr (seen, []) with
    | (s2, new) => growQ g n s2 new (all ++ fr)
def asQ (g : Addr → Option Obj) (n : Nat) : List Addr := growQ g n (1 <<< mainGlobals) [mainGlobals] []
def obsQ (n : Nat) (fa : List He.Fa) (fn : List He.DefD) (g : Addr → Option Obj) : He.AlD := He.obsD fa fn (He.frG g (asQ g n))
def hookQ (n : Nat) (fa : List He.Fa) (fn : List He.DefD) : PySem.W.Hook where
  α := He.AlD
  obs := fun s => obsQ n fa fn s.heap.get?
  val := fun _ => He.valD fn
  says := fun _ h => ∃ K : PySem.W.Frag, K.In h ∧ He.SaysD fa fn K
  of := fun _ _ e => ⟨_, He.frG_in, e⟩
  keeps := fun _ _ _ ⟨K, hK, c⟩ k => ⟨K, PySem.W.Frag.In.keeps hK k, c⟩
theorem obsQ_eq {n : Nat} {fa : List He.Fa} {fn : List He.DefD} {g : Addr → Option Obj} {s : Shared} (h : ∀ a, g a = s.heap.get? a) : obsQ n fa fn g = (hookQ n fa fn).obs s := by
  have e : g = s.heap.get? := funext h
  rw [e] <;> rfl
end Vl
namespace Tg
open PySem PySem.Spec PyProof.Rows L2 Vl
open Evl (Ex)
local macro_rules | `(tactic| walk_at "side") => `(tactic| first
  | assumption
  | rfl
  | decide
  | omega
  | exact Nat.le_of_ble_eq_true rfl
  | (refine Or.inr ⟨?_, ?_⟩ <;> first | decide | omega)
  | (refine Or.inl ⟨?_, ?_⟩ <;> first | decide | omega)
  | (refine ⟨?_, ?_⟩ <;> first | decide | omega)
  | (simp only [List.length_append, List.length_cons, List.length_nil, List.length_map, List.length_set]; omega)
  | (show (0 : Int) < _; omega))
local macro_rules | `(tactic| walk_at "lst") => `(tactic| first
  | exact Lst.frz
  | exact Lst.own (j := 0) rfl
  | exact Lst.own (j := 1) rfl
  | exact Lst.own (j := 2) rfl
  | exact Lst.own (j := 3) rfl)
local macro_rules | `(tactic| walk_at "dct") => `(tactic| first
  | exact Dct.frz
  | exact Dct.own (j := 0) rfl
  | exact Dct.own (j := 1) rfl
  | exact Dct.own (j := 2) rfl
  | exact Dct.own (j := 3) rfl)
local macro_rules | `(tactic| walk_at "atI") => `(tactic| first
  | rfl
  | assumption
  | exact atI_mapI (by walk_at "side") (by walk_at "side")
  | exact atI_mapD (by walk_at "side") (by walk_at "side")
  | exact atI_D _ (by walk_at "side") (by walk_at "side"))
local macro_rules | `(tactic| walk_at "op") => `(tactic| first
  | exact u_addI
  | exact op2_I0
  | exact op2_IB
  | exact u_ltI
  | exact u_eqI
  | exact u_neI
  | exact u_eqS
  | exact u_neS
  | exact u_eqB
  | exact u_neB
  | (apply op2_I; walk_at "side")
  | (apply u_mulI; walk_at "side")
  | (apply u_ixT; walk_at "atI")
  | (apply u_ixR; walk_at "atI")
  | (apply u_ixS; (focus walk_at "side"); walk_at "atI")
  | (apply u_ixL; (focus walk_at "lst"); walk_at "atI")
  | exact u_inS
  | exact u_niS
  | (apply u_addS; walk_at "side"))
local macro_rules | `(tactic| walk_at "cb") => `(tactic| first
  | (apply u_lenL; walk_at "lst")
  | exact u_lenR
  | exact u_lenT
  | exact u_lenS (by walk_at "side")
  | (apply u_lenD; walk_at "dct")
  | exact c_intB
  | exact c_max2
  | exact c_min2
  | exact c_strI (by walk_at "side")
  | exact c_isi rfl rfl
  | (apply c_isiL; (focus walk_at "lst"); rfl)
  | (apply c_sum; walk_at "lst")
  | (apply c_all; walk_at "lst"))
local macro_rules | `(tactic| walk_at "ev") => `(tactic| first
  | exact ed_int
  | exact ed_str
  | exact ed_bl
  | exact ed_non
  | exact ed_ty
  | exact ed_var rfl
  | ((with_reducible apply ed_op); (focus walk_at "ev"); (focus walk_at "ev"); (focus walk_at "op"))
  | ((with_reducible apply ed_cb); (focus walk_at "ea"); (focus walk_at "cb"))
  | ((with_reducible apply ed_un); (focus walk_at "ev"); exact op1_neg)
  | ((with_reducible apply ed_isN); walk_at "ev")
  | ((with_reducible apply ed_notN); walk_at "ev")
  | ((with_reducible apply ed_tup); (focus walk_at "ea"); walk_at "side")
  | ((with_reducible apply ed_notV); walk_at "ev")
  | ((with_reducible apply ed_andV); (focus walk_at "ev"); (intro _; walk_at "ev"))
  | ((with_reducible apply ed_orV); (focus walk_at "ev"); (intro _; walk_at "ev"))
  | ((with_reducible apply ed_chain); (focus walk_at "ev"); (focus walk_at "ev"); (focus walk_at "op"); (focus (intro _; walk_at "ev")); (intro _; walk_at "op"))
  | ((with_reducible apply ed_slS); (focus walk_at "ev"); (focus walk_at "side"); (focus walk_at "ep"); (focus walk_at "ep"))
  | (apply EvN.toD; walk_at "en"))
local macro_rules | `(tactic| walk_at "ep") => `(tactic| first
  | exact ep_none
  | (apply ep_some; walk_at "ev"))
local macro_rules | `(tactic| walk_at "ea") => `(tactic| first
  | exact ea_nil
  | (apply ea_cons; (focus walk_at "ev"); (focus walk_at "ea")))
local macro_rules | `(tactic| walk_at "en") => `(tactic| first
  | ((with_reducible apply en_lst); (focus walk_at "ea"); walk_at "side")
  | ((with_reducible apply en_op); (focus walk_at "ev"); (focus walk_at "ev"); (apply u_addL; (focus walk_at "lst"); (focus walk_at "lst"); walk_at "side"))
  | ((with_reducible apply en_slL); (focus walk_at "ev"); (focus walk_at "lst"); (focus walk_at "ep"); (focus walk_at "ep"))
  | ((with_reducible apply en_rev); (focus walk_at "ev"); (focus walk_at "lst"))
  | ((with_reducible apply en_cb); (focus walk_at "ea"); first | (apply c_list; walk_at "lst") | exact c_listT)
  | exact en_dnew)
local macro_rules | `(tactic| walk_at "et") => `(tactic| first
  | ((with_reducible apply et_test); walk_at "ev")
  | ((with_reducible apply et_B); walk_at "ev")
  | ((with_reducible apply et_not); walk_at "et")
  | ((with_reducible apply et_and); (focus walk_at "et"); (intro _; walk_at "et"))
  | ((with_reducible apply et_or); (focus walk_at "et"); (intro _; walk_at "et"))
  | exact et_yes)
local macro_rules | `(tactic| walk_at "q") => `(tactic| dsimp only [List.set])
local macro_rules | `(tactic| walk_at "asg") => `(tactic| (apply at_seq; apply at_asg; (focus walk_at "ev"); walk_at "q"))
local macro_rules | `(tactic| walk_at "asgN") => `(tactic| (apply at_seq; apply at_asgN; (focus walk_at "en"); intro _; walk_at "q"))
local macro_rules | `(tactic| walk_at "if") => `(tactic| (apply at_if; (focus walk_at "et")))
local macro_rules | `(tactic| walk_at "nx") => `(tactic| (apply at_next; walk_at "q"))
local macro_rules | `(tactic| walk_at "sq") => `(tactic| (apply at_seq; try walk_at "q"))
def top (i : Nat) : Stmt := PySem.Challenge.pw_tollguess_k12_whole_as_it_is_now.main.body.getD i (.Pass ⟨0, 0, 0, 0⟩)
abbrev s_L_mixed : Stmt := top 44
abbrev s_Net___init__ : Stmt := inClass (top 37) 0
abbrev s_is_name : Stmt := top 36
abbrev s_Net_gate : Stmt := inClass (top 37) 2
abbrev s_Net_need : Stmt := inClass (top 37) 1
abbrev s_Net_road : Stmt := inClass (top 37) 3
abbrev s_Net_need_road : Stmt := inClass (top 37) 7
abbrev s_Net_close : Stmt := inClass (top 37) 8
abbrev s_L_net : Stmt := top 50
abbrev s_Watch___init__ : Stmt := inClass (top 40) 0
abbrev s_L_kept_well : Stmt := top 60
abbrev s_L_line : Stmt := top 47
abbrev s_L_name : Stmt := top 45
abbrev s_Net_is_blind : Stmt := inClass (top 37) 13
abbrev s_Watch_saw : Stmt := inClass (top 40) 1
abbrev s_L_sighted : Stmt := top 55
abbrev s_look : Stmt := top 21
abbrev s_Net_leaving : Stmt := inClass (top 37) 12
abbrev s_Net_line : Stmt := inClass (top 37) 14
abbrev s_Net_place_of : Stmt := inClass (top 37) 15
abbrev s_goes_on : Stmt := top 14
abbrev s_reached : Stmt := top 15
abbrev s_least : Stmt := top 16
abbrev s_roads_to : Stmt := top 17
abbrev s_leg : Stmt := top 19
abbrev s_gates_passed : Stmt := top 22
abbrev s_guess : Stmt := top 23
abbrev s_L_guesses_stand : Stmt := top 58
abbrev s_Watch_seen : Stmt := inClass (top 40) 2
abbrev s_toll_of : Stmt := top 25
abbrev s_Watch_cars : Stmt := inClass (top 40) 3
abbrev s_bill : Stmt := top 26
abbrev s_total : Stmt := top 27
abbrev s_L_whole : Stmt := top 43
abbrev s_L_bill_stands : Stmt := top 56
abbrev s_L_costs : Stmt := top 51
abbrev s_L_least : Stmt := top 52
abbrev s_L_due : Stmt := top 53
abbrev s_L_leg_stands : Stmt := top 57
abbrev s_L_stands : Stmt := top 59
abbrev s_Watch_forget : Stmt := inClass (top 40) 4
abbrev s_Net_turn : Stmt := inClass (top 37) 4
abbrev s_Net_blind : Stmt := inClass (top 37) 5
abbrev s_Net_mend : Stmt := inClass (top 37) 6
abbrev s_Net_reopen : Stmt := inClass (top 37) 9
abbrev s_L_turned : Stmt := top 54
abbrev s_L_cell_at : Stmt := top 42
abbrev s_law : Stmt := top 61
def d_L_mixed : He.DefD := ⟨("_law_mixed", none), "_law_mixed", "_law_mixed", defArgs s_L_mixed, defBody s_L_mixed, defScope s_L_mixed, [], []⟩
def d_Net___init__ : He.DefD := ⟨("Net", some "__init__"), "__init__", "Net.__init__", defArgs s_Net___init__, defBody s_Net___init__, defScope s_Net___init__, [], []⟩
def d_is_name : He.DefD := ⟨("is_name", none), "is_name", "is_name", defArgs s_is_name, defBody s_is_name, defScope s_is_name, [], []⟩
def d_Net_gate : He.DefD := ⟨("Net", some "gate"), "gate", "Net.gate", defArgs s_Net_gate, defBody s_Net_gate, defScope s_Net_gate, [], []⟩
def d_Net_need : He.DefD := ⟨("Net", some "need"), "need", "Net.need", defArgs s_Net_need, defBody s_Net_need, defScope s_Net_need, [], []⟩
def d_Net_road : He.DefD := ⟨("Net", some "road"), "road", "Net.road", defArgs s_Net_road, defBody s_Net_road, defScope s_Net_road, [], []⟩
def d_Net_need_road : He.DefD := ⟨("Net", some "need_road"), "need_road", "Net.need_road", defArgs s_Net_need_road, defBody s_Net_need_road, defScope s_Net_need_road, [], []⟩
def d_Net_close : He.DefD := ⟨("Net", some "close"), "close", "Net.close", defArgs s_Net_close, defBody s_Net_close, defScope s_Net_close, [], []⟩
def d_L_net : He.DefD := ⟨("_law_net", none), "_law_net", "_law_net", defArgs s_L_net, defBody s_L_net, defScope s_L_net, [], []⟩
def d_Watch___init__ : He.DefD := ⟨("Watch", some "__init__"), "__init__", "Watch.__init__", defArgs s_Watch___init__, defBody s_Watch___init__, defScope s_Watch___init__, [], []⟩
def d_L_kept_well : He.DefD := ⟨("_law_kept_well", none), "_law_kept_well", "_law_kept_well", defArgs s_L_kept_well, defBody s_L_kept_well, defScope s_L_kept_well, [], []⟩
def d_L_line : He.DefD := ⟨("_law_line", none), "_law_line", "_law_line", defArgs s_L_line, defBody s_L_line, defScope s_L_line, [], []⟩
def d_L_name : He.DefD := ⟨("_law_name", none), "_law_name", "_law_name", defArgs s_L_name, defBody s_L_name, defScope s_L_name, [], []⟩
def d_Net_is_blind : He.DefD := ⟨("Net", some "is_blind"), "is_blind", "Net.is_blind", defArgs s_Net_is_blind, defBody s_Net_is_blind, defScope s_Net_is_blind, [], []⟩
def d_Watch_saw : He.DefD := ⟨("Watch", some "saw"), "saw", "Watch.saw", defArgs s_Watch_saw, defBody s_Watch_saw, defScope s_Watch_saw, [], []⟩
def d_L_sighted : He.DefD := ⟨("_law_sighted", none), "_law_sighted", "_law_sighted", defArgs s_L_sighted, defBody s_L_sighted, defScope s_L_sighted, [], []⟩
def d_look : He.DefD := ⟨("look", none), "look", "look", defArgs s_look, defBody s_look, defScope s_look, [], []⟩
def d_Net_leaving : He.DefD := ⟨("Net", some "leaving"), "leaving", "Net.leaving", defArgs s_Net_leaving, defBody s_Net_leaving, defScope s_Net_leaving, [], []⟩
def d_Net_line : He.DefD := ⟨("Net", some "line"), "line", "Net.line", defArgs s_Net_line, defBody s_Net_line, defScope s_Net_line, [], []⟩
def d_Net_place_of : He.DefD := ⟨("Net", some "place_of"), "place_of", "Net.place_of", defArgs s_Net_place_of, defBody s_Net_place_of, defScope s_Net_place_of, [], []⟩
def d_goes_on : He.DefD := ⟨("goes_on", none), "goes_on", "goes_on", defArgs s_goes_on, defBody s_goes_on, defScope s_goes_on, [], []⟩
def d_reached : He.DefD := ⟨("reached", none), "reached", "reached", defArgs s_reached, defBody s_reached, defScope s_reached, [], []⟩
def d_least : He.DefD := ⟨("least", none), "least", "least", defArgs s_least, defBody s_least, defScope s_least, [], []⟩
def d_roads_to : He.DefD := ⟨("roads_to", none), "roads_to", "roads_to", defArgs s_roads_to, defBody s_roads_to, defScope s_roads_to, [], []⟩
def d_leg : He.DefD := ⟨("leg", none), "leg", "leg", defArgs s_leg, defBody s_leg, defScope s_leg, [], []⟩
def d_gates_passed : He.DefD := ⟨("gates_passed", none), "gates_passed", "gates_passed", defArgs s_gates_passed, defBody s_gates_passed, defScope s_gates_passed, [], []⟩
def d_guess : He.DefD := ⟨("guess", none), "guess", "guess", defArgs s_guess, defBody s_guess, defScope s_guess, [], []⟩
def d_L_guesses_stand : He.DefD := ⟨("_law_guesses_stand", none), "_law_guesses_stand", "_law_guesses_stand", defArgs s_L_guesses_stand, defBody s_L_guesses_stand, defScope s_L_guesses_stand, [], []⟩
def d_Watch_seen : He.DefD := ⟨("Watch", some "seen"), "seen", "Watch.seen", defArgs s_Watch_seen, defBody s_Watch_seen, defScope s_Watch_seen, [], []⟩
def d_toll_of : He.DefD := ⟨("toll_of", none), "toll_of", "toll_of", defArgs s_toll_of, defBody s_toll_of, defScope s_toll_of, [], []⟩
def d_Watch_cars : He.DefD := ⟨("Watch", some "cars"), "cars", "Watch.cars", defArgs s_Watch_cars, defBody s_Watch_cars, defScope s_Watch_cars, [], []⟩
def d_bill : He.DefD := ⟨("bill", none), "bill", "bill", defArgs s_bill, defBody s_bill, defScope s_bill, [], []⟩
def d_total : He.DefD := ⟨("total", none), "total", "total", defArgs s_total, defBody s_total, defScope s_total, [], []⟩
def d_L_whole : He.DefD := ⟨("_law_whole", none), "_law_whole", "_law_whole", defArgs s_L_whole, defBody s_L_whole, defScope s_L_whole, [], []⟩
def d_L_bill_stands : He.DefD := ⟨("_law_bill_stands", none), "_law_bill_stands", "_law_bill_stands", defArgs s_L_bill_stands, defBody s_L_bill_stands, defScope s_L_bill_stands, [], []⟩
def d_L_costs : He.DefD := ⟨("_law_costs", none), "_law_costs", "_law_costs", defArgs s_L_costs, defBody s_L_costs, defScope s_L_costs, [], []⟩
def d_L_least : He.DefD := ⟨("_law_least", none), "_law_least", "_law_least", defArgs s_L_least, defBody s_L_least, defScope s_L_least, [], []⟩
def d_L_due : He.DefD := ⟨("_law_due", none), "_law_due", "_law_due", defArgs s_L_due, defBody s_L_due, defScope s_L_due, [], []⟩
def d_L_leg_stands : He.DefD := ⟨("_law_leg_stands", none), "_law_leg_stands", "_law_leg_stands", defArgs s_L_leg_stands, defBody s_L_leg_stands, defScope s_L_leg_stands, [], []⟩
def d_L_stands : He.DefD := ⟨("_law_stands", none), "_law_stands", "_law_stands", defArgs s_L_stands, defBody s_L_stands, defScope s_L_stands, [], []⟩
def d_Watch_forget : He.DefD := ⟨("Watch", some "forget"), "forget", "Watch.forget", defArgs s_Watch_forget, defBody s_Watch_forget, defScope s_Watch_forget, [], []⟩
def d_Net_turn : He.DefD := ⟨("Net", some "turn"), "turn", "Net.turn", defArgs s_Net_turn, defBody s_Net_turn, defScope s_Net_turn, [], []⟩
def d_Net_blind : He.DefD := ⟨("Net", some "blind"), "blind", "Net.blind", defArgs s_Net_blind, defBody s_Net_blind, defScope s_Net_blind, [], []⟩
def d_Net_mend : He.DefD := ⟨("Net", some "mend"), "mend", "Net.mend", defArgs s_Net_mend, defBody s_Net_mend, defScope s_Net_mend, [], []⟩
def d_Net_reopen : He.DefD := ⟨("Net", some "reopen"), "reopen", "Net.reopen", defArgs s_Net_reopen, defBody s_Net_reopen, defScope s_Net_reopen, [], []⟩
def d_L_turned : He.DefD := ⟨("_law_turned", none), "_law_turned", "_law_turned", defArgs s_L_turned, defBody s_L_turned, defScope s_L_turned, [], []⟩
def d_L_cell_at : He.DefD := ⟨("_law_cell_at", none), "_law_cell_at", "_law_cell_at", defArgs s_L_cell_at, defBody s_L_cell_at, defScope s_L_cell_at, [], []⟩
def d_law : He.DefD := ⟨("law", none), "law", "law", defArgs s_law, defBody s_law, defScope s_law, [], []⟩
def fn : List He.DefD := [d_L_mixed, d_Net___init__, d_is_name, d_Net_gate, d_Net_need, d_Net_road, d_Net_need_road, d_Net_close, d_L_net, d_Watch___init__, d_L_kept_well, d_L_line, d_L_name, d_Net_is_blind, d_Watch_saw, d_L_sighted, d_look, d_Net_leaving, d_Net_line, d_Net_place_of, d_goes_on, d_reached, d_least, d_roads_to, d_leg, d_gates_passed, d_guess, d_L_guesses_stand, d_Watch_seen, d_toll_of, d_Watch_cars, d_bill, d_total, d_L_whole, d_L_bill_stands, d_L_costs, d_L_least, d_L_due, d_L_leg_stands, d_L_stands, d_Watch_forget, d_Net_turn, d_Net_blind, d_Net_mend, d_Net_reopen, d_L_turned, d_L_cell_at, d_law]
def fa0 : List He.Fa := [He.Fa.glo "_law_mixed", He.Fa.glo "is_name", He.Fa.glo "_law_net", He.Fa.glo "_law_kept_well", He.Fa.glo "_law_line", He.Fa.glo "_law_name", He.Fa.glo "_law_sighted", He.Fa.glo "look", He.Fa.glo "goes_on", He.Fa.glo "reached", He.Fa.glo "least", He.Fa.glo "roads_to", He.Fa.glo "leg", He.Fa.glo "gates_passed", He.Fa.glo "guess", He.Fa.glo "_law_guesses_stand", He.Fa.glo "toll_of", He.Fa.glo "bill", He.Fa.glo "total", He.Fa.glo "_law_whole", He.Fa.glo "_law_bill_stands", He.Fa.glo "_law_costs", He.Fa.glo "_law_least", He.Fa.glo "_law_due", He.Fa.glo "_law_leg_stands", He.Fa.glo "_law_stands", He.Fa.glo "_law_turned", He.Fa.glo "_law_cell_at", He.Fa.glo "law", He.Fa.free "len"]
def fa1 : List He.Fa := [He.Fa.free "range", He.Fa.free "isinstance", He.Fa.free "int", He.Fa.free "bool", He.Fa.free "str", He.Fa.free "list", He.Fa.free "tuple", He.Fa.free "all", He.Fa.free "sum", He.Fa.free "min", He.Fa.free "max", He.Fa.free "sorted", He.Fa.free "ValueError", He.Fa.str "SMALL" "abcdefghijklmnopqrstuvwxyz", He.Fa.str "FIGURES" "0123456789", He.Fa.int "MOST_SIGNS" 8, He.Fa.int "MOST_GATES" 60, He.Fa.int "MOST_ROADS" 200, He.Fa.int "MOST_MINUTES" 1000000, He.Fa.int "MOST_TOLL" 1000000, He.Fa.int "MOST_TIME" 1000000000, He.Fa.glo "Net", He.Fa.cls "Net", He.Fa.mkr "Net", He.Fa.noat "Net" "sight", He.Fa.noat "Net" "lines", He.Fa.noat "Net" "closed", He.Fa.glo "Watch", He.Fa.cls "Watch", He.Fa.mkr "Watch"]
def fa2 : List He.Fa := [He.Fa.noat "Watch" "net", He.Fa.noat "Watch" "kept", He.Fa.meth "Net" "gate", He.Fa.meth "Net" "need", He.Fa.meth "Net" "road", He.Fa.meth "Net" "need_road", He.Fa.meth "Net" "close", He.Fa.meth "Net" "is_blind", He.Fa.meth "Watch" "saw", He.Fa.meth "Net" "leaving", He.Fa.meth "Net" "line", He.Fa.meth "Net" "place_of", He.Fa.meth "Watch" "seen", He.Fa.meth "Watch" "cars", He.Fa.meth "Watch" "forget", He.Fa.meth "Net" "turn", He.Fa.meth "Net" "blind", He.Fa.meth "Net" "mend", He.Fa.meth "Net" "reopen", He.Fa.glo "TollError", He.Fa.exc "TollError", He.Fa.glo "NoName", He.Fa.exc "NoName", He.Fa.glo "SameGate", He.Fa.exc "SameGate", He.Fa.glo "FullNet", He.Fa.exc "FullNet", He.Fa.glo "NoGate", He.Fa.exc "NoGate", He.Fa.glo "NoNumber"]
def fa3 : List He.Fa := [He.Fa.exc "NoNumber", He.Fa.glo "NoRoad", He.Fa.exc "NoRoad", He.Fa.glo "Already", He.Fa.exc "Already", He.Fa.glo "NoTime", He.Fa.exc "NoTime", He.Fa.glo "Blind", He.Fa.exc "Blind", He.Fa.glo "NoCar", He.Fa.exc "NoCar", He.Fa.glo "NoSight", He.Fa.exc "NoSight"]
def fa : List He.Fa := fa0 ++ fa1 ++ fa2 ++ fa3
structure Cxt (K : PySem.W.Frag) (mg : Str → Option Value) : Prop where
  kin : ∃ h : Heap, K.In h ∧ h.Ns mainGlobals mg
  says : He.SaysD fa fn K
structure FnG (P : Program) (w : World) (K : PySem.W.Frag) (mg : Str → Option Value) (base : Heap) (f : Addr) (ps : List Str) (k : Nat) (T : Sp) : Prop where
  ex : ∃ fd, FnOk P w K mg base (L2.CX P w) k f fd ps T ∧ Binds K fd ps []
  kp : PySem.W.keepIn K (.ref f) = true
section
variable {K : PySem.W.Frag} {mg : Str → Option Value}
theorem g_L_mixed (c : Cxt K mg) : mg "_law_mixed" = some (.ref (He.ga K "_law_mixed")) := by obtain ⟨⟨h, X, G⟩, s⟩ := c; exact He.glo_ok X G (s.fact 0)
theorem g_is_name (c : Cxt K mg) : mg "is_name" = some (.ref (He.ga K "is_name")) := by obtain ⟨⟨h, X, G⟩, s⟩ := c; exact He.glo_ok X G (s.fact 1)
theorem g_L_net (c : Cxt K mg) : mg "_law_net" = some (.ref (He.ga K "_law_net")) := by obtain ⟨⟨h, X, G⟩, s⟩ := c; exact He.glo_ok X G (s.fact 2)
theorem g_L_kept_well (c : Cxt K mg) : mg "_law_kept_well" = some (.ref (He.ga K "_law_kept_well")) := by obtain ⟨⟨h, X, G⟩, s⟩ := c; exact He.glo_ok X G (s.fact 3)
theorem g_L_line (c : Cxt K mg) : mg "_law_line" = some (.ref (He.ga K "_law_line")) := by obtain ⟨⟨h, X, G⟩, s⟩ := c; exact He.glo_ok X G (s.fact 4)
theorem g_L_name (c : Cxt K mg) : mg "_law_name" = some (.ref (He.ga K "_law_name")) := by obtain ⟨⟨h, X, G⟩, s⟩ := c; exact He.glo_ok X G (s.fact 5)
theorem g_L_sighted (c : Cxt K mg) : mg "_law_sighted" = some (.ref (He.ga K "_law_sighted")) := by obtain ⟨⟨h, X, G⟩, s⟩ := c; exact He.glo_ok X G (s.fact 6)
theorem g_look (c : Cxt K mg) : mg "look" = some (.ref (He.ga K "look")) := by obtain ⟨⟨h, X, G⟩, s⟩ := c; exact He.glo_ok X G (s.fact 7)
theorem g_goes_on (c : Cxt K mg) : mg "goes_on" = some (.ref (He.ga K "goes_on")) := by obtain ⟨⟨h, X, G⟩, s⟩ := c; exact He.glo_ok X G (s.fact 8)
theorem g_reached (c : Cxt K mg) : mg "reached" = some (.ref (He.ga K "reached")) := by obtain ⟨⟨h, X, G⟩, s⟩ := c; exact He.glo_ok X G (s.fact 9)
theorem g_least (c : Cxt K mg) : mg "least" = some (.ref (He.ga K "least")) := by obtain ⟨⟨h, X, G⟩, s⟩ := c; exact He.glo_ok X G (s.fact 10)
theorem g_roads_to (c : Cxt K mg) : mg "roads_to" = some (.ref (He.ga K "roads_to")) := by obtain ⟨⟨h, X, G⟩, s⟩ := c; exact He.glo_ok X G (s.fact 11)
theorem g_leg (c : Cxt K mg) : mg "leg" = some (.ref (He.ga K "leg")) := by obtain ⟨⟨h, X, G⟩, s⟩ := c; exact He.glo_ok X G (s.fact 12)
theorem g_gates_passed (c : Cxt K mg) : mg "gates_passed" = some (.ref (He.ga K "gates_passed")) := by obtain ⟨⟨h, X, G⟩, s⟩ := c; exact He.glo_ok X G (s.fact 13)
theorem g_guess (c : Cxt K mg) : mg "guess" = some (.ref (He.ga K "guess")) := by obtain ⟨⟨h, X, G⟩, s⟩ := c; exact He.glo_ok X G (s.fact 14)
theorem g_L_guesses_stand (c : Cxt K mg) : mg "_law_guesses_stand" = some (.ref (He.ga K "_law_guesses_stand")) := by obtain ⟨⟨h, X, G⟩, s⟩ := c; exact He.glo_ok X G (s.fact 15)
theorem g_toll_of (c : Cxt K mg) : mg "toll_of" = some (.ref (He.ga K "toll_of")) := by obtain ⟨⟨h, X, G⟩, s⟩ := c; exact He.glo_ok X G (s.fact 16)
theorem g_bill (c : Cxt K mg) : mg "bill" = some (.ref (He.ga K "bill")) := by obtain ⟨⟨h, X, G⟩, s⟩ := c; exact He.glo_ok X G (s.fact 17)
theorem g_total (c : Cxt K mg) : mg "total" = some (.ref (He.ga K "total")) := by obtain ⟨⟨h, X, G⟩, s⟩ := c; exact He.glo_ok X G (s.fact 18)
theorem g_L_whole (c : Cxt K mg) : mg "_law_whole" = some (.ref (He.ga K "_law_whole")) := by obtain ⟨⟨h, X, G⟩, s⟩ := c; exact He.glo_ok X G (s.fact 19)
theorem g_L_bill_stands (c : Cxt K mg) : mg "_law_bill_stands" = some (.ref (He.ga K "_law_bill_stands")) := by obtain ⟨⟨h, X, G⟩, s⟩ := c; exact He.glo_ok X G (s.fact 20)
theorem g_L_costs (c : Cxt K mg) : mg "_law_costs" = some (.ref (He.ga K "_law_costs")) := by obtain ⟨⟨h, X, G⟩, s⟩ := c; exact He.glo_ok X G (s.fact 21)
theorem g_L_least (c : Cxt K mg) : mg "_law_least" = some (.ref (He.ga K "_law_least")) := by obtain ⟨⟨h, X, G⟩, s⟩ := c; exact He.glo_ok X G (s.fact 22)
theorem g_L_due (c : Cxt K mg) : mg "_law_due" = some (.ref (He.ga K "_law_due")) := by obtain ⟨⟨h, X, G⟩, s⟩ := c; exact He.glo_ok X G (s.fact 23)
theorem g_L_leg_stands (c : Cxt K mg) : mg "_law_leg_stands" = some (.ref (He.ga K "_law_leg_stands")) := by obtain ⟨⟨h, X, G⟩, s⟩ := c; exact He.glo_ok X G (s.fact 24)
theorem g_L_stands (c : Cxt K mg) : mg "_law_stands" = some (.ref (He.ga K "_law_stands")) := by obtain ⟨⟨h, X, G⟩, s⟩ := c; exact He.glo_ok X G (s.fact 25)
theorem g_L_turned (c : Cxt K mg) : mg "_law_turned" = some (.ref (He.ga K "_law_turned")) := by obtain ⟨⟨h, X, G⟩, s⟩ := c; exact He.glo_ok X G (s.fact 26)
theorem g_L_cell_at (c : Cxt K mg) : mg "_law_cell_at" = some (.ref (He.ga K "_law_cell_at")) := by obtain ⟨⟨h, X, G⟩, s⟩ := c; exact He.glo_ok X G (s.fact 27)
theorem g_law (c : Cxt K mg) : mg "law" = some (.ref (He.ga K "law")) := by obtain ⟨⟨h, X, G⟩, s⟩ := c; exact He.glo_ok X G (s.fact 28)
theorem n_len (c : Cxt K mg) : mg "len" = none := by obtain ⟨⟨h, X, G⟩, s⟩ := c; exact He.free_ok X G (s.fact 29)
theorem n_range (c : Cxt K mg) : mg "range" = none := by obtain ⟨⟨h, X, G⟩, s⟩ := c; exact He.free_ok X G (s.fact 30)
theorem n_isinstance (c : Cxt K mg) : mg "isinstance" = none := by obtain ⟨⟨h, X, G⟩, s⟩ := c; exact He.free_ok X G (s.fact 31)
theorem n_int (c : Cxt K mg) : mg "int" = none := by obtain ⟨⟨h, X, G⟩, s⟩ := c; exact He.free_ok X G (s.fact 32)
theorem n_bool (c : Cxt K mg) : mg "bool" = none := by obtain ⟨⟨h, X, G⟩, s⟩ := c; exact He.free_ok X G (s.fact 33)
theorem n_str (c : Cxt K mg) : mg "str" = none := by obtain ⟨⟨h, X, G⟩, s⟩ := c; exact He.free_ok X G (s.fact 34)
theorem n_list (c : Cxt K mg) : mg "list" = none := by obtain ⟨⟨h, X, G⟩, s⟩ := c; exact He.free_ok X G (s.fact 35)
theorem n_tuple (c : Cxt K mg) : mg "tuple" = none := by obtain ⟨⟨h, X, G⟩, s⟩ := c; exact He.free_ok X G (s.fact 36)
theorem n_all (c : Cxt K mg) : mg "all" = none := by obtain ⟨⟨h, X, G⟩, s⟩ := c; exact He.free_ok X G (s.fact 37)
theorem n_sum (c : Cxt K mg) : mg "sum" = none := by obtain ⟨⟨h, X, G⟩, s⟩ := c; exact He.free_ok X G (s.fact 38)
theorem n_min (c : Cxt K mg) : mg "min" = none := by obtain ⟨⟨h, X, G⟩, s⟩ := c; exact He.free_ok X G (s.fact 39)
theorem n_max (c : Cxt K mg) : mg "max" = none := by obtain ⟨⟨h, X, G⟩, s⟩ := c; exact He.free_ok X G (s.fact 40)
theorem n_sorted (c : Cxt K mg) : mg "sorted" = none := by obtain ⟨⟨h, X, G⟩, s⟩ := c; exact He.free_ok X G (s.fact 41)
theorem n_ValueError (c : Cxt K mg) : mg "ValueError" = none := by obtain ⟨⟨h, X, G⟩, s⟩ := c; exact He.free_ok X G (s.fact 42)
theorem c_SMALL (c : Cxt K mg) : ∃ t, mg "SMALL" = some (.str "abcdefghijklmnopqrstuvwxyz" t) := by obtain ⟨⟨h, X, G⟩, s⟩ := c; exact He.str_ok X G (s.fact 43)
theorem c_FIGURES (c : Cxt K mg) : ∃ t, mg "FIGURES" = some (.str "0123456789" t) := by obtain ⟨⟨h, X, G⟩, s⟩ := c; exact He.str_ok X G (s.fact 44)
theorem c_MOST_SIGNS (c : Cxt K mg) : ∃ t, mg "MOST_SIGNS" = some (.int 8 t) := by obtain ⟨⟨h, X, G⟩, s⟩ := c; exact He.int_ok X G (s.fact 45)
theorem c_MOST_GATES (c : Cxt K mg) : ∃ t, mg "MOST_GATES" = some (.int 60 t) := by obtain ⟨⟨h, X, G⟩, s⟩ := c; exact He.int_ok X G (s.fact 46)
theorem c_MOST_ROADS (c : Cxt K mg) : ∃ t, mg "MOST_ROADS" = some (.int 200 t) := by obtain ⟨⟨h, X, G⟩, s⟩ := c; exact He.int_ok X G (s.fact 47)
theorem c_MOST_MINUTES (c : Cxt K mg) : ∃ t, mg "MOST_MINUTES" = some (.int 1000000 t) := by obtain ⟨⟨h, X, G⟩, s⟩ := c; exact He.int_ok X G (s.fact 48)
theorem c_MOST_TOLL (c : Cxt K mg) : ∃ t, mg "MOST_TOLL" = some (.int 1000000 t) := by obtain ⟨⟨h, X, G⟩, s⟩ := c; exact He.int_ok X G (s.fact 49)
theorem c_MOST_TIME (c : Cxt K mg) : ∃ t, mg "MOST_TIME" = some (.int 1000000000 t) := by obtain ⟨⟨h, X, G⟩, s⟩ := c; exact He.int_ok X G (s.fact 50)
theorem g_Net (c : Cxt K mg) : mg "Net" = some (.ref (He.ga K "Net")) := by obtain ⟨⟨h, X, G⟩, s⟩ := c; exact He.glo_ok X G (s.fact 51)
theorem cl_Net (c : Cxt K mg) : Cls K (He.ga K "Net") := He.cls_ok (c.says.fact 52)
theorem M_Net (c : Cxt K mg) : Mk K (He.ga K "Net") (He.ma K (He.ga K "Net") "__init__") := He.mkr_ok (c.says.fact 53)
theorem na_Net_sight (c : Cxt K mg) : NoAttr K (He.ga K "Net") "sight" := He.noat_ok (c.says.fact 54)
theorem na_Net_lines (c : Cxt K mg) : NoAttr K (He.ga K "Net") "lines" := He.noat_ok (c.says.fact 55)
theorem na_Net_closed (c : Cxt K mg) : NoAttr K (He.ga K "Net") "closed" := He.noat_ok (c.says.fact 56)
theorem g_Watch (c : Cxt K mg) : mg "Watch" = some (.ref (He.ga K "Watch")) := by obtain ⟨⟨h, X, G⟩, s⟩ := c; exact He.glo_ok X G (s.fact 57)
theorem cl_Watch (c : Cxt K mg) : Cls K (He.ga K "Watch") := He.cls_ok (c.says.fact 58)
theorem M_Watch (c : Cxt K mg) : Mk K (He.ga K "Watch") (He.ma K (He.ga K "Watch") "__init__") := He.mkr_ok (c.says.fact 59)
theorem na_Watch_net (c : Cxt K mg) : NoAttr K (He.ga K "Watch") "net" := He.noat_ok (c.says.fact 60)
theorem na_Watch_kept (c : Cxt K mg) : NoAttr K (He.ga K "Watch") "kept" := He.noat_ok (c.says.fact 61)
theorem m_Net_gate (c : Cxt K mg) : Meth K (He.ga K "Net") "gate" (He.ma K (He.ga K "Net") "gate") := He.meth_ok (c.says.fact 62)
theorem m_Net_need (c : Cxt K mg) : Meth K (He.ga K "Net") "need" (He.ma K (He.ga K "Net") "need") := He.meth_ok (c.says.fact 63)
theorem m_Net_road (c : Cxt K mg) : Meth K (He.ga K "Net") "road" (He.ma K (He.ga K "Net") "road") := He.meth_ok (c.says.fact 64)
theorem m_Net_need_road (c : Cxt K mg) : Meth K (He.ga K "Net") "need_road" (He.ma K (He.ga K "Net") "need_road") := He.meth_ok (c.says.fact 65)
theorem m_Net_close (c : Cxt K mg) : Meth K (He.ga K "Net") "close" (He.ma K (He.ga K "Net") "close") := He.meth_ok (c.says.fact 66)
theorem m_Net_is_blind (c : Cxt K mg) : Meth K (He.ga K "Net") "is_blind" (He.ma K (He.ga K "Net") "is_blind") := He.meth_ok (c.says.fact 67)
theorem m_Watch_saw (c : Cxt K mg) : Meth K (He.ga K "Watch") "saw" (He.ma K (He.ga K "Watch") "saw") := He.meth_ok (c.says.fact 68)
theorem m_Net_leaving (c : Cxt K mg) : Meth K (He.ga K "Net") "leaving" (He.ma K (He.ga K "Net") "leaving") := He.meth_ok (c.says.fact 69)
theorem m_Net_line (c : Cxt K mg) : Meth K (He.ga K "Net") "line" (He.ma K (He.ga K "Net") "line") := He.meth_ok (c.says.fact 70)
theorem m_Net_place_of (c : Cxt K mg) : Meth K (He.ga K "Net") "place_of" (He.ma K (He.ga K "Net") "place_of") := He.meth_ok (c.says.fact 71)
theorem m_Watch_seen (c : Cxt K mg) : Meth K (He.ga K "Watch") "seen" (He.ma K (He.ga K "Watch") "seen") := He.meth_ok (c.says.fact 72)
theorem m_Watch_cars (c : Cxt K mg) : Meth K (He.ga K "Watch") "cars" (He.ma K (He.ga K "Watch") "cars") := He.meth_ok (c.says.fact 73)
theorem m_Watch_forget (c : Cxt K mg) : Meth K (He.ga K "Watch") "forget" (He.ma K (He.ga K "Watch") "forget") := He.meth_ok (c.says.fact 74)
theorem m_Net_turn (c : Cxt K mg) : Meth K (He.ga K "Net") "turn" (He.ma K (He.ga K "Net") "turn") := He.meth_ok (c.says.fact 75)
theorem m_Net_blind (c : Cxt K mg) : Meth K (He.ga K "Net") "blind" (He.ma K (He.ga K "Net") "blind") := He.meth_ok (c.says.fact 76)
theorem m_Net_mend (c : Cxt K mg) : Meth K (He.ga K "Net") "mend" (He.ma K (He.ga K "Net") "mend") := He.meth_ok (c.says.fact 77)
theorem m_Net_reopen (c : Cxt K mg) : Meth K (He.ga K "Net") "reopen" (He.ma K (He.ga K "Net") "reopen") := He.meth_ok (c.says.fact 78)
theorem g_TollError (c : Cxt K mg) : mg "TollError" = some (.ref (He.ga K "TollError")) := by obtain ⟨⟨h, X, G⟩, s⟩ := c; exact He.glo_ok X G (s.fact 79)
theorem x_TollError (c : Cxt K mg) : PySem.W.excIn K (He.ga K "TollError") He.veBase "ValueError.__new__" = true ∧ PySem.W.keepIn K (.ref (He.ga K "TollError")) = true ∧ PySem.W.subIn K (.ref (He.ga K "TollError")) (.type "BaseException") = some true ∧ PySem.W.typeIn K (.ref (He.ga K "TollError")) = some (.type "type") := He.exc_ok (c.says.fact 80)
theorem g_NoName (c : Cxt K mg) : mg "NoName" = some (.ref (He.ga K "NoName")) := by obtain ⟨⟨h, X, G⟩, s⟩ := c; exact He.glo_ok X G (s.fact 81)
theorem x_NoName (c : Cxt K mg) : PySem.W.excIn K (He.ga K "NoName") He.veBase "ValueError.__new__" = true ∧ PySem.W.keepIn K (.ref (He.ga K "NoName")) = true ∧ PySem.W.subIn K (.ref (He.ga K "NoName")) (.type "BaseException") = some true ∧ PySem.W.typeIn K (.ref (He.ga K "NoName")) = some (.type "type") := He.exc_ok (c.says.fact 82)
theorem g_SameGate (c : Cxt K mg) : mg "SameGate" = some (.ref (He.ga K "SameGate")) := by obtain ⟨⟨h, X, G⟩, s⟩ := c; exact He.glo_ok X G (s.fact 83)
theorem x_SameGate (c : Cxt K mg) : PySem.W.excIn K (He.ga K "SameGate") He.veBase "ValueError.__new__" = true ∧ PySem.W.keepIn K (.ref (He.ga K "SameGate")) = true ∧ PySem.W.subIn K (.ref (He.ga K "SameGate")) (.type "BaseException") = some true ∧ PySem.W.typeIn K (.ref (He.ga K "SameGate")) = some (.type "type") := He.exc_ok (c.says.fact 84)
theorem g_FullNet (c : Cxt K mg) : mg "FullNet" = some (.ref (He.ga K "FullNet")) := by obtain ⟨⟨h, X, G⟩, s⟩ := c; exact He.glo_ok X G (s.fact 85)
theorem x_FullNet (c : Cxt K mg) : PySem.W.excIn K (He.ga K "FullNet") He.veBase "ValueError.__new__" = true ∧ PySem.W.keepIn K (.ref (He.ga K "FullNet")) = true ∧ PySem.W.subIn K (.ref (He.ga K "FullNet")) (.type "BaseException") = some true ∧ PySem.W.typeIn K (.ref (He.ga K "FullNet")) = some (.type "type") := He.exc_ok (c.says.fact 86)
theorem g_NoGate (c : Cxt K mg) : mg "NoGate" = some (.ref (He.ga K "NoGate")) := by obtain ⟨⟨h, X, G⟩, s⟩ := c; exact He.glo_ok X G (s.fact 87)
theorem x_NoGate (c : Cxt K mg) : PySem.W.excIn K (He.ga K "NoGate") He.veBase "ValueError.__new__" = true ∧ PySem.W.keepIn K (.ref (He.ga K "NoGate")) = true ∧ PySem.W.subIn K (.ref (He.ga K "NoGate")) (.type "BaseException") = some true ∧ PySem.W.typeIn K (.ref (He.ga K "NoGate")) = some (.type "type") := He.exc_ok (c.says.fact 88)
theorem g_NoNumber (c : Cxt K mg) : mg "NoNumber" = some (.ref (He.ga K "NoNumber")) := by obtain ⟨⟨h, X, G⟩, s⟩ := c; exact He.glo_ok X G (s.fact 89)
theorem x_NoNumber (c : Cxt K mg) : PySem.W.excIn K (He.ga K "NoNumber") He.veBase "ValueError.__new__" = true ∧ PySem.W.keepIn K (.ref (He.ga K "NoNumber")) = true ∧ PySem.W.subIn K (.ref (He.ga K "NoNumber")) (.type "BaseException") = some true ∧ PySem.W.typeIn K (.ref (He.ga K "NoNumber")) = some (.type "type") := He.exc_ok (c.says.fact 90)
theorem g_NoRoad (c : Cxt K mg) : mg "NoRoad" = some (.ref (He.ga K "NoRoad")) := by obtain ⟨⟨h, X, G⟩, s⟩ := c; exact He.glo_ok X G (s.fact 91)
theorem x_NoRoad (c : Cxt K mg) : PySem.W.excIn K (He.ga K "NoRoad") He.veBase "ValueError.__new__" = true ∧ PySem.W.keepIn K (.ref (He.ga K "NoRoad")) = true ∧ PySem.W.subIn K (.ref (He.ga K "NoRoad")) (.type "BaseException") = some true ∧ PySem.W.typeIn K (.ref (He.ga K "NoRoad")) = some (.type "type") := He.exc_ok (c.says.fact 92)
theorem g_Already (c : Cxt K mg) : mg "Already" = some (.ref (He.ga K "Already")) := by obtain ⟨⟨h, X, G⟩, s⟩ := c; exact He.glo_ok X G (s.fact 93)
theorem x_Already (c : Cxt K mg) : PySem.W.excIn K (He.ga K "Already") He.veBase "ValueError.__new__" = true ∧ PySem.W.keepIn K (.ref (He.ga K "Already")) = true ∧ PySem.W.subIn K (.ref (He.ga K "Already")) (.type "BaseException") = some true ∧ PySem.W.typeIn K (.ref (He.ga K "Already")) = some (.type "type") := He.exc_ok (c.says.fact 94)
theorem g_NoTime (c : Cxt K mg) : mg "NoTime" = some (.ref (He.ga K "NoTime")) := by obtain ⟨⟨h, X, G⟩, s⟩ := c; exact He.glo_ok X G (s.fact 95)
theorem x_NoTime (c : Cxt K mg) : PySem.W.excIn K (He.ga K "NoTime") He.veBase "ValueError.__new__" = true ∧ PySem.W.keepIn K (.ref (He.ga K "NoTime")) = true ∧ PySem.W.subIn K (.ref (He.ga K "NoTime")) (.type "BaseException") = some true ∧ PySem.W.typeIn K (.ref (He.ga K "NoTime")) = some (.type "type") := He.exc_ok (c.says.fact 96)
theorem g_Blind (c : Cxt K mg) : mg "Blind" = some (.ref (He.ga K "Blind")) := by obtain ⟨⟨h, X, G⟩, s⟩ := c; exact He.glo_ok X G (s.fact 97)
theorem x_Blind (c : Cxt K mg) : PySem.W.excIn K (He.ga K "Blind") He.veBase "ValueError.__new__" = true ∧ PySem.W.keepIn K (.ref (He.ga K "Blind")) = true ∧ PySem.W.subIn K (.ref (He.ga K "Blind")) (.type "BaseException") = some true ∧ PySem.W.typeIn K (.ref (He.ga K "Blind")) = some (.type "type") := He.exc_ok (c.says.fact 98)
theorem g_NoCar (c : Cxt K mg) : mg "NoCar" = some (.ref (He.ga K "NoCar")) := by obtain ⟨⟨h, X, G⟩, s⟩ := c; exact He.glo_ok X G (s.fact 99)
theorem x_NoCar (c : Cxt K mg) : PySem.W.excIn K (He.ga K "NoCar") He.veBase "ValueError.__new__" = true ∧ PySem.W.keepIn K (.ref (He.ga K "NoCar")) = true ∧ PySem.W.subIn K (.ref (He.ga K "NoCar")) (.type "BaseException") = some true ∧ PySem.W.typeIn K (.ref (He.ga K "NoCar")) = some (.type "type") := He.exc_ok (c.says.fact 100)
theorem g_NoSight (c : Cxt K mg) : mg "NoSight" = some (.ref (He.ga K "NoSight")) := by obtain ⟨⟨h, X, G⟩, s⟩ := c; exact He.glo_ok X G (s.fact 101)
theorem x_NoSight (c : Cxt K mg) : PySem.W.excIn K (He.ga K "NoSight") He.veBase "ValueError.__new__" = true ∧ PySem.W.keepIn K (.ref (He.ga K "NoSight")) = true ∧ PySem.W.subIn K (.ref (He.ga K "NoSight")) (.type "BaseException") = some true ∧ PySem.W.typeIn K (.ref (He.ga K "NoSight")) = some (.type "type") := He.exc_ok (c.says.fact 102)
theorem F_L_mixed (c : Cxt K mg) : ∃ fd, FunD K "_law_mixed" "_law_mixed" (defArgs s_L_mixed) (defBody s_L_mixed) (defScope s_L_mixed) [] [] (He.ga K "_law_mixed") fd := c.says.def_ 0 (d := d_L_mixed) rfl
theorem F_Net___init__ (c : Cxt K mg) : ∃ fd, FunD K "__init__" "Net.__init__" (defArgs s_Net___init__) (defBody s_Net___init__) (defScope s_Net___init__) [] [] (He.ma K (He.ga K "Net") "__init__") fd := c.says.def_ 1 (d := d_Net___init__) rfl
theorem F_is_name (c : Cxt K mg) : ∃ fd, FunD K "is_name" "is_name" (defArgs s_is_name) (defBody s_is_name) (defScope s_is_name) [] [] (He.ga K "is_name") fd := c.says.def_ 2 (d := d_is_name) rfl
theorem F_Net_gate (c : Cxt K mg) : ∃ fd, FunD K "gate" "Net.gate" (defArgs s_Net_gate) (defBody s_Net_gate) (defScope s_Net_gate) [] [] (He.ma K (He.ga K "Net") "gate") fd := c.says.def_ 3 (d := d_Net_gate) rfl
theorem F_Net_need (c : Cxt K mg) : ∃ fd, FunD K "need" "Net.need" (defArgs s_Net_need) (defBody s_Net_need) (defScope s_Net_need) [] [] (He.ma K (He.ga K "Net") "need") fd := c.says.def_ 4 (d := d_Net_need) rfl
theorem F_Net_road (c : Cxt K mg) : ∃ fd, FunD K "road" "Net.road" (defArgs s_Net_road) (defBody s_Net_road) (defScope s_Net_road) [] [] (He.ma K (He.ga K "Net") "road") fd := c.says.def_ 5 (d := d_Net_road) rfl
theorem F_Net_need_road (c : Cxt K mg) : ∃ fd, FunD K "need_road" "Net.need_road" (defArgs s_Net_need_road) (defBody s_Net_need_road) (defScope s_Net_need_road) [] [] (He.ma K (He.ga K "Net") "need_road") fd := c.says.def_ 6 (d := d_Net_need_road) rfl
theorem F_Net_close (c : Cxt K mg) : ∃ fd, FunD K "close" "Net.close" (defArgs s_Net_close) (defBody s_Net_close) (defScope s_Net_close) [] [] (He.ma K (He.ga K "Net") "close") fd := c.says.def_ 7 (d := d_Net_close) rfl
theorem F_L_net (c : Cxt K mg) : ∃ fd, FunD K "_law_net" "_law_net" (defArgs s_L_net) (defBody s_L_net) (defScope s_L_net) [] [] (He.ga K "_law_net") fd := c.says.def_ 8 (d := d_L_net) rfl
theorem F_Watch___init__ (c : Cxt K mg) : ∃ fd, FunD K "__init__" "Watch.__init__" (defArgs s_Watch___init__) (defBody s_Watch___init__) (defScope s_Watch___init__) [] [] (He.ma K (He.ga K "Watch") "__init__") fd := c.says.def_ 9 (d := d_Watch___init__) rfl
theorem F_L_kept_well (c : Cxt K mg) : ∃ fd, FunD K "_law_kept_well" "_law_kept_well" (defArgs s_L_kept_well) (defBody s_L_kept_well) (defScope s_L_kept_well) [] [] (He.ga K "_law_kept_well") fd := c.says.def_ 10 (d := d_L_kept_well) rfl
theorem F_L_line (c : Cxt K mg) : ∃ fd, FunD K "_law_line" "_law_line" (defArgs s_L_line) (defBody s_L_line) (defScope s_L_line) [] [] (He.ga K "_law_line") fd := c.says.def_ 11 (d := d_L_line) rfl
theorem F_L_name (c : Cxt K mg) : ∃ fd, FunD K "_law_name" "_law_name" (defArgs s_L_name) (defBody s_L_name) (defScope s_L_name) [] [] (He.ga K "_law_name") fd := c.says.def_ 12 (d := d_L_name) rfl
theorem F_Net_is_blind (c : Cxt K mg) : ∃ fd, FunD K "is_blind" "Net.is_blind" (defArgs s_Net_is_blind) (defBody s_Net_is_blind) (defScope s_Net_is_blind) [] [] (He.ma K (He.ga K "Net") "is_blind") fd := c.says.def_ 13 (d := d_Net_is_blind) rfl
theorem F_Watch_saw (c : Cxt K mg) : ∃ fd, FunD K "saw" "Watch.saw" (defArgs s_Watch_saw) (defBody s_Watch_saw) (defScope s_Watch_saw) [] [] (He.ma K (He.ga K "Watch") "saw") fd := c.says.def_ 14 (d := d_Watch_saw) rfl
theorem F_L_sighted (c : Cxt K mg) : ∃ fd, FunD K "_law_sighted" "_law_sighted" (defArgs s_L_sighted) (defBody s_L_sighted) (defScope s_L_sighted) [] [] (He.ga K "_law_sighted") fd := c.says.def_ 15 (d := d_L_sighted) rfl
theorem F_look (c : Cxt K mg) : ∃ fd, FunD K "look" "look" (defArgs s_look) (defBody s_look) (defScope s_look) [] [] (He.ga K "look") fd := c.says.def_ 16 (d := d_look) rfl
theorem F_Net_leaving (c : Cxt K mg) : ∃ fd, FunD K "leaving" "Net.leaving" (defArgs s_Net_leaving) (defBody s_Net_leaving) (defScope s_Net_leaving) [] [] (He.ma K (He.ga K "Net") "leaving") fd := c.says.def_ 17 (d := d_Net_leaving) rfl
theorem F_Net_line (c : Cxt K mg) : ∃ fd, FunD K "line" "Net.line" (defArgs s_Net_line) (defBody s_Net_line) (defScope s_Net_line) [] [] (He.ma K (He.ga K "Net") "line") fd := c.says.def_ 18 (d := d_Net_line) rfl
theorem F_Net_place_of (c : Cxt K mg) : ∃ fd, FunD K "place_of" "Net.place_of" (defArgs s_Net_place_of) (defBody s_Net_place_of) (defScope s_Net_place_of) [] [] (He.ma K (He.ga K "Net") "place_of") fd := c.says.def_ 19 (d := d_Net_place_of) rfl
theorem F_goes_on (c : Cxt K mg) : ∃ fd, FunD K "goes_on" "goes_on" (defArgs s_goes_on) (defBody s_goes_on) (defScope s_goes_on) [] [] (He.ga K "goes_on") fd := c.says.def_ 20 (d := d_goes_on) rfl
theorem F_reached (c : Cxt K mg) : ∃ fd, FunD K "reached" "reached" (defArgs s_reached) (defBody s_reached) (defScope s_reached) [] [] (He.ga K "reached") fd := c.says.def_ 21 (d := d_reached) rfl
theorem F_least (c : Cxt K mg) : ∃ fd, FunD K "least" "least" (defArgs s_least) (defBody s_least) (defScope s_least) [] [] (He.ga K "least") fd := c.says.def_ 22 (d := d_least) rfl
theorem F_roads_to (c : Cxt K mg) : ∃ fd, FunD K "roads_to" "roads_to" (defArgs s_roads_to) (defBody s_roads_to) (defScope s_roads_to) [] [] (He.ga K "roads_to") fd := c.says.def_ 23 (d := d_roads_to) rfl
theorem F_leg (c : Cxt K mg) : ∃ fd, FunD K "leg" "leg" (defArgs s_leg) (defBody s_leg) (defScope s_leg) [] [] (He.ga K "leg") fd := c.says.def_ 24 (d := d_leg) rfl
theorem F_gates_passed (c : Cxt K mg) : ∃ fd, FunD K "gates_passed" "gates_passed" (defArgs s_gates_passed) (defBody s_gates_passed) (defScope s_gates_passed) [] [] (He.ga K "gates_passed") fd := c.says.def_ 25 (d := d_gates_passed) rfl
theorem F_guess (c : Cxt K mg) : ∃ fd, FunD K "guess" "guess" (defArgs s_guess) (defBody s_guess) (defScope s_guess) [] [] (He.ga K "guess") fd := c.says.def_ 26 (d := d_guess) rfl
theorem F_L_guesses_stand (c : Cxt K mg) : ∃ fd, FunD K "_law_guesses_stand" "_law_guesses_stand" (defArgs s_L_guesses_stand) (defBody s_L_guesses_stand) (defScope s_L_guesses_stand) [] [] (He.ga K "_law_guesses_stand") fd := c.says.def_ 27 (d := d_L_guesses_stand) rfl
theorem F_Watch_seen (c : Cxt K mg) : ∃ fd, FunD K "seen" "Watch.seen" (defArgs s_Watch_seen) (defBody s_Watch_seen) (defScope s_Watch_seen) [] [] (He.ma K (He.ga K "Watch") "seen") fd := c.says.def_ 28 (d := d_Watch_seen) rfl
theorem F_toll_of (c : Cxt K mg) : ∃ fd, FunD K "toll_of" "toll_of" (defArgs s_toll_of) (defBody s_toll_of) (defScope s_toll_of) [] [] (He.ga K "toll_of") fd := c.says.def_ 29 (d := d_toll_of) rfl
theorem F_Watch_cars (c : Cxt K mg) : ∃ fd, FunD K "cars" "Watch.cars" (defArgs s_Watch_cars) (defBody s_Watch_cars) (defScope s_Watch_cars) [] [] (He.ma K (He.ga K "Watch") "cars") fd := c.says.def_ 30 (d := d_Watch_cars) rfl
theorem F_bill (c : Cxt K mg) : ∃ fd, FunD K "bill" "bill" (defArgs s_bill) (defBody s_bill) (defScope s_bill) [] [] (He.ga K "bill") fd := c.says.def_ 31 (d := d_bill) rfl
theorem F_total (c : Cxt K mg) : ∃ fd, FunD K "total" "total" (defArgs s_total) (defBody s_total) (defScope s_total) [] [] (He.ga K "total") fd := c.says.def_ 32 (d := d_total) rfl
theorem F_L_whole (c : Cxt K mg) : ∃ fd, FunD K "_law_whole" "_law_whole" (defArgs s_L_whole) (defBody s_L_whole) (defScope s_L_whole) [] [] (He.ga K "_law_whole") fd := c.says.def_ 33 (d := d_L_whole) rfl
theorem F_L_bill_stands (c : Cxt K mg) : ∃ fd, FunD K "_law_bill_stands" "_law_bill_stands" (defArgs s_L_bill_stands) (defBody s_L_bill_stands) (defScope s_L_bill_stands) [] [] (He.ga K "_law_bill_stands") fd := c.says.def_ 34 (d := d_L_bill_stands) rfl
theorem F_L_costs (c : Cxt K mg) : ∃ fd, FunD K "_law_costs" "_law_costs" (defArgs s_L_costs) (defBody s_L_costs) (defScope s_L_costs) [] [] (He.ga K "_law_costs") fd := c.says.def_ 35 (d := d_L_costs) rfl
theorem F_L_least (c : Cxt K mg) : ∃ fd, FunD K "_law_least" "_law_least" (defArgs s_L_least) (defBody s_L_least) (defScope s_L_least) [] [] (He.ga K "_law_least") fd := c.says.def_ 36 (d := d_L_least) rfl
theorem F_L_due (c : Cxt K mg) : ∃ fd, FunD K "_law_due" "_law_due" (defArgs s_L_due) (defBody s_L_due) (defScope s_L_due) [] [] (He.ga K "_law_due") fd := c.says.def_ 37 (d := d_L_due) rfl
theorem F_L_leg_stands (c : Cxt K mg) : ∃ fd, FunD K "_law_leg_stands" "_law_leg_stands" (defArgs s_L_leg_stands) (defBody s_L_leg_stands) (defScope s_L_leg_stands) [] [] (He.ga K "_law_leg_stands") fd := c.says.def_ 38 (d := d_L_leg_stands) rfl
theorem F_L_stands (c : Cxt K mg) : ∃ fd, FunD K "_law_stands" "_law_stands" (defArgs s_L_stands) (defBody s_L_stands) (defScope s_L_stands) [] [] (He.ga K "_law_stands") fd := c.says.def_ 39 (d := d_L_stands) rfl
theorem F_Watch_forget (c : Cxt K mg) : ∃ fd, FunD K "forget" "Watch.forget" (defArgs s_Watch_forget) (defBody s_Watch_forget) (defScope s_Watch_forget) [] [] (He.ma K (He.ga K "Watch") "forget") fd := c.says.def_ 40 (d := d_Watch_forget) rfl
theorem F_Net_turn (c : Cxt K mg) : ∃ fd, FunD K "turn" "Net.turn" (defArgs s_Net_turn) (defBody s_Net_turn) (defScope s_Net_turn) [] [] (He.ma K (He.ga K "Net") "turn") fd := c.says.def_ 41 (d := d_Net_turn) rfl
theorem F_Net_blind (c : Cxt K mg) : ∃ fd, FunD K "blind" "Net.blind" (defArgs s_Net_blind) (defBody s_Net_blind) (defScope s_Net_blind) [] [] (He.ma K (He.ga K "Net") "blind") fd := c.says.def_ 42 (d := d_Net_blind) rfl
theorem F_Net_mend (c : Cxt K mg) : ∃ fd, FunD K "mend" "Net.mend" (defArgs s_Net_mend) (defBody s_Net_mend) (defScope s_Net_mend) [] [] (He.ma K (He.ga K "Net") "mend") fd := c.says.def_ 43 (d := d_Net_mend) rfl
theorem F_Net_reopen (c : Cxt K mg) : ∃ fd, FunD K "reopen" "Net.reopen" (defArgs s_Net_reopen) (defBody s_Net_reopen) (defScope s_Net_reopen) [] [] (He.ma K (He.ga K "Net") "reopen") fd := c.says.def_ 44 (d := d_Net_reopen) rfl
theorem F_L_turned (c : Cxt K mg) : ∃ fd, FunD K "_law_turned" "_law_turned" (defArgs s_L_turned) (defBody s_L_turned) (defScope s_L_turned) [] [] (He.ga K "_law_turned") fd := c.says.def_ 45 (d := d_L_turned) rfl
theorem F_L_cell_at (c : Cxt K mg) : ∃ fd, FunD K "_law_cell_at" "_law_cell_at" (defArgs s_L_cell_at) (defBody s_L_cell_at) (defScope s_L_cell_at) [] [] (He.ga K "_law_cell_at") fd := c.says.def_ 46 (d := d_L_cell_at) rfl
theorem F_law (c : Cxt K mg) : ∃ fd, FunD K "law" "law" (defArgs s_law) (defBody s_law) (defScope s_law) [] [] (He.ga K "law") fd := c.says.def_ 47 (d := d_law) rfl
end
abbrev Rw : PySem.W.OpenRow := PySem.W.OpenLaw.row PySem.Challenge.rw_tollguess_k12_whole_as_it_is_now
def loose0 : List PySem.Str := ["TollError", "NoName", "SameGate", "FullNet", "NoGate", "NoNumber", "NoRoad", "Already", "NoTime", "Blind", "NoCar", "NoSight", "goes_on", "reached", "least", "roads_to", "leg", "look", "gates_passed", "guess", "toll_of", "bill", "total", "SMALL", "FIGURES", "MOST_SIGNS", "MOST_GATES", "MOST_ROADS", "MOST_MINUTES", "MOST_TOLL"]
def loose1 : List PySem.Str := ["is_name", "Net", "MOST_TIME", "Watch", "_law_cell_at", "_law_whole", "_law_mixed", "_law_name", "_law_gates", "_law_line", "_law_lines", "_law_unit", "_law_net", "_law_costs", "_law_least", "_law_due", "_law_turned", "_law_sighted", "_law_bill_stands", "_law_leg_stands", "_law_guesses_stand", "_law_stands", "_law_kept_well"]
def loose : List PySem.Str := loose0 ++ loose1
abbrev hk : PySem.W.Hook := hookQ 6 fa fn
def ob (s : PySem.W.SharedT) : He.AlD := obsQ 6 fa fn (HandSHeadRun.getT s)
theorem ob_eq (s : PySem.W.SharedT) : ob s = hk.obs s.abs := obsQ_eq (HandSHeadRun.getT_eq s)
theorem run (w : World) : HandSHeadRun.RunEq Rw (PySem.W.view Rw.prog [61]) hk ob 8000 loose w := by
  intro os
  kernel_rfl
/-- a cell of the script, or nought -/
def cellAt (ns : List Int) (i : Int) : Int := if i < ns.length then ns.getD i.toNat 0 else 0
def mixOf (cell k : Int) : Int := ((cell + 7919 * k) * 48271 % 2147483647 * ((cell + 7919 * k) * 48271 % 2147483647) + 16807 * ((cell + 7919 * k) * 48271 % 2147483647)) % 2147483629
def mixed (ns : List Int) (k : Int) : Int := mixOf (if 0 < ns.length then ns.getD (k % ns.length).toNat 0 else 0) k
theorem mixed_nn (ns : List Int) (k : Int) : 0 ≤ mixed ns k := Int.emod_nonneg _ (by decide)
theorem mixed_lt (ns : List Int) (k : Int) : mixed ns k < 2147483629 := Int.emod_lt_of_pos _ (by decide)
def smallL : List Nat := ("abcdefghijklmnopqrstuvwxyz" : Str).cps.toList
def figL : List Nat := ("0123456789" : Str).cps.toList
def nmSign (c : Nat) : Bool := decide (c ∈ smallL) || decide (c ∈ figL)
/-- the texts that are names -/
def isNm (s : Str) : Bool := (decide ((1 : Int) ≤ s.length) && decide ((s.length : Int) ≤ 8)) && decide (s.cps.toList.getD 0 0 ∈ smallL) && s.cps.toList.all nmSign
theorem cps_len (s : Str) : s.cps.toList.length = s.length := by show _ = s.cps.size; simp
theorem at0 {s : Str} (h : 1 ≤ s.length) : atI s.cps.toList 0 = some (s.cps.toList.getD 0 0) := atI_D 0 (by decide) (by rw [cps_len]; omega)
/-- a net: its gates with their sight, its roads, the numbers of the closed ones -/
structure NetM where
  sight : List (Str × Bool)
  lines : List (Str × Str × Int × Int)
  closed : List Int
def sightK (s : List (Str × Bool)) : List (Key × Dt) := s.map fun p => (Sum.inr p.1, Dt.bl p.2)
def lineD (l : Str × Str × Int × Int) : Dt := .tup [.str l.1, .str l.2.1, .int l.2.2.1, .int l.2.2.2]
def closedK (c : List Int) : List (Key × Dt) := c.map fun i => (Sum.inl i, Dt.bl true)
def netD (C : Addr) (n : NetM) : Dt := .inst C [("sight", .dct (sightK n.sight)), ("lines", .lst (n.lines.map lineD)), ("closed", .dct (closedK n.closed))]
def netF (x y z : Dt) : List (Str × Dt) := [("sight", x), ("lines", y), ("closed", z)]
/-! where a net stands, seen through the cells -/
/-- the closed ones, in whatever order -/
inductive CloAt (M : Sto) : Dt → List Int → Prop
  | frz {cl : List Int} : CloAt M (.dct (closedK cl)) cl
  | own {a : Addr} {cl : List Int} {j : Nat} (h : M[j]? = some (a, .dct (closedK cl))) : CloAt M (.ob a) cl
  | of {z : Dt} {c2 cl : List Int} (h : Dct M z (closedK c2)) (e : ∀ i, i ∈ c2 ↔ i ∈ cl) : CloAt M z cl
theorem CloAt.dct {M : Sto} {z : Dt} {cl : List Int} (h : CloAt M z cl) : ∃ c2, Dct M z (closedK c2) ∧ ∀ i, i ∈ c2 ↔ i ∈ cl := by
  cases h with
  | frz => exact ⟨cl, .frz, fun _ => Iff.rfl⟩
  | own h => exact ⟨cl, .own h, fun _ => Iff.rfl⟩
  | of h e => exact ⟨_, h, e⟩
theorem CloAt.push {M : Sto} {z : Dt} {cl : List Int} {p : Addr × Ow} (h : CloAt M z cl) : CloAt (p :: M) z cl := by
  obtain ⟨c2, h1, h2⟩ := h.dct
  exact .of h1.push h2
structure NetAt (M : Sto) (x y z : Dt) (n : NetM) : Prop where
  s : Dct M x (sightK n.sight)
  l : Lst M y (n.lines.map lineD)
  c : CloAt M z n.closed
theorem NetAt.frz (M : Sto) (n : NetM) : NetAt M (.dct (sightK n.sight)) (.lst (n.lines.map lineD)) (.dct (closedK n.closed)) n := ⟨.frz, .frz, .frz⟩
theorem NetAt.push {M : Sto} {x y z : Dt} {n : NetM} {p : Addr × Ow} (h : NetAt M x y z n) : NetAt (p :: M) x y z n := ⟨h.s.push, h.l.push, h.c.push⟩
/-- the sight of a gate -/
def NetM.sees (n : NetM) (s : Str) : Option Bool := n.sight.lookup s
def NetM.has (n : NetM) (s : Str) : Bool := (n.sees s).isSome
theorem val_sight (s : List (Str × Bool)) (a : Str) : valD (sightK s) (Sum.inr a) = (s.lookup a).map Dt.bl := by
  induction s with
  | nil => rfl
  | cons p r ih =>
    obtain ⟨q, b⟩ := p
    by_cases h : q = a
    · subst h
      rw [show sightK ((q, b) :: r) = (Sum.inr q, Dt.bl b) :: sightK r from rfl, valD_pos rfl, List.lookup_cons_self]; rfl
    · rw [show sightK ((q, b) :: r) = (Sum.inr q, Dt.bl b) :: sightK r from rfl, valD_neg (by simpa using h), ih, List.lookup_cons, show (a == q) = false by simpa using fun e => h e.symm]
theorem val_closed (c : List Int) (i : Int) : (valD (closedK c) (Sum.inl i)).isSome = decide (i ∈ c) := by
  induction c with
  | nil => rfl
  | cons q r ih =>
    by_cases h : q = i
    · subst h
      rw [show closedK (q :: r) = (Sum.inl q, Dt.bl true) :: closedK r from rfl, valD_pos rfl]; simp
    · rw [show closedK (q :: r) = (Sum.inl q, Dt.bl true) :: closedK r from rfl, valD_neg (by simpa using h), ih]
      have : i ≠ q := fun e => h e.symm
      simp [this]
def NetM.line (n : NetM) (i : Nat) : Str × Str × Int × Int := n.lines.getD i ("", "", 0, 0)
/-- the numbers of the open roads that leave a gate -/
def NetM.goes (n : NetM) (s : Str) (k : Nat) : Bool := decide ((n.line k).1 = s) && !decide ((k : Int) ∈ n.closed)
def NetM.out (n : NetM) (s : Str) : List Nat := (List.range n.lines.length).filter (n.goes s)
def NetM.place (n : NetM) (s : Str) : Option Nat := (n.sight.map (·.1)).findIdx? (fun z => decide (z = s))
theorem has_val (n : NetM) (s : Str) : n.has s = (valD (sightK n.sight) (Sum.inr s)).isSome := by
  rw [val_sight]; unfold NetM.has NetM.sees; cases n.sight.lookup s <;> rfl
theorem at_line {n : NetM} {i : Int} (h0 : 0 ≤ i) (h1 : i < n.lines.length) : atI (n.lines.map lineD) i = some (lineD (n.line i.toNat)) := by
  have hi : i.toNat < n.lines.length := by omega
  exact atI_map (n := i.toNat) (by unfold NetM.line; rw [List.getD_eq_getElem?_getD, List.getElem?_eq_getElem hi]; rfl) (by omega)
theorem put_sight {s : List (Str × Bool)} {a : Str} {b : Bool} (h : s.lookup a = none) : putD (sightK s) (Sum.inr a) (.bl b) = sightK (s ++ [(a, b)]) := by
  unfold putD
  have : (sightK s).any (fun kv => decide (kv.1 = Sum.inr a)) = false := by
    rw [List.any_eq_false]
    intro kv hkv
    obtain ⟨p, hp, rfl⟩ := List.mem_map.mp hkv
    have : p.1 ≠ a := fun e => by
      subst e
      rw [List.lookup_eq_none_iff] at h
      simpa using h p hp
    simpa using this
  rw [this]
  unfold sightK
  simp
theorem put_closed {c : List Int} {i : Int} (h : i ∉ c) : putD (closedK c) (Sum.inl i) (.bl true) = closedK (c ++ [i]) := by
  unfold putD
  have : (closedK c).any (fun kv => decide (kv.1 = Sum.inl i)) = false := by
    rw [List.any_eq_false]
    intro kv hkv
    obtain ⟨p, hp, rfl⟩ := List.mem_map.mp hkv
    have : p ≠ i := fun e => h (e ▸ hp)
    simpa using this
  rw [this]
  unfold closedK
  simp
/-- what the making of a net does -/
def netH (H : Hp) (a C dx d1 l d2 : Addr) : Hp := upd (upd (upd (upd H d1 (.dK [])) l (.lst [])) d2 (.dK [])) a (.ins C dx [("sight", .ref d1), ("lines", .ref l), ("closed", .ref d2)])
def spInit (K : PySem.W.Frag) : Sp := fun vs H Q _ => ∃ (a : Addr), vs = [.ref a] ∧ True ∧ ∃ (C dx : Addr), H a = some (.ins C dx []) ∧ Cls K C ∧ (∀ f : Str, f = "sight" ∨ f = "lines" ∨ f = "closed" → NoAttr K C f) ∧ ∀ d1 l d2 : Addr, H d1 = none → H l = none → H d2 = none → d1 ≠ l → d1 ≠ d2 → l ≠ d2 → Q .non (netH H a C dx d1 l d2)
theorem upd_none {H : Hp} {a b : Addr} {o : HO} (h : upd H a o b = none) : b ≠ a ∧ H b = none := by
  have : b ≠ a := fun e => by rw [e, upd_same] at h; cases h
  exact ⟨this, by rw [upd_ne this] at h; exact h⟩
theorem evx_mkNet {K : PySem.W.Frag} {B G : Hp} {Γ : Gm} {M : Sto} {C : Addr} {E : XK} (hc : Cls K C) (hn : ∀ f : Str, f = "sight" ∨ f = "lines" ∨ f = "closed" → NoAttr K C f) :
    EvX K B G Γ M (tMake C (spInit K) [] E tNil) (fun d M' => ∃ d1 l d2, d = .inst C (netF (.ob d1) (.ob l) (.ob d2)) ∧ M' = (d2, Ow.dct []) :: (l, Ow.lst []) :: (d1, Ow.dct []) :: M) := fun F σ H Q k q x dx hx hdx hne => by
  refine ⟨x, rfl, trivial, C, dx, upd_same, hc, hn, fun d1 l d2 h1 h2 h3 n12 n13 n23 => ⟨rfl, ?_⟩⟩
  obtain ⟨a1, h1⟩ := upd_none h1
  obtain ⟨b1, h1⟩ := upd_none h1
  obtain ⟨a2, h2⟩ := upd_none h2
  obtain ⟨b2, h2⟩ := upd_none h2
  obtain ⟨a3, h3⟩ := upd_none h3
  obtain ⟨b3, h3⟩ := upd_none h3
  have e : netH (upd (upd H dx (.own x)) x (.ins C dx [])) x C dx d1 l d2 = upd (upd (upd (upd (upd H dx (.own x)) d1 (.dK [])) l (.lst [])) d2 (.dK [])) x (.ins C dx [("sight", .ref d1), ("lines", .ref l), ("closed", .ref d2)]) := by
    funext b
    unfold netH
    by_cases b0 : b = x
    · subst b0; rw [upd_same, upd_same]
    · rw [upd_ne b0, upd_ne b0]
      by_cases b1 : b = d2
      · subst b1; rw [upd_same, upd_same]
      · rw [upd_ne b1, upd_ne b1]
        by_cases b2 : b = l
        · subst b2; rw [upd_same, upd_same]
        · rw [upd_ne b2, upd_ne b2]
          by_cases b3 : b = d1
          · subst b3; rw [upd_same, upd_same]
          · rw [upd_ne b3, upd_ne b3, upd_ne b0]
  rw [e]
  have k1 := k.new (o := .own x) hdx
  have k2 := k1.cell (p := d1) (o := .dct []) (u := .dK []) (by rw [upd_ne b1]; exact h1) ⟨[], upd_same, .nil⟩
  have k3 := k2.cell (p := l) (o := .lst []) (u := .lst []) (by rw [upd_ne (fun z => n12 z.symm), upd_ne b2]; exact h2) ⟨[], upd_same, .nil⟩
  have k4 := k3.cell (p := d2) (o := .dct []) (u := .dK []) (by rw [upd_ne (fun z => n23 z.symm), upd_ne (fun z => n13 z.symm), upd_ne b3]; exact h3) ⟨[], upd_same, .nil⟩
  have k5 := k4.new (p := x) (o := .ins C dx [("sight", .ref d1), ("lines", .ref l), ("closed", .ref d2)]) (by rw [upd_ne (fun z => a3 z.symm), upd_ne (fun z => a2 z.symm), upd_ne (fun z => a1 z.symm), upd_ne (fun z => hne z.symm)]; exact hx)
  refine q _ _ _ _ _ k5 ?_ (.inst (C := C) upd_same (.cons .ob (.cons .ob (.cons .ob .nil)))) ⟨d1, l, d2, rfl, rfl⟩
  exact (Ex.new (ex_none k.fh hdx)).trans (Ex.new (by rw [upd_ne (fun z => hne z.symm)]; exact ex_none k.fh hx))
def roadD (n : NetM) (k : Nat) : Dt := .tup ([.str (n.line k).1, .str (n.line k).2.1, .int (n.line k).2.2.1, .int (n.line k).2.2.2] ++ [.bl (!decide ((k : Int) ∈ n.closed))])
def pairK (kv : Key × Dt) : Dt := .tup [kD kv.1, kv.2]
def gatePD (g : Str × Bool) : Dt := .tup [.str g.1, .bl g.2]
theorem pairs_sight (s : List (Str × Bool)) : (sightK s).map pairK = s.map gatePD := by
  unfold sightK
  rw [List.map_map]; rfl
theorem val_at : ∀ {s : List (Str × Bool)} {i : Nat} {kv : Key × Dt}, (s.map (·.1)).Nodup → (sightK s)[i]? = some kv → valD (sightK s) kv.1 = some kv.2
  | [], i, kv, _, h => by cases h
  | p :: r, 0, kv, _, h => by
    cases h
    rw [show sightK (p :: r) = (Sum.inr p.1, Dt.bl p.2) :: sightK r from rfl, valD_pos rfl]
  | p :: r, i + 1, kv, nd, h => by
    have h' : (sightK r)[i]? = some kv := h
    rw [List.map_cons] at nd
    obtain ⟨n1, n2⟩ := List.nodup_cons.mp nd
    rw [show sightK (p :: r) = (Sum.inr p.1, Dt.bl p.2) :: sightK r from rfl, valD_neg (fun e => n1 ?_)]
    · exact val_at n2 h'
    · have := List.mem_of_getElem? h'
      unfold sightK at this
      obtain ⟨q, hq, rfl⟩ := List.mem_map.mp this
      have e2 : p.1 = q.1 := Sum.inr.inj e
      rw [e2]
      exact List.mem_map.mpr ⟨q, hq, rfl⟩
def putS (g : List (Str × Bool)) (s : Str) (b : Bool) : List (Str × Bool) := g.map fun p => if p.1 = s then (s, b) else p
theorem put_turn2 {g : List (Str × Bool)} {s : Str} {b : Bool} (h : (g.lookup s).isSome = true) : putD (sightK g) (Sum.inr s) (.bl b) = sightK (putS g s b) := by
  unfold putD
  have : (sightK g).any (fun kv => decide (kv.1 = Sum.inr s)) = true := by
    rw [List.any_eq_true]
    cases q : g.lookup s with
    | none => rw [q] at h; cases h
    | some e =>
      rw [List.lookup_eq_some_iff] at q
      obtain ⟨l1, l2, e1, _⟩ := q
      exact ⟨(Sum.inr s, Dt.bl e), by rw [e1]; unfold sightK; rw [List.map_append]; exact List.mem_append_right _ List.mem_cons_self, by simp⟩
  rw [this, if_pos rfl]
  unfold sightK putS
  rw [List.map_map, List.map_map]
  apply List.map_congr_left
  intro p _
  show (if (Sum.inr p.1 : Key) = Sum.inr s then ((Sum.inr p.1 : Key), Dt.bl b) else (Sum.inr p.1, Dt.bl p.2)) = (Sum.inr (if p.1 = s then (s, b) else p).1, Dt.bl (if p.1 = s then (s, b) else p).2)
  by_cases q : p.1 = s
  · rw [if_pos q, if_pos (by rw [q]), q]
  · rw [if_neg q, if_neg (by simpa using q)]
/-! a watch: cars, where their sightings stand, the sightings -/
abbrev WM := List (Str × Addr × List (Int × Str))
def keptK (W : WM) : List (Key × Dt) := W.map fun e => (Sum.inr e.1, Dt.ob e.2.1)
def ownK (W : WM) : List (Key × Dt) := W.map fun e => (Sum.inr e.1, Dt.lst (e.2.2.map isD))
def watchF (x : Dt) (kd : Addr) : List (Str × Dt) := [("net", x), ("kept", .ob kd)]
theorem val_kept (W : WM) (s : Str) : valD (keptK W) (Sum.inr s) = (W.lookup s).map fun e => Dt.ob e.1 := by
  induction W with
  | nil => rfl
  | cons p r ih =>
    obtain ⟨q, b⟩ := p
    by_cases h : q = s
    · subst h
      rw [show keptK ((q, b) :: r) = (Sum.inr q, Dt.ob b.1) :: keptK r from rfl, valD_pos rfl, List.lookup_cons_self]; rfl
    · rw [show keptK ((q, b) :: r) = (Sum.inr q, Dt.ob b.1) :: keptK r from rfl, valD_neg (by simpa using h), ih, List.lookup_cons, show (s == q) = false by simpa using fun e => h e.symm]
theorem val_own (W : WM) (s : Str) : valD (ownK W) (Sum.inr s) = (W.lookup s).map fun e => Dt.lst (e.2.map isD) := by
  induction W with
  | nil => rfl
  | cons p r ih =>
    obtain ⟨q, b⟩ := p
    by_cases h : q = s
    · subst h
      rw [show ownK ((q, b) :: r) = (Sum.inr q, Dt.lst (b.2.map isD)) :: ownK r from rfl, valD_pos rfl, List.lookup_cons_self]; rfl
    · rw [show ownK ((q, b) :: r) = (Sum.inr q, Dt.lst (b.2.map isD)) :: ownK r from rfl, valD_neg (by simpa using h), ih, List.lookup_cons, show (s == q) = false by simpa using fun e => h e.symm]
theorem kept_some (W : WM) (s : Str) : (valD (keptK W) (Sum.inr s)).isSome = (W.lookup s).isSome := by rw [val_kept]; cases W.lookup s <;> rfl
theorem own_some (W : WM) (s : Str) : (valD (ownK W) (Sum.inr s)).isSome = (W.lookup s).isSome := by rw [val_own]; cases W.lookup s <;> rfl
theorem lookup_none {α : Type} {W : List (Str × α)} {s : Str} (h : W.lookup s = none) : ∀ p ∈ W, p.1 ≠ s := fun p hp e => by
  subst e
  rw [List.lookup_eq_none_iff] at h
  simpa using h p hp
theorem put_kept {W : WM} {s : Str} {a : Addr} {l : List (Int × Str)} (h : W.lookup s = none) : putD (keptK W) (Sum.inr s) (.ob a) = keptK (W ++ [(s, a, l)]) := by
  unfold putD
  have : (keptK W).any (fun kv => decide (kv.1 = Sum.inr s)) = false := by
    rw [List.any_eq_false]
    intro kv hkv
    obtain ⟨p, hp, rfl⟩ := List.mem_map.mp hkv
    have := lookup_none h p hp
    simpa using this
  rw [this, if_neg Bool.false_ne_true]
  unfold keptK
  rw [List.map_append]; rfl
theorem put_ownN {W : WM} {s : Str} {a : Addr} {l : List (Int × Str)} (h : W.lookup s = none) : putD (ownK W) (Sum.inr s) (.lst (l.map isD)) = ownK (W ++ [(s, a, l)]) := by
  unfold putD
  have : (ownK W).any (fun kv => decide (kv.1 = Sum.inr s)) = false := by
    rw [List.any_eq_false]
    intro kv hkv
    obtain ⟨p, hp, rfl⟩ := List.mem_map.mp hkv
    have := lookup_none h p hp
    simpa using this
  rw [this, if_neg Bool.false_ne_true]
  unfold ownK
  rw [List.map_append]; rfl
/-- the sightings of a car written anew -/
def putW (W : WM) (s : Str) (l : List (Int × Str)) : WM := W.map fun e => if e.1 = s then (e.1, e.2.1, l) else e
theorem kept_put (W : WM) (s : Str) (l : List (Int × Str)) : keptK (putW W s l) = keptK W := by
  unfold keptK putW
  rw [List.map_map]
  apply List.map_congr_left
  intro e _
  show (Sum.inr (if e.1 = s then (e.1, e.2.1, l) else e).1, Dt.ob (if e.1 = s then (e.1, e.2.1, l) else e).2.1) = _
  split <;> rfl
theorem put_ownS {W : WM} {s : Str} {l : List (Int × Str)} (h : (W.lookup s).isSome = true) : putD (ownK W) (Sum.inr s) (.lst (l.map isD)) = ownK (putW W s l) := by
  unfold putD
  have : (ownK W).any (fun kv => decide (kv.1 = Sum.inr s)) = true := by
    rw [List.any_eq_true]
    cases q : W.lookup s with
    | none => rw [q] at h; cases h
    | some e =>
      rw [List.lookup_eq_some_iff] at q
      obtain ⟨l1, l2, e1, _⟩ := q
      exact ⟨(Sum.inr s, Dt.lst (e.2.map isD)), by rw [e1]; unfold ownK; rw [List.map_append]; exact List.mem_append_right _ List.mem_cons_self, by simp⟩
  rw [this, if_pos rfl]
  unfold ownK putW
  rw [List.map_map, List.map_map]
  apply List.map_congr_left
  intro e _
  show (if (Sum.inr e.1 : Key) = Sum.inr s then (_, _) else _) = (Sum.inr (if e.1 = s then (e.1, e.2.1, l) else e).1, Dt.lst ((if e.1 = s then (e.1, e.2.1, l) else e).2.2.map isD))
  by_cases q : e.1 = s
  · rw [if_pos q, if_pos (by rw [q])]
  · rw [if_neg q, if_neg (by simpa using q)]
def dropW (W : WM) (s : Str) : WM := W.filter fun e => decide (e.1 ≠ s)
theorem kept_drop (W : WM) (s : Str) : dropD (keptK W) (Sum.inr s) = keptK (dropW W s) := by
  unfold dropD keptK dropW
  rw [List.filter_map]
  congr 1
  apply List.filter_congr
  intro e _
  simp
theorem own_drop (W : WM) (s : Str) : dropD (ownK W) (Sum.inr s) = ownK (dropW W s) := by
  unfold dropD ownK dropW
  rw [List.filter_map]
  congr 1
  apply List.filter_congr
  intro e _
  simp
theorem kept_keys (W : WM) : (keptK W).map (·.1) = (W.map (·.1)).map Sum.inr := by unfold keptK; rw [List.map_map, List.map_map]; rfl
theorem own_keys (W : WM) : (ownK W).map (·.1) = (W.map (·.1)).map Sum.inr := by unfold ownK; rw [List.map_map, List.map_map]; rfl
/-- what the making of a watch does -/
def watchH (H : Hp) (a C dx d1 : Addr) (v : V) : Hp := upd (upd H d1 (.dK [])) a (.ins C dx [("net", v), ("kept", .ref d1)])
def spInitW (K : PySem.W.Frag) : Sp := fun vs H Q _ => ∃ (a : Addr) (v : V), vs = [.ref a, v] ∧ True ∧ ∃ (C dx : Addr), H a = some (.ins C dx []) ∧ Cls K C ∧ (∀ f : Str, f = "net" ∨ f = "kept" → NoAttr K C f) ∧ ∀ d1 : Addr, H d1 = none → Q .non (watchH H a C dx d1 v)
theorem upd_noneW {H : Hp} {a b : Addr} {o : HO} (h : upd H a o b = none) : b ≠ a ∧ H b = none := by
  have : b ≠ a := fun e => by rw [e, upd_same] at h; cases h
  exact ⟨this, by rw [upd_ne this] at h; exact h⟩
theorem evx_mkWatch {K : PySem.W.Frag} {B G : Hp} {Γ : Gm} {M : Sto} {C : Addr} {E : XK} {t : TE} {x : Dt} (hx0 : EvD K Γ M t x) (hc : Cls K C) (hn : ∀ f : Str, f = "net" ∨ f = "kept" → NoAttr K C f) :
    EvX K B G Γ M (tMake C (spInitW K) [] E (tCons t tNil)) (fun d M' => ∃ d1, d = .inst C (watchF x d1) ∧ M' = (d1, Ow.dct []) :: M) := fun F0 σ H0 Q k0 q => hx0 B G F0 σ H0 _ k0 fun v F H k e0 r0 => by
  intro y dx hy hdx hne
  refine ⟨y, v, rfl, trivial, C, dx, upd_same, hc, hn, fun d1 h1 => ⟨rfl, ?_⟩⟩
  obtain ⟨a1, h1⟩ := upd_noneW h1
  obtain ⟨b1, h1⟩ := upd_noneW h1
  have e : watchH (upd (upd H dx (.own y)) y (.ins C dx [])) y C dx d1 v = upd (upd (upd H dx (.own y)) d1 (.dK [])) y (.ins C dx [("net", v), ("kept", .ref d1)]) := by
    funext b
    unfold watchH
    by_cases b0 : b = y
    · subst b0; rw [upd_same, upd_same]
    · rw [upd_ne b0, upd_ne b0]
      by_cases b1 : b = d1
      · subst b1; rw [upd_same, upd_same]
      · rw [upd_ne b1, upd_ne b1, upd_ne b0]
  rw [e]
  have k1 := k.new (o := .own y) hdx
  have k2 := k1.cell (p := d1) (o := .dct []) (u := .dK []) (by rw [upd_ne b1]; exact h1) ⟨[], upd_same, .nil⟩
  have k3 := k2.new (p := y) (o := .ins C dx [("net", v), ("kept", .ref d1)]) (by rw [upd_ne (fun z => a1 z.symm), upd_ne (fun z => hne z.symm)]; exact hy)
  have ex : Ex F (upd (upd F dx (.own y)) y (.ins C dx [("net", v), ("kept", .ref d1)])) := (Ex.new (ex_none k.fh hdx)).trans (Ex.new (by rw [upd_ne (fun z => hne z.symm)]; exact ex_none k.fh hy))
  exact q _ _ _ _ _ k3 (e0.trans ex) (.inst (C := C) upd_same (.cons (r0.mono ex) (.cons .ob .nil))) ⟨d1, rfl, rfl⟩
def sgs : List Nat := ("abcdefghijklmnopqrstuvwxyz0123456789" : Str).cps.toList
theorem sgs_len : sgs.length = 36 := by decide +kernel
def sgAt (i : Int) : Nat := sgs.getD i.toNat 0
theorem at_sg {i : Int} (h0 : 0 ≤ i) (h1 : i < 36) : atI ("abcdefghijklmnopqrstuvwxyz0123456789" : Str).cps.toList i = some (sgAt i) := atI_D 0 h0 (by show i < (sgs.length : Int); rw [sgs_len]; omega)
/-- the eight signs of a base -/
def nsg (b : Int) : List Nat := ((List.range 8).map fun (k : Nat) => sgAt ((b / 64 + 7 * (k : Int) + b / 99991 * (k : Int)) % 36)).set 0 (sgAt (b / 64 % 26))
theorem nsg_len (b : Int) : (nsg b).length = 8 := by simp [nsg]
def nameOf (b t : Int) : Str :=
  if b % 3 = 0 ∧ t < 8 then ⟨((nsg b).take (1 + t).toNat).toArray⟩
  else if b % 3 < 2 ∨ t > 25 then ⟨((nsg b).take (1 + b / 3 % 5).toNat).toArray⟩ ++ (toString t : Str)
  else ⟨(((nsg b).set (b / 24 % (1 + b / 3 % 8)).toNat (sgAt ((b / 2311 + t) % (if b / 24 % (1 + b / 3 % 8) = 0 then 26 else 36)))).take (1 + b / 3 % 8).toNat).toArray⟩
theorem str_len (t : Int) (h0 : 0 ≤ t) (h1 : t < 1000) : ((toString t : Str)).length ≤ 3 := by
  have h : ∀ n : Fin 1000, ((toString ((n.val : Nat) : Int) : Str)).length ≤ 3 := by decide +kernel
  have := h ⟨t.toNat, by omega⟩
  have e : ((t.toNat : Nat) : Int) = t := by omega
  simpa [e] using this
theorem log2_small {t : Int} (h0 : 0 ≤ t) (h1 : t < 2 ^ 60) : t.natAbs.log2 < 1920 := by
  have : t.natAbs < 2 ^ 60 := by omega
  have h2 : t.natAbs.log2 ≤ 60 := by
    by_cases hz : t.natAbs = 0
    · rw [hz]; decide
    · have := (Nat.log2_lt hz).mpr this; omega
  omega
/-- a row: gate, minutes, toll, road, back -/
structure RowD where
  g : Str
  m : Int
  t : Int
  r : Int
  b : Int
  deriving DecidableEq, Inhabited
def rowD (r : RowD) : Dt := .tup [.str r.g, .int r.m, .int r.t, .int r.r, .int r.b]
/-- the place of the least toll, the first of several, behind k rows -/
def leastN (rs : List RowD) (x : Str) : Nat → Option Nat
  | 0 => none
  | k + 1 =>
    if k = 0 then none else
    match rs[k]?, leastN rs x k with
    | none, f => f
    | some r, none => if r.g = x then some k else none
    | some r, some f => if r.g = x ∧ r.t < (rs.getD f default).t then some k else some f
def leastOf (rs : List RowD) (x : Str) : Option Nat := leastN rs x rs.length
def optD : Option Nat → Dt
  | none => .non
  | some k => .int k
theorem leastN_lt {rs : List RowD} {x : Str} : ∀ {k f : Nat}, leastN rs x k = some f → 0 < f ∧ f < k ∧ f < rs.length
  | 0, f, h => by simp [leastN] at h
  | k + 1, f, h => by
    unfold leastN at h
    by_cases h0 : k = 0
    · simp [h0] at h
    rw [if_neg h0] at h
    cases hr : rs[k]? with
    | none =>
      rw [hr] at h
      have := leastN_lt (rs := rs) (x := x) (k := k) (f := f) h
      omega
    | some r =>
      rw [hr] at h
      have hk : k < rs.length := (List.getElem?_eq_some_iff.mp hr).1
      cases hf : leastN rs x k with
      | none =>
        rw [hf] at h
        dsimp only at h
        split at h
        · cases h; omega
        · cases h
      | some f' =>
        rw [hf] at h
        have := leastN_lt hf
        dsimp only at h
        split at h
        · cases h; omega
        · cases h; omega
/-- rows that go on from rows ahead of them -/
def BackOk (rs : List RowD) : Prop := ∀ k (h : k < rs.length), if k = 0 then rs[k].b < 0 else 0 ≤ rs[k].b ∧ rs[k].b < k
/-- the roads of a row from there back -/
def backRoads (rs : List RowD) : Nat → Nat → List Int
  | 0, _ => []
  | n + 1, p => if p = 0 then [] else (rs.getD p default).r :: backRoads rs n (rs.getD p default).b.toNat
def roadsOf (rs : List RowD) (p : Nat) : List Int := (backRoads rs rs.length p).reverse
theorem backRoads_stop (rs : List RowD) : ∀ n, backRoads rs n 0 = []
  | 0 => rfl
  | n + 1 => by simp [backRoads]
theorem backRoads_more {rs : List RowD} (hb : BackOk rs) : ∀ (n p : Nat), p < rs.length → p ≤ n → backRoads rs (n + 1) p = backRoads rs n p
  | 0, p, _, h => by
    have : p = 0 := by omega
    subst this
    simp [backRoads]
  | n + 1, p, hp, h => by
    by_cases h0 : p = 0
    · subst h0; simp [backRoads]
    · have hb' := hb p hp
      rw [if_neg h0] at hb'
      have e : rs.getD p default = rs[p] := by rw [List.getD_eq_getElem?_getD, List.getElem?_eq_getElem hp]; rfl
      show (if p = 0 then [] else (rs.getD p default).r :: backRoads rs (n + 1) (rs.getD p default).b.toNat) = (if p = 0 then [] else (rs.getD p default).r :: backRoads rs n (rs.getD p default).b.toNat)
      rw [if_neg h0, if_neg h0, e, backRoads_more hb n _ (by omega) (by omega)]
theorem backRoads_enough {rs : List RowD} (hb : BackOk rs) {p : Nat} (hp : p < rs.length) : ∀ (n : Nat), p ≤ n → backRoads rs n p = backRoads rs p p
  | 0, h => by
    have : p = 0 := by omega
    subst this
    rfl
  | n + 1, h => by
    by_cases e : p = n + 1
    · rw [← e]
    · rw [backRoads_more hb n p hp (by omega), backRoads_enough hb hp n (by omega)]
theorem backRoads_len (rs : List RowD) : ∀ n p, (backRoads rs n p).length ≤ n
  | 0, _ => Nat.le_refl _
  | n + 1, p => by
    unfold backRoads
    split
    · simp
    · rw [List.length_cons]
      have := backRoads_len rs n (rs.getD p default).b.toNat
      omega
def T_least : TmV := fun ds M R _ => ∃ (rs : List RowD) (x : Str), ds = [.lst (rs.map rowD), .str x] ∧ rs.length < 10000000 ∧ R (optD (leastOf rs x)) M
def T_roads_to : TmV := fun ds M R _ => ∃ (rs : List RowD) (p : Nat), ds = [.lst (rs.map rowD), .int p] ∧ (BackOk rs ∧ p < rs.length ∧ rs.length < 10000000) ∧ ∀ a, R (.ob a) ((a, .lst ((roadsOf rs p).map Dt.int)) :: M)
theorem sg_lt : ∀ c ∈ sgs, c < 0x110000 := by decide +kernel
theorem sgAt_lt (i : Int) : sgAt i < 0x110000 := by
  unfold sgAt
  rw [List.getD_eq_getElem?_getD]
  cases h : sgs[i.toNat]? with
  | none => decide
  | some c => exact sg_lt c (List.mem_of_getElem? h)
theorem nsg_lt (b : Int) : ∀ c ∈ nsg b, c < 0x110000 := fun c h => by
  unfold nsg at h
  rcases List.mem_or_eq_of_mem_set h with h | h
  · obtain ⟨k, _, rfl⟩ := List.mem_map.mp h; exact sgAt_lt _
  · rw [h]; exact sgAt_lt _
theorem strOk_of {cs : List Nat} (h : ∀ c ∈ cs, c < 0x110000) : PyData.strOk ⟨cs.toArray⟩ = true := by
  unfold PyData.strOk
  rw [List.all_toArray, List.all_eq_true]
  intro c hc
  simpa using h c hc
theorem strOk_app {s t : Str} (h1 : PyData.strOk s = true) (h2 : PyData.strOk t = true) : PyData.strOk (s ++ t) = true := by
  unfold PyData.strOk at *
  show (s.cps ++ t.cps).all _ = true
  rw [Array.all_append, h1, h2]; rfl
theorem strOk_str (s : String) : PyData.strOk (Str.ofString s) = true := by
  rw [Str.ofString_eq_toList]
  apply strOk_of
  intro c h
  obtain ⟨ch, _, rfl⟩ := List.mem_map.mp h
  have := ch.valid
  show ch.toNat < 0x110000
  unfold Char.toNat
  rcases this with h | h
  · have : ch.val.toNat < 0xd800 := h
    omega
  · exact h.2
theorem nameOf_ok (b t : Int) : PyData.strOk (nameOf b t) = true := by
  unfold nameOf
  split
  · exact strOk_of fun c h => nsg_lt b c (List.mem_of_mem_take h)
  split
  · exact strOk_app (strOk_of fun c h => nsg_lt b c (List.mem_of_mem_take h)) (strOk_str _)
  · refine strOk_of fun c h => ?_
    rcases List.mem_or_eq_of_mem_set (List.mem_of_mem_take h) with h | h
    · exact nsg_lt b c h
    · rw [h]; exact sgAt_lt _
theorem sh_row {r : RowD} (h : PyData.strOk r.g = true) {n : Nat} : ShD (n + 1) (rowD r) := sh_tup (by
  intro d hd
  simp only [List.mem_cons, List.not_mem_nil, or_false] at hd
  rcases hd with rfl | rfl | rfl | rfl | rfl
  · exact sh_str h
  all_goals exact sh_int)
theorem sh_rows {rs : List RowD} (h : ∀ r ∈ rs, PyData.strOk r.g = true) {n : Nat} : ShD (n + 2) (.lst (rs.map rowD)) := sh_lst (by
  intro d hd
  obtain ⟨r, hr, rfl⟩ := List.mem_map.mp hd
  exact sh_row (h r hr))
theorem sh_ints {ns : List Int} {n : Nat} : ShD (n + 1) (.lst (ns.map Dt.int)) := sh_lst (by
  intro d hd
  obtain ⟨r, hr, rfl⟩ := List.mem_map.mp hd
  exact sh_int)
def sg36 : List Nat := ("abcdefghijklmnopqrstuvwxyz0123456789" : Str).cps.toList
theorem cut36 : (cutS "abcdefghijklmnopqrstuvwxyz0123456789" none (some 36)).cps.toList = sg36 := by decide +kernel
theorem cut26 : (cutS "abcdefghijklmnopqrstuvwxyz0123456789" none (some 26)).cps.toList = smallL := by decide +kernel
theorem sg36_eq : sg36 = smallL ++ figL := by decide +kernel
theorem in36 (c : Nat) : decide (c ∈ sg36) = nmSign c := by
  unfold nmSign
  rw [sg36_eq]
  by_cases h1 : c ∈ smallL <;> by_cases h2 : c ∈ figL <;> simp [h1, h2]
/-- what the law asks of the sign at k -/
def sgnOk (s : Str) (k : Nat) : Bool := decide (s.cps.toList.getD k 0 ∈ (if k = 0 then smallL else sg36))
theorem isNm_law (s : Str) : isNm s = ((decide ((0 : Int) < s.length) && decide ((s.length : Int) < 9)) && (List.range s.length).all (sgnOk s)) := by
  have hl := cps_len s
  unfold isNm
  by_cases h : 1 ≤ s.length
  · have e : s.cps.toList = s.cps.toList.getD 0 0 :: s.cps.toList.drop 1 := by
      cases q : s.cps.toList with
      | nil => rw [q] at hl; simp at hl; omega
      | cons a r => simp
    have a1 : decide ((1 : Int) ≤ s.length) = decide ((0 : Int) < s.length) := by congr 1
    have a2 : decide ((s.length : Int) ≤ 8) = decide ((s.length : Int) < 9) := by
      have : ((s.length : Int) ≤ 8) ↔ ((s.length : Int) < 9) := by omega
      simp [this]
    rw [a1, a2, Bool.and_assoc]
    congr 1
    rw [Bool.eq_iff_iff]
    rw [Bool.and_eq_true, List.all_eq_true, List.all_eq_true]
    constructor
    · rintro ⟨h0, ha⟩ k hk
      have hk' : k < s.length := List.mem_range.mp hk
      unfold sgnOk
      by_cases q : k = 0
      · rw [if_pos q, q]; exact h0
      · rw [if_neg q, in36]
        apply ha
        rw [List.getD_eq_getElem?_getD, List.getElem?_eq_getElem (by omega)]
        exact List.getElem_mem _
    · intro ha
      have h0 := ha 0 (List.mem_range.mpr (by omega))
      unfold sgnOk at h0
      rw [if_pos rfl] at h0
      refine ⟨h0, fun c hc => ?_⟩
      obtain ⟨k, hk, rfl⟩ := List.getElem_of_mem hc
      have hk2 := ha k (List.mem_range.mpr (by omega))
      unfold sgnOk at hk2
      rw [List.getD_eq_getElem?_getD, List.getElem?_eq_getElem hk] at hk2
      by_cases q : k = 0
      · rw [if_pos q] at hk2
        unfold nmSign
        rw [show decide ((s.cps.toList)[k] ∈ smallL) = true from hk2]
        rfl
      · rw [if_neg q, in36] at hk2
        exact hk2
  · have e : s.length = 0 := by omega
    have z : decide ((1 : Int) ≤ s.length) = false := by simp; omega
    have z2 : decide ((0 : Int) < s.length) = false := by simp; omega
    rw [z, z2]; rfl
theorem sg_all : ∀ c ∈ sgs, nmSign c = true := by decide +kernel
theorem sg_mem {i : Int} (h0 : 0 ≤ i) (h1 : i < 36) : sgAt i ∈ sgs := by
  unfold sgAt
  have : i.toNat < sgs.length := by rw [sgs_len]; omega
  rw [List.getD_eq_getElem?_getD, List.getElem?_eq_getElem this]
  exact List.getElem_mem _
theorem sg_nm {i : Int} (h0 : 0 ≤ i) (h1 : i < 36) : nmSign (sgAt i) = true := sg_all _ (sg_mem h0 h1)
theorem sg_small {i : Int} (h0 : 0 ≤ i) (h1 : i < 26) : sgAt i ∈ smallL := by
  have : ∀ k : Fin 26, sgAt (k.val : Int) ∈ smallL := by decide +kernel
  have := this ⟨i.toNat, by omega⟩
  rwa [show ((i.toNat : Nat) : Int) = i by omega] at this
theorem sg_inj {i j : Int} (h0 : 0 ≤ i) (h1 : i < 36) (h2 : 0 ≤ j) (h3 : j < 36) (h : sgAt i = sgAt j) : i = j := by
  have nd : ∀ a b : Fin 36, sgAt (a.val : Int) = sgAt (b.val : Int) → a = b := by decide +kernel
  have := nd ⟨i.toNat, by omega⟩ ⟨j.toNat, by omega⟩ (by
    show sgAt ((i.toNat : Nat) : Int) = sgAt ((j.toNat : Nat) : Int)
    rw [show ((i.toNat : Nat) : Int) = i by omega, show ((j.toNat : Nat) : Int) = j by omega]; exact h)
  have e : i.toNat = j.toNat := congrArg Fin.val this
  omega
theorem isNm_of (cs : List Nat) (h1 : 1 ≤ cs.length) (h8 : cs.length ≤ 8) (h0 : cs.getD 0 0 ∈ smallL) (ha : ∀ c ∈ cs, nmSign c = true) : isNm ⟨cs.toArray⟩ = true := by
  unfold isNm
  have hl : ((⟨cs.toArray⟩ : Str).length : Int) = cs.length := by
    show ((cs.toArray.size : Nat) : Int) = _
    rw [List.size_toArray]
  rw [hl]
  have e : (⟨cs.toArray⟩ : Str).cps.toList = cs := rfl
  rw [e]
  rw [decide_eq_true (show (1 : Int) ≤ cs.length by omega), decide_eq_true (show (cs.length : Int) ≤ 8 by omega), decide_eq_true h0, List.all_eq_true.mpr ha]
  rfl
theorem nsg_get (b : Int) : ∀ c ∈ nsg b, nmSign c = true := by
  intro c hc
  unfold nsg at hc
  rcases List.mem_or_eq_of_mem_set hc with h | h
  · obtain ⟨k, _, rfl⟩ := List.mem_map.mp h
    exact sg_nm (Int.emod_nonneg _ (by decide)) (Int.emod_lt_of_pos _ (by decide))
  · rw [h]
    have h1 := Int.emod_nonneg (b / 64) (show (26 : Int) ≠ 0 by decide)
    have h2 := Int.emod_lt_of_pos (b / 64) (show (0 : Int) < 26 by decide)
    exact sg_nm h1 (by omega)
theorem nsg_0 (b : Int) : (nsg b).getD 0 0 = sgAt (b / 64 % 26) := by
  unfold nsg
  rw [List.getD_eq_getElem?_getD, List.getElem?_set_self (by simp)]
  rfl
theorem nsg_0s (b : Int) : (nsg b).getD 0 0 ∈ smallL := by
  rw [nsg_0]
  exact sg_small (Int.emod_nonneg _ (by decide)) (Int.emod_lt_of_pos _ (by decide))
theorem take_0 {cs : List Nat} {k : Nat} (h : 0 < k) : (cs.take k).getD 0 0 = cs.getD 0 0 := by
  cases cs with
  | nil => simp
  | cons c r =>
    obtain ⟨j, rfl⟩ : ∃ j, k = j + 1 := ⟨k - 1, by omega⟩
    rfl
def strL (t : Int) : List Nat := (toString t : Str).cps.toList
theorem strL_ok : ∀ t : Fin 61, (∀ c ∈ strL (t.val : Int), nmSign c = true) ∧ (strL (t.val : Int)).length ≤ 2 := by decide +kernel
theorem strL_inj : ∀ a b : Fin 61, strL (a.val : Int) = strL (b.val : Int) → a = b := by decide +kernel
/-- the signs of a name -/
def nameL (b t : Int) : List Nat :=
  if b % 3 = 0 ∧ t < 8 then (nsg b).take (1 + t).toNat
  else if b % 3 < 2 ∨ t > 25 then (nsg b).take (1 + b / 3 % 5).toNat ++ strL t
  else ((nsg b).set (b / 24 % (1 + b / 3 % 8)).toNat (sgAt ((b / 2311 + t) % (if b / 24 % (1 + b / 3 % 8) = 0 then 26 else 36)))).take (1 + b / 3 % 8).toNat
theorem name_L (b t : Int) : nameOf b t = ⟨(nameL b t).toArray⟩ := by
  unfold nameOf nameL
  split
  · rfl
  · split
    · show (⟨_ ++ _⟩ : Str) = _
      congr 1
      rw [← List.append_toArray]
      rfl
    · rfl
theorem name_nm {b t : Int} (h0 : 0 ≤ t) (h1 : t < 61) : isNm (nameOf b t) = true := by
  rw [name_L]
  have h5 := Int.emod_nonneg (b / 3) (show (5 : Int) ≠ 0 by decide)
  have h5' := Int.emod_lt_of_pos (b / 3) (show (0 : Int) < 5 by decide)
  have h8 := Int.emod_nonneg (b / 3) (show (8 : Int) ≠ 0 by decide)
  have h8' := Int.emod_lt_of_pos (b / 3) (show (0 : Int) < 8 by decide)
  have hl := nsg_len b
  unfold nameL
  split
  · rename_i h
    apply isNm_of
    · rw [List.length_take]; omega
    · rw [List.length_take]; omega
    · rw [take_0 (by omega)]; exact nsg_0s b
    · exact fun c hc => nsg_get b c (List.mem_of_mem_take hc)
  · split
    · obtain ⟨s1, s2⟩ := strL_ok ⟨t.toNat, by omega⟩
      rw [show (((⟨t.toNat, by omega⟩ : Fin 61).val : Nat) : Int) = t by show ((t.toNat : Nat) : Int) = t; omega] at s1 s2
      have hne : 0 < ((nsg b).take (1 + b / 3 % 5).toNat).length := by rw [List.length_take]; omega
      apply isNm_of
      · rw [List.length_append]; omega
      · rw [List.length_append, List.length_take]; omega
      · rw [List.getD_eq_getElem?_getD, List.getElem?_append_left hne, ← List.getD_eq_getElem?_getD, take_0 (by omega)]; exact nsg_0s b
      · intro c hc
        rcases List.mem_append.mp hc with h | h
        · exact nsg_get b c (List.mem_of_mem_take h)
        · exact s1 c h
    · have hmod : 0 < (if b / 24 % (1 + b / 3 % 8) = 0 then (26 : Int) else 36) ∧ (if b / 24 % (1 + b / 3 % 8) = 0 then (26 : Int) else 36) ≤ 36 := by split <;> decide
      have hk1 := Int.emod_nonneg (b / 2311 + t) (show (if b / 24 % (1 + b / 3 % 8) = 0 then (26 : Int) else 36) ≠ 0 by omega)
      have hk2 := Int.emod_lt_of_pos (b / 2311 + t) hmod.1
      have hp := Int.emod_nonneg (b / 24) (show 1 + b / 3 % 8 ≠ 0 by omega)
      apply isNm_of
      · rw [List.length_take, List.length_set]; omega
      · rw [List.length_take, List.length_set]; omega
      · rw [take_0 (by omega)]
        by_cases q : b / 24 % (1 + b / 3 % 8) = 0
        · rw [List.getD_eq_getElem?_getD, q, if_pos rfl]
          show (((nsg b).set 0 _)[0]?).getD 0 ∈ smallL
          rw [List.getElem?_set_self (by rw [hl]; decide)]
          rw [if_pos q] at hk1 hk2
          exact sg_small hk1 hk2
        · rw [List.getD_eq_getElem?_getD, List.getElem?_set_ne (by omega), ← List.getD_eq_getElem?_getD]
          exact nsg_0s b
      · intro c hc
        rcases List.mem_or_eq_of_mem_set (List.mem_of_mem_take hc) with h | h
        · exact nsg_get b c h
        · rw [h]; exact sg_nm hk1 (by omega)
theorem name_inj {b t1 t2 : Int} (hc : b % 3 = 1 ∨ (t1 < 8 ∧ t2 < 8)) (h10 : 0 ≤ t1) (h11 : t1 < 61) (h20 : 0 ≤ t2) (h21 : t2 < 61) (h : nameOf b t1 = nameOf b t2) : t1 = t2 := by
  have h' : nameL b t1 = nameL b t2 := by
    rw [name_L, name_L] at h
    have := congrArg (fun s : Str => s.cps.toList) h
    exact this
  have hl := nsg_len b
  unfold nameL at h'
  by_cases h3 : b % 3 = 0
  · rcases hc with q | ⟨q1, q2⟩
    · omega
    rw [if_pos (show b % 3 = 0 ∧ t1 < 8 from ⟨h3, q1⟩), if_pos (show b % 3 = 0 ∧ t2 < 8 from ⟨h3, q2⟩)] at h'
    have := congrArg List.length h'
    rw [List.length_take, List.length_take] at this
    omega
  · rw [if_neg (show ¬(b % 3 = 0 ∧ t1 < 8) from fun z => h3 z.1), if_neg (show ¬(b % 3 = 0 ∧ t2 < 8) from fun z => h3 z.1)] at h'
    by_cases h4 : b % 3 < 2
    · rw [if_pos (show b % 3 < 2 ∨ t1 > 25 from Or.inl h4), if_pos (show b % 3 < 2 ∨ t2 > 25 from Or.inl h4)] at h'
      have e := List.append_cancel_left h'
      have := strL_inj ⟨t1.toNat, by omega⟩ ⟨t2.toNat, by omega⟩ (by
        show strL ((t1.toNat : Nat) : Int) = strL ((t2.toNat : Nat) : Int)
        rw [show ((t1.toNat : Nat) : Int) = t1 by omega, show ((t2.toNat : Nat) : Int) = t2 by omega]; exact e)
      have e2 : t1.toNat = t2.toNat := congrArg Fin.val this
      omega
    · rcases hc with q | ⟨q1, q2⟩
      · omega
      rw [if_neg (show ¬(b % 3 < 2 ∨ t1 > 25) by omega), if_neg (show ¬(b % 3 < 2 ∨ t2 > 25) by omega)] at h'
      have h8 := Int.emod_nonneg (b / 3) (show (8 : Int) ≠ 0 by decide)
      have h8' := Int.emod_lt_of_pos (b / 3) (show (0 : Int) < 8 by decide)
      have hp := Int.emod_nonneg (b / 24) (show 1 + b / 3 % 8 ≠ 0 by omega)
      have hp' := Int.emod_lt_of_pos (b / 24) (show 0 < 1 + b / 3 % 8 by omega)
      have hmod : 26 ≤ (if b / 24 % (1 + b / 3 % 8) = 0 then (26 : Int) else 36) ∧ (if b / 24 % (1 + b / 3 % 8) = 0 then (26 : Int) else 36) ≤ 36 := by split <;> decide
      generalize (if b / 24 % (1 + b / 3 % 8) = 0 then (26 : Int) else 36) = md at h' hmod
      have e : ∀ v : Nat, (((nsg b).set (b / 24 % (1 + b / 3 % 8)).toNat v).take (1 + b / 3 % 8).toNat).getD (b / 24 % (1 + b / 3 % 8)).toNat 0 = v := fun v => by
        rw [List.getD_eq_getElem?_getD, List.getElem?_take_of_lt (by omega), List.getElem?_set_self (by omega)]; rfl
      have e2 := congrArg (fun l : List Nat => l.getD (b / 24 % (1 + b / 3 % 8)).toNat 0) h'
      rw [e, e] at e2
      have a1 := Int.emod_nonneg (b / 2311 + t1) (show md ≠ 0 by omega)
      have a2 := Int.emod_lt_of_pos (b / 2311 + t1) (show 0 < md by omega)
      have a3 := Int.emod_nonneg (b / 2311 + t2) (show md ≠ 0 by omega)
      have a4 := Int.emod_lt_of_pos (b / 2311 + t2) (show 0 < md by omega)
      have e3 := sg_inj a1 (by omega) a3 (by omega) e2
      have d1 := Int.emod_add_mul_ediv (b / 2311 + t1) md
      have d2 := Int.emod_add_mul_ediv (b / 2311 + t2) md
      have e4 : t1 - t2 = md * ((b / 2311 + t1) / md - (b / 2311 + t2) / md) := by
        rw [Int.mul_sub]; omega
      generalize (b / 2311 + t1) / md - (b / 2311 + t2) / md = q at e4
      by_cases hq : q = 0
      · subst hq; simp at e4; omega
      · exfalso
        have : q ≤ -1 ∨ 1 ≤ q := by omega
        rcases this with q1' | q1'
        · have := Int.mul_le_mul_of_nonneg_left q1' (show 0 ≤ md by omega)
          omega
        · have := Int.mul_le_mul_of_nonneg_left q1' (show 0 ≤ md by omega)
          omega
def ra (rows : List RowD) (i : Nat) : RowD := rows.getD i default
theorem ra_lt {rows : List RowD} {x : RowD} {i : Nat} (h : i < rows.length) : ra (rows ++ [x]) i = ra rows i := by
  unfold ra; rw [List.getD_eq_getElem?_getD, List.getD_eq_getElem?_getD, List.getElem?_append_left h]
theorem ra_eq {rows : List RowD} {x : RowD} : ra (rows ++ [x]) rows.length = x := by
  unfold ra; rw [List.getD_eq_getElem?_getD, List.getElem?_append_right (Nat.le_refl _)]; simp
def NetM.place' (n : NetM) (s : Str) : Int := ((n.place s).getD 0 : Nat)
def lmin (l : Str × Str × Int × Int) : Int := l.2.2.1
def ltoll (l : Str × Str × Int × Int) : Int := l.2.2.2
/-- going on along road k from the row at b -/
def extW (n : NetM) (r : RowD) (b k : Nat) : List Int := [r.t + ltoll (n.line k), r.m + lmin (n.line k), n.place' (n.line k).2.1, (k : Int), (b : Int)]
def goesL (n : NetM) (rows : List RowD) (b : Nat) (lim : Int) : List (List Int) :=
  ((n.out (ra rows b).g).filter fun k => decide ((ra rows b).m + lmin (n.line k) ≤ lim)).map (extW n (ra rows b) b)
structure RS where
  rows : List RowD
  quick : List (Str × Int)
  wait : List (List Int)
def wRow (n : NetM) (w : List Int) : RowD := ⟨(n.line (w.getD 3 0).toNat).2.1, w.getD 1 0, w.getD 0 0, w.getD 3 0, w.getD 4 0⟩
def putq (q : List (Str × Int)) (s : Str) (m : Int) : List (Str × Int) := if q.any (fun p => decide (p.1 = s)) then q.map (fun p => if p.1 = s then (p.1, m) else p) else q ++ [(s, m)]
def rstep (n : NetM) (lim : Int) (s : RS) : RS :=
  match s.wait with
  | [] => s
  | w :: ws =>
    if (wRow n (minT w ws)).m < (s.quick.lookup (wRow n (minT w ws)).g).getD ((wRow n (minT w ws)).m + 1) then
      ⟨s.rows ++ [wRow n (minT w ws)], putq s.quick (wRow n (minT w ws)).g (wRow n (minT w ws)).m,
        (w :: ws).erase (minT w ws) ++ (if n.sees (wRow n (minT w ws)).g = some false then goesL n (s.rows ++ [wRow n (minT w ws)]) s.rows.length lim else [])⟩
    else ⟨s.rows, s.quick, (w :: ws).erase (minT w ws)⟩
def startRow (gate : Str) : RowD := ⟨gate, 0, 0, -1, -1⟩
def rstart (n : NetM) (gate : Str) (lim : Int) : RS := ⟨[startRow gate], [], goesL n [startRow gate] 0 lim⟩
def riter (n : NetM) (lim : Int) : Nat → RS → RS
  | 0, s => s
  | k + 1, s => riter n lim k (rstep n lim s)
theorem riter_succ (n : NetM) (lim : Int) : ∀ k s, riter n lim (k + 1) s = rstep n lim (riter n lim k s)
  | 0, s => rfl
  | k + 1, s => by
    show riter n lim (k + 1) (rstep n lim s) = _
    rw [riter_succ n lim k]; rfl
theorem riter_done {n : NetM} {lim : Int} {s : RS} (h : s.wait = []) : ∀ k, riter n lim k s = s
  | 0 => rfl
  | k + 1 => by
    show riter n lim k (rstep n lim s) = s
    have : rstep n lim s = s := by unfold rstep; rw [h]
    rw [this, riter_done h k]
theorem riter_add (n : NetM) (lim : Int) (s : RS) : ∀ i j, riter n lim (i + j) s = riter n lim j (riter n lim i s)
  | i, 0 => rfl
  | i, j + 1 => by
    rw [← Nat.add_assoc, riter_succ, riter_add n lim s i j, riter_succ]
theorem fuel_ex : ∃ N : Nat, N = 1000000 := ⟨_, rfl⟩
noncomputable def fuelN : Nat := Classical.choose fuel_ex
theorem fuelN_eq : fuelN = 1000000 := Classical.choose_spec fuel_ex
/-- the rows that are reached -/
noncomputable def reachRows (n : NetM) (gate : Str) (lim : Int) : List RowD := (riter n lim fuelN (rstart n gate lim)).rows
theorem riter_stop {n : NetM} {lim : Int} {s : RS} {i : Nat} (h : (riter n lim i s).wait = []) (F : Nat) (hF : i ≤ F) : riter n lim F s = riter n lim i s := by
  obtain ⟨j, rfl⟩ : ∃ j, F = i + j := ⟨F - i, by omega⟩
  rw [riter_add, riter_done h]
theorem reach_of {n : NetM} {gate : Str} {lim : Int} {i : Nat} (hi : i ≤ fuelN) (h : (riter n lim i (rstart n gate lim)).wait = []) : reachRows n gate lim = (riter n lim i (rstart n gate lim)).rows := by
  exact congrArg RS.rows (riter_stop h fuelN hi)

/-! ### the order -/
theorem lex_irr : ∀ a : List Int, HT.lexLt a a = false
  | [] => rfl
  | x :: r => by rw [HT.lexLt_cons, if_pos rfl, lex_irr r]
theorem lex_tr : ∀ {a b c : List Int}, HT.lexLt a b = false → HT.lexLt b c = false → HT.lexLt a c = false
  | [], [], c, _, h => h
  | [], _ :: _, _, h, _ => by cases h
  | _ :: _, [], [], _, _ => rfl
  | _ :: _, [], _ :: _, _, h => by cases h
  | _ :: _, _ :: _, [], _, _ => rfl
  | x :: xs, y :: ys, z :: zs, h1, h2 => by
    rw [HT.lexLt_cons] at h1 h2 ⊢
    by_cases e1 : x = y
    · subst e1
      rw [if_pos rfl] at h1
      by_cases e2 : x = z
      · subst e2
        rw [if_pos rfl] at h2 ⊢
        exact lex_tr h1 h2
      · rw [if_neg e2] at h2 ⊢; exact h2
    · rw [if_neg e1] at h1
      by_cases e2 : y = z
      · subst e2
        rw [if_neg e1]; exact h1
      · rw [if_neg e2] at h2
        have h1' : ¬ x < y := of_decide_eq_false h1
        have h2' : ¬ y < z := of_decide_eq_false h2
        have e3 : x ≠ z := by omega
        rw [if_neg e3]
        exact decide_eq_false (by omega)
theorem lex_tot : ∀ {a b : List Int}, HT.lexLt a b = true → HT.lexLt b a = false
  | [], [], h => by cases h
  | [], _ :: _, _ => rfl
  | _ :: _, [], h => by cases h
  | x :: xs, y :: ys, h => by
    rw [HT.lexLt_cons] at h ⊢
    by_cases e : x = y
    · subst e
      rw [if_pos rfl] at h ⊢
      exact lex_tot h
    · rw [if_neg e] at h
      rw [if_neg (fun z => e z.symm)]
      have := of_decide_eq_true h
      exact decide_eq_false (by omega)
theorem minT_spec : ∀ (ws : List (List Int)) (w : List Int), minT w ws ∈ w :: ws ∧ ∀ v ∈ w :: ws, HT.lexLt v (minT w ws) = false
  | [], w => ⟨List.mem_singleton.mpr rfl, fun v hv => by rw [List.mem_singleton.mp hv]; exact lex_irr w⟩
  | y :: r, w => by
    have e : minT w (y :: r) = minT (if HT.lexLt y w then y else w) r := rfl
    rw [e]
    by_cases h : HT.lexLt y w = true
    · rw [if_pos h]
      obtain ⟨h1, h2⟩ := minT_spec r y
      refine ⟨List.mem_cons_of_mem _ h1, fun v hv => ?_⟩
      rcases List.mem_cons.mp hv with rfl | hv
      · exact lex_tr (lex_tot h) (h2 y List.mem_cons_self)
      · exact h2 v hv
    · rw [if_neg h]
      obtain ⟨h1, h2⟩ := minT_spec r w
      refine ⟨?_, fun v hv => ?_⟩
      · rcases List.mem_cons.mp h1 with q | q
        · rw [q]; exact List.mem_cons_self
        · exact List.mem_cons_of_mem _ (List.mem_cons_of_mem _ q)
      · rcases List.mem_cons.mp hv with rfl | hv
        · exact h2 v List.mem_cons_self
        · rcases List.mem_cons.mp hv with rfl | hv
          · exact lex_tr (by simpa using h) (h2 w List.mem_cons_self)
          · exact h2 v (List.mem_cons_of_mem _ hv)
theorem erase_find : ∀ (ks : List (List Int)) (k : List Int), k ∈ ks → ∃ i, ks.findIdx? (fun z => decide (z = k)) = some i ∧ ks.eraseIdx i = ks.erase k
  | [], k, h => by cases h
  | x :: r, k, h => by
    by_cases e : x = k
    · subst e
      exact ⟨0, by simp [List.findIdx?_cons], by simp⟩
    · obtain ⟨i, h1, h2⟩ := erase_find r k (by rcases List.mem_cons.mp h with q | q; exact absurd q.symm e; exact q)
      refine ⟨i + 1, by simp [List.findIdx?_cons, e, h1], ?_⟩
      rw [List.erase_cons_tail (by simpa using e)]
      simp [h2]
structure NetM.Wf (n : NetM) : Prop where
  ends : ∀ k, k < n.lines.length → n.has (n.line k).1 = true ∧ n.has (n.line k).2.1 = true
  pos : ∀ k, k < n.lines.length → 1 ≤ lmin (n.line k) ∧ 0 ≤ ltoll (n.line k)
theorem mem_out {n : NetM} {s : Str} {k : Nat} (h : k ∈ n.out s) : k < n.lines.length ∧ (n.line k).1 = s ∧ (k : Int) ∉ n.closed := by
  unfold NetM.out at h
  obtain ⟨h1, h2⟩ := List.mem_filter.mp h
  unfold NetM.goes at h2
  simp at h2
  exact ⟨List.mem_range.mp h1, h2.1, h2.2⟩
theorem out_mem {n : NetM} {s : Str} {k : Nat} (h : k < n.lines.length) (h1 : (n.line k).1 = s) (h2 : (k : Int) ∉ n.closed) : k ∈ n.out s := by
  unfold NetM.out
  refine List.mem_filter.mpr ⟨List.mem_range.mpr h, ?_⟩
  unfold NetM.goes
  simp [h1, h2]
def key3 (n : NetM) (r : RowD) : List Int := [r.t, r.m, n.place' r.g]
/-- w goes on from row b along road k -/
structure Goes (n : NetM) (rows : List RowD) (lim : Int) (w : List Int) (b k : Nat) : Prop where
  gk : k ∈ n.out (ra rows b).g
  go : b = 0 ∨ n.sees (ra rows b).g = some false
  ge : w = extW n (ra rows b) b k
  gl : (ra rows b).m + lmin (n.line k) ≤ lim
structure RInv (n : NetM) (gate : Str) (lim : Int) (s : RS) : Prop where
  ne : 0 < s.rows.length
  r0 : ra s.rows 0 = startRow gate
  row : ∀ j, 0 < j → j < s.rows.length → ∃ w b k, b < j ∧ Goes n s.rows lim w b k ∧ ra s.rows j = wRow n w
  wt : ∀ w ∈ s.wait, ∃ b k, b < s.rows.length ∧ Goes n s.rows lim w b k
  cov : ∀ w b k, b < s.rows.length → Goes n s.rows lim w b k → w ∈ s.wait ∨ ∃ j, 0 < j ∧ j < s.rows.length ∧ (ra s.rows j).g = (wRow n w).g ∧ (ra s.rows j).m ≤ (wRow n w).m ∧ (ra s.rows j).t ≤ (wRow n w).t
  srt : ∀ i j, 0 < i → i < j → j < s.rows.length → HT.lexLt (key3 n (ra s.rows j)) (key3 n (ra s.rows i)) = false
  frt : ∀ w ∈ s.wait, ∀ j, 0 < j → j < s.rows.length → HT.lexLt (key3 n (wRow n w)) (key3 n (ra s.rows j)) = false
  qk1 : ∀ a q, s.quick.lookup a = some q → ∃ j, 0 < j ∧ j < s.rows.length ∧ (ra s.rows j).g = a ∧ (ra s.rows j).m = q
  qk2 : ∀ j, 0 < j → j < s.rows.length → ∃ q, s.quick.lookup (ra s.rows j).g = some q ∧ q ≤ (ra s.rows j).m
  str : ∀ i j, 0 < i → i < j → j < s.rows.length → (ra s.rows i).g = (ra s.rows j).g → (ra s.rows j).m < (ra s.rows i).m
theorem wRow_ext (n : NetM) (r : RowD) (b k : Nat) : wRow n (extW n r b k) = ⟨(n.line k).2.1, r.m + lmin (n.line k), r.t + ltoll (n.line k), k, b⟩ := by
  unfold wRow extW
  simp
theorem key_ext (n : NetM) (r : RowD) (b k : Nat) : key3 n (wRow n (extW n r b k)) = (extW n r b k).take 3 := by
  rw [wRow_ext]; rfl
theorem lex_take : ∀ (j : Nat) (a b : List Int), HT.lexLt a b = false → HT.lexLt (a.take j) (b.take j) = false
  | 0, a, b, _ => by simp [HT.lexLt]
  | j + 1, [], [], _ => rfl
  | j + 1, [], _ :: _, h => by cases h
  | j + 1, _ :: _, [], _ => rfl
  | j + 1, x :: xs, y :: ys, h => by
    rw [HT.lexLt_cons] at h
    rw [List.take_succ_cons, List.take_succ_cons, HT.lexLt_cons]
    by_cases e : x = y
    · rw [if_pos e] at h ⊢; exact lex_take j xs ys h
    · rw [if_neg e] at h ⊢; exact h
theorem lookup_putq (s : Str) (m : Int) (a : Str) : ∀ q : List (Str × Int), (putq q s m).lookup a = if a = s then some m else q.lookup a := by
  intro q
  unfold putq
  induction q with
  | nil =>
    by_cases h : a = s
    · subst h; simp
    · have : (a == s) = false := by simpa using h
      simp [h, List.lookup, this]
  | cons p r ih =>
    obtain ⟨x, v⟩ := p
    by_cases hx : x = s
    · subst hx
      by_cases h : a = x
      · subst h; simp
      · have hb : (a == x) = false := by simpa using h
        have hmap : ∀ l : List (Str × Int), (l.map fun p => if p.1 = x then (p.1, m) else p).lookup a = l.lookup a := by
          intro l
          induction l with
          | nil => rfl
          | cons p l ih2 =>
            obtain ⟨y, u⟩ := p
            by_cases hy : y = x
            · subst hy; simp [List.lookup, hb, ih2]
            · rw [List.map_cons, if_neg hy, List.lookup_cons, List.lookup_cons, ih2]
        simp [h, List.lookup, hb, hmap]
    · have hne : (decide (x = s)) = false := by simpa using hx
      by_cases h : a = x
      · subst h
        have h2 : ¬ a = s := hx
        rw [List.any_cons, hne, Bool.false_or, if_neg h2, List.lookup_cons_self]
        split
        · rw [List.map_cons, if_neg hx, List.lookup_cons_self]
        · rw [List.cons_append, List.lookup_cons_self]
      · have hb : (a == x) = false := by simpa using h
        rw [List.any_cons, hne, Bool.false_or, List.lookup_cons, hb]
        rw [← ih]
        split
        · rw [List.map_cons, if_neg hx, List.lookup_cons, hb]
        · rw [List.cons_append, List.lookup_cons, hb]
section
variable {n : NetM} {gate : Str} {lim : Int} {s : RS}
theorem Goes.app {rows : List RowD} {x : RowD} {w : List Int} {b k : Nat} (hb : b < rows.length) : Goes n (rows ++ [x]) lim w b k ↔ Goes n rows lim w b k := by
  constructor
  · rintro ⟨h1, h2, h3, h4⟩
    rw [ra_lt hb] at h1 h2 h3 h4
    exact ⟨h1, h2, h3, h4⟩
  · rintro ⟨h1, h2, h3, h4⟩
    rw [← ra_lt (x := x) hb] at h1 h2 h3 h4
    exact ⟨h1, h2, h3, h4⟩
theorem mem_goesL {rows : List RowD} {w : List Int} {b : Nat} (h : w ∈ goesL n rows b lim) : ∃ k, k ∈ n.out (ra rows b).g ∧ w = extW n (ra rows b) b k ∧ (ra rows b).m + lmin (n.line k) ≤ lim := by
  unfold goesL at h
  obtain ⟨k, hk, rfl⟩ := List.mem_map.mp h
  obtain ⟨h1, h2⟩ := List.mem_filter.mp hk
  exact ⟨k, h1, rfl, of_decide_eq_true h2⟩
theorem goesL_mem {rows : List RowD} {b k : Nat} (h1 : k ∈ n.out (ra rows b).g) (h2 : (ra rows b).m + lmin (n.line k) ≤ lim) : extW n (ra rows b) b k ∈ goesL n rows b lim := by
  unfold goesL
  exact List.mem_map.mpr ⟨k, List.mem_filter.mpr ⟨h1, decide_eq_true h2⟩, rfl⟩
theorem lex_up {a b c a' b' c' : Int} (h1 : a ≤ a') (h2 : b < b') : HT.lexLt [a', b', c'] [a, b, c] = false := by
  rw [HT.lexLt_cons]
  by_cases e : a' = a
  · rw [if_pos e, HT.lexLt_cons, if_neg (by omega)]
    exact decide_eq_false (by omega)
  · rw [if_neg e]
    exact decide_eq_false (by omega)
theorem lex_t {a b c a' b' c' : Int} (h : HT.lexLt [a', b', c'] [a, b, c] = false) : a ≤ a' := by
  rw [HT.lexLt_cons] at h
  by_cases e : a' = a
  · omega
  · rw [if_neg e] at h
    have := of_decide_eq_false h
    omega
theorem rstart_inv (W : n.Wf) : RInv n gate lim (rstart n gate lim) where
  ne := Nat.one_pos
  r0 := rfl
  row := fun j h0 h1 => absurd (show j < 1 from h1) (by omega)
  wt := fun w hw => by
    obtain ⟨k, h1, h2, h3⟩ := mem_goesL (show w ∈ goesL n [startRow gate] 0 lim from hw)
    exact ⟨0, k, Nat.one_pos, h1, .inl rfl, h2, h3⟩
  cov := fun w b k hb g => by
    obtain rfl : b = 0 := by have : b < 1 := hb; omega
    obtain ⟨h1, _, rfl, h3⟩ := g
    exact .inl (goesL_mem h1 h3)
  srt := fun i j _ _ h => absurd (show j < 1 from h) (by omega)
  frt := fun w _ j _ h => absurd (show j < 1 from h) (by omega)
  qk1 := fun a q h => by cases h
  qk2 := fun j _ h => absurd (show j < 1 from h) (by omega)
  str := fun i j _ _ h => absurd (show j < 1 from h) (by omega)
end
section
variable {n : NetM} {gate : Str} {lim : Int} {s : RS}
theorem Goes.wm {rows : List RowD} {w : List Int} {b k : Nat} (g : Goes n rows lim w b k) : (wRow n w).m ≤ lim ∧ (wRow n w).g = (n.line k).2.1 := by
  obtain ⟨h1, h2, rfl, h4⟩ := g
  rw [wRow_ext]
  exact ⟨h4, rfl⟩
/-- one that is taken -/
theorem step_take (W : n.Wf) (I : RInv n gate lim s) {b : List Int} (hb : b ∈ s.wait) (hmin : ∀ v ∈ s.wait, HT.lexLt v b = false) {new : List (List Int)} {wait' : List (List Int)}
    (hx : (wRow n b).m < (s.quick.lookup (wRow n b).g).getD ((wRow n b).m + 1))
    (hw : ∀ v, v ∈ wait' ↔ (v ∈ s.wait.erase b ∨ (n.sees (wRow n b).g = some false ∧ v ∈ goesL n (s.rows ++ [wRow n b]) s.rows.length lim))) :
    RInv n gate lim ⟨s.rows ++ [wRow n b], putq s.quick (wRow n b).g (wRow n b).m, wait'⟩ := by
  obtain ⟨bb, bk, hbb, gb⟩ := I.wt b hb
  have hlen : (s.rows ++ [wRow n b]).length = s.rows.length + 1 := by simp
  have kb : ∀ v ∈ s.wait, HT.lexLt (key3 n (wRow n v)) (key3 n (wRow n b)) = false := fun v hv => by
    obtain ⟨vb, vk, _, gv⟩ := I.wt v hv
    rw [gv.ge, key_ext, gb.ge, key_ext, ← gv.ge, ← gb.ge]
    exact lex_take 3 v b (hmin v hv)
  have old : ∀ {i}, i < s.rows.length → ra (s.rows ++ [wRow n b]) i = ra s.rows i := fun h => ra_lt h
  have lt_or : ∀ {j}, j < s.rows.length + 1 → j < s.rows.length ∨ j = s.rows.length := fun h => by omega
  -- the new row is later than the rows so far, the way on from it later still
  have keyNew : ∀ j, 0 < j → j < s.rows.length + 1 → HT.lexLt (key3 n (wRow n b)) (key3 n (ra (s.rows ++ [wRow n b]) j)) = false := fun j h0 h1 => by
    rcases lt_or h1 with h | rfl
    · rw [old h]; exact I.frt b hb j h0 h
    · rw [ra_eq]; exact lex_irr _
  refine ⟨by simp, by rw [old I.ne]; exact I.r0, fun j h0 h1 => ?_, fun w hww => ?_, fun w b' k' hb' g => ?_, fun i j h0 h1 h2 => ?_, fun w hww j h0 h1 => ?_, fun a q hq => ?_, fun j h0 h1 => ?_, fun i j h0 h1 h2 he => ?_⟩
  · rw [hlen] at h1
    rcases lt_or h1 with h | rfl
    · obtain ⟨w, b', k', hb', g, e⟩ := I.row j h0 h
      exact ⟨w, b', k', hb', (Goes.app (by omega)).mpr g, by rw [old h]; exact e⟩
    · exact ⟨b, bb, bk, hbb, (Goes.app hbb).mpr gb, ra_eq⟩
  · rcases (hw w).mp hww with h | ⟨hs, h⟩
    · obtain ⟨b', k', hb', g⟩ := I.wt w (List.mem_of_mem_erase h)
      exact ⟨b', k', by rw [hlen]; omega, (Goes.app hb').mpr g⟩
    · obtain ⟨k', h1, h2, h3⟩ := mem_goesL h
      exact ⟨s.rows.length, k', by rw [hlen]; omega, h1, .inr (by rw [ra_eq]; exact hs), h2, h3⟩
  · rw [hlen] at hb'
    rcases lt_or hb' with h | rfl
    · have g' := (Goes.app h).mp g
      rcases I.cov w b' k' h g' with hc | ⟨j, h0, h1, e1, e2, e3⟩
      · by_cases e : w = b
        · subst e
          exact .inr ⟨s.rows.length, I.ne, by rw [hlen]; omega, by rw [ra_eq], by rw [ra_eq]; exact Int.le_refl _, by rw [ra_eq]; exact Int.le_refl _⟩
        · exact .inl ((hw w).mpr (.inl ((List.mem_erase_of_ne e).mpr hc)))
      · exact .inr ⟨j, h0, by rw [hlen]; omega, by rw [old h1]; exact e1, by rw [old h1]; exact e2, by rw [old h1]; exact e3⟩
    · refine .inl ((hw w).mpr (.inr ⟨?_, ?_⟩))
      · rcases g.go with h | h
        · exact absurd h (by have := I.ne; omega)
        · rw [ra_eq] at h; exact h
      · rw [g.ge]; exact goesL_mem g.gk g.gl
  · rw [hlen] at h2
    rcases lt_or h2 with h | rfl
    · rw [old h, old (by omega)]; exact I.srt i j h0 h1 h
    · rw [ra_eq]; exact keyNew i h0 (by omega)
  · rw [hlen] at h1
    rcases (hw w).mp hww with h | ⟨hs, h⟩
    · have hm := List.mem_of_mem_erase h
      rcases lt_or h1 with h' | rfl
      · rw [old h']; exact I.frt w hm j h0 h'
      · rw [ra_eq]; exact kb w hm
    · obtain ⟨k', g1, g2, g3⟩ := mem_goesL h
      rw [ra_eq] at g1 g2 g3
      have hk := W.pos k' (mem_out g1).1
      have h5 : HT.lexLt (key3 n (wRow n w)) (key3 n (wRow n b)) = false := by
        rw [g2, wRow_ext]
        exact lex_up (by have := hk.2; show (wRow n b).t ≤ (wRow n b).t + _; omega) (by have := hk.1; show (wRow n b).m < (wRow n b).m + _; omega)
      exact lex_tr h5 (keyNew j h0 h1)
  · rw [lookup_putq] at hq
    by_cases h : a = (wRow n b).g
    · rw [if_pos h] at hq
      cases hq
      exact ⟨s.rows.length, I.ne, by rw [hlen]; omega, by rw [ra_eq, h], by rw [ra_eq]⟩
    · rw [if_neg h] at hq
      obtain ⟨j, h0, h1, e1, e2⟩ := I.qk1 a q hq
      exact ⟨j, h0, by rw [hlen]; omega, by rw [old h1]; exact e1, by rw [old h1]; exact e2⟩
  · rw [hlen] at h1
    rcases lt_or h1 with h | rfl
    · rw [old h, lookup_putq]
      obtain ⟨q, hq, hle⟩ := I.qk2 j h0 h
      by_cases e : (ra s.rows j).g = (wRow n b).g
      · rw [if_pos e]
        rw [← e, hq] at hx
        exact ⟨_, rfl, by have : (wRow n b).m < q := hx; omega⟩
      · rw [if_neg e]; exact ⟨q, hq, hle⟩
    · rw [ra_eq, lookup_putq, if_pos rfl]; exact ⟨_, rfl, Int.le_refl _⟩
  · rw [hlen] at h2
    rcases lt_or h2 with h | rfl
    · rw [old h, old (by omega : i < s.rows.length)] at *
      exact I.str i j h0 h1 h he
    · rw [ra_eq, old h1] at *
      obtain ⟨q, hq, hle⟩ := I.qk2 i h0 h1
      rw [← he, hq] at hx
      have : (wRow n b).m < q := hx
      omega
/-- one that is left -/
theorem step_leave (I : RInv n gate lim s) {b : List Int} (hb : b ∈ s.wait) (hx : ¬ (wRow n b).m < (s.quick.lookup (wRow n b).g).getD ((wRow n b).m + 1)) :
    RInv n gate lim ⟨s.rows, s.quick, s.wait.erase b⟩ := by
  obtain ⟨bb, bk, hbb, gb⟩ := I.wt b hb
  refine ⟨I.ne, I.r0, I.row, fun w hw => I.wt w (List.mem_of_mem_erase hw), fun w b' k' hb' g => ?_, I.srt, fun w hw => I.frt w (List.mem_of_mem_erase hw), I.qk1, I.qk2, I.str⟩
  rcases I.cov w b' k' hb' g with hc | hc
  · by_cases e : w = b
    · subst e
      cases hq : s.quick.lookup (wRow n w).g with
      | none => rw [hq] at hx; exact absurd (show (wRow n w).m < (wRow n w).m + 1 by omega) hx
      | some q =>
        rw [hq] at hx
        have hx' : ¬ (wRow n w).m < q := hx
        obtain ⟨j, h0, h1, e1, e2⟩ := I.qk1 _ _ hq
        exact .inr ⟨j, h0, h1, e1, (show (ra s.rows j).m ≤ (wRow n w).m by omega), lex_t (I.frt w hb j h0 h1)⟩
    · exact .inl ((List.mem_erase_of_ne e).mpr hc)
  · exact .inr hc
theorem rstep_inv (W : n.Wf) (I : RInv n gate lim s) : RInv n gate lim (rstep n lim s) := by
  unfold rstep
  cases hw : s.wait with
  | nil => exact I
  | cons w ws =>
    obtain ⟨h1, h2⟩ := minT_spec ws w
    rw [← hw] at h1 h2
    dsimp only
    by_cases hx : (wRow n (minT w ws)).m < (s.quick.lookup (wRow n (minT w ws)).g).getD ((wRow n (minT w ws)).m + 1)
    · rw [if_pos hx, ← hw]
      refine step_take W I h1 h2 (new := []) hx fun v => ?_
      rw [List.mem_append]
      by_cases q : n.sees (wRow n (minT w ws)).g = some false
      · rw [if_pos q]; simp [q]
      · rw [if_neg q]; simp [q]
    · rw [if_neg hx, ← hw]
      exact step_leave I h1 hx
theorem riter_inv (W : n.Wf) : ∀ i, RInv n gate lim (riter n lim i (rstart n gate lim))
  | 0 => rstart_inv W
  | i + 1 => by rw [riter_succ]; exact rstep_inv W (riter_inv W i)
end
/-- no drive that is weighed is longer -/
def CapOk (n : NetM) : Prop := ∀ (gate : Str) (lim : Int) (s : RS) (w : List Int), RInv n gate lim s → w ∈ s.wait → (wRow n w).m ≤ 45
open Classical in
noncomputable def topN (n : NetM) (lim : Int) : Int := if CapOk n then min lim 45 else lim
theorem topN_le (n : NetM) (lim : Int) : topN n lim ≤ lim := by
  unfold topN
  split
  · exact Int.min_le_left _ _
  · exact Int.le_refl _
theorem topN_0 {n : NetM} {lim : Int} (h : 0 ≤ lim) : 0 ≤ topN n lim := by
  unfold topN
  split
  · exact Int.le_min.mpr ⟨h, by decide⟩
  · exact h
theorem topN_cap {n : NetM} (lim : Int) (h : CapOk n) : topN n lim ≤ 45 := by
  unfold topN
  rw [if_pos h]
  exact Int.min_le_right _ _
noncomputable def lvl (n : NetM) (u lim : Int) (q : List (Str × Int)) (a : Str) : Nat := match q.lookup a with
  | some v => (v / u).toNat
  | none => (topN n lim / u).toNat + 1
noncomputable def sumLv (n : NetM) (u lim : Int) (q : List (Str × Int)) : Nat := ((n.sight.map (·.1)).map (lvl n u lim q)).sum
noncomputable def mes (n : NetM) (u lim : Int) (s : RS) : Nat := sumLv n u lim s.quick * (n.lines.length + 1) + s.wait.length
/-- minutes are multiples of u, and not too many -/
structure Bnd (n : NetM) (u lim : Int) : Prop where
  u1 : 1 ≤ u
  l0 : 0 ≤ lim
  dv : ∀ k, k < n.lines.length → u ∣ lmin (n.line k)
  sz : n.sight.length * ((topN n lim / u).toNat + 1) * (n.lines.length + 1) + n.lines.length ≤ 1000000
theorem sum_le {α : Type} (f g : α → Nat) : ∀ l : List α, (∀ x ∈ l, f x ≤ g x) → (l.map f).sum ≤ (l.map g).sum
  | [], _ => Nat.le_refl _
  | x :: r, h => by
    rw [List.map_cons, List.map_cons, List.sum_cons, List.sum_cons]
    have := sum_le f g r fun y hy => h y (List.mem_cons_of_mem _ hy)
    have := h x List.mem_cons_self
    omega
theorem sum_lt {α : Type} (f g : α → Nat) : ∀ l : List α, (∀ x ∈ l, f x ≤ g x) → (∃ x ∈ l, f x < g x) → (l.map f).sum < (l.map g).sum
  | [], _, h => by obtain ⟨x, hx, _⟩ := h; cases hx
  | x :: r, h, he => by
    rw [List.map_cons, List.map_cons, List.sum_cons, List.sum_cons]
    have h1 := sum_le f g r fun y hy => h y (List.mem_cons_of_mem _ hy)
    have h2 := h x List.mem_cons_self
    obtain ⟨y, hy, hlt⟩ := he
    rcases List.mem_cons.mp hy with rfl | hy
    · omega
    · have := sum_lt f g r (fun y hy => h y (List.mem_cons_of_mem _ hy)) ⟨y, hy, hlt⟩
      omega
section
variable {n : NetM} {gate : Str} {lim u : Int} {s : RS}
theorem row_div (W : n.Wf) (B : Bnd n u lim) (I : RInv n gate lim s) : ∀ j, j < s.rows.length → u ∣ (ra s.rows j).m ∧ 0 ≤ (ra s.rows j).m ∧ (ra s.rows j).m ≤ lim := by
  intro j
  induction j using Nat.strongRecOn with
  | ind j ih =>
    intro hj
    by_cases h0 : j = 0
    · subst h0
      rw [I.r0]
      exact ⟨⟨0, by simp [startRow]⟩, Int.le_refl _, B.l0⟩
    · obtain ⟨w, b, k, hb, g, e⟩ := I.row j (by omega) hj
      obtain ⟨d1, d2, d3⟩ := ih b hb (by omega)
      have hk := (mem_out g.gk).1
      have hp := W.pos k hk
      rw [e, g.ge, wRow_ext]
      refine ⟨Int.dvd_add d1 (B.dv k hk), ?_, g.gl⟩
      show 0 ≤ (ra s.rows b).m + lmin (n.line k)
      omega
theorem w_div (W : n.Wf) (B : Bnd n u lim) (I : RInv n gate lim s) {w : List Int} (hw : w ∈ s.wait) : u ∣ (wRow n w).m ∧ 0 ≤ (wRow n w).m ∧ (wRow n w).m ≤ lim ∧ n.has (wRow n w).g = true := by
  obtain ⟨b, k, hb, g⟩ := I.wt w hw
  obtain ⟨d1, d2, d3⟩ := row_div W B I b hb
  have hk := (mem_out g.gk).1
  have hp := W.pos k hk
  have he := (W.ends k hk).2
  rw [g.ge, wRow_ext]
  refine ⟨Int.dvd_add d1 (B.dv k hk), ?_, g.gl, he⟩
  show 0 ≤ (ra s.rows b).m + lmin (n.line k)
  omega
theorem has_mem {a : Str} (h : n.has a = true) : a ∈ n.sight.map (·.1) := by
  unfold NetM.has NetM.sees at h
  cases q : n.sight.lookup a with
  | none => rw [q] at h; cases h
  | some b =>
    have : ∀ l : List (Str × Bool), l.lookup a = some b → a ∈ l.map (·.1) := by
      intro l
      induction l with
      | nil => intro h; cases h
      | cons p r ih =>
        intro h
        rw [List.lookup_cons] at h
        by_cases e : a = p.1
        · rw [e]; simp
        · rw [show (a == p.1) = false by simpa using e] at h
          rw [List.map_cons]
          exact List.mem_cons_of_mem _ (ih h)
    exact this _ q
theorem div_lt {a b : Int} (hu : 1 ≤ u) (ha : u ∣ a) (hb : u ∣ b) (h0 : 0 ≤ a) (h : a < b) : (a / u).toNat < (b / u).toNat := by
  obtain ⟨x, rfl⟩ := ha
  obtain ⟨y, rfl⟩ := hb
  have hu0 : u ≠ 0 := by omega
  rw [Int.mul_ediv_cancel_left _ hu0, Int.mul_ediv_cancel_left _ hu0]
  have h1 : x < y := Int.lt_of_mul_lt_mul_left h (by omega)
  have h2 : 0 ≤ x := by
    by_cases hx : 0 ≤ x
    · exact hx
    · exfalso
      have : u * x < 0 := Int.mul_neg_of_pos_of_neg (by omega) (by omega)
      omega
  omega
theorem goesL_len (rows : List RowD) (b : Nat) : (goesL n rows b lim).length ≤ n.lines.length := by
  unfold goesL NetM.out
  rw [List.length_map]
  refine Nat.le_trans (List.length_filter_le _ _) (Nat.le_trans (List.length_filter_le _ _) ?_)
  rw [List.length_range]
  exact Nat.le_refl _
theorem w_top (I : RInv n gate lim s) {w : List Int} (hw : w ∈ s.wait) (h : (wRow n w).m ≤ lim) : (wRow n w).m ≤ topN n lim := by
  unfold topN
  split
  · rename_i hc
    exact Int.le_min.mpr ⟨h, hc gate lim s w I hw⟩
  · exact h
theorem take_lv (W : n.Wf) (B : Bnd n u lim) (I : RInv n gate lim s) {b : List Int} (hb : b ∈ s.wait) (hx : (wRow n b).m < (s.quick.lookup (wRow n b).g).getD ((wRow n b).m + 1)) :
    sumLv n u lim (putq s.quick (wRow n b).g (wRow n b).m) < sumLv n u lim s.quick := by
  obtain ⟨d1, d2, d3, d4⟩ := w_div W B I hb
  have main : lvl n u lim (putq s.quick (wRow n b).g (wRow n b).m) (wRow n b).g < lvl n u lim s.quick (wRow n b).g := by
    unfold lvl
    rw [lookup_putq, if_pos rfl]
    cases hq : s.quick.lookup (wRow n b).g with
    | none =>
      show ((wRow n b).m / u).toNat < (topN n lim / u).toNat + 1
      have := Int.ediv_le_ediv (show 0 < u by have := B.u1; omega) (w_top I hb d3)
      omega
    | some q =>
      rw [hq] at hx
      have hx' : (wRow n b).m < q := hx
      obtain ⟨j, h0, h1, e1, e2⟩ := I.qk1 _ _ hq
      have := (row_div W B I j h1).1
      rw [e2] at this
      exact div_lt B.u1 d1 this d2 hx'
  unfold sumLv
  refine sum_lt _ _ _ (fun a _ => ?_) ⟨_, has_mem d4, main⟩
  by_cases e : a = (wRow n b).g
  · rw [e]; exact Nat.le_of_lt main
  · unfold lvl
    rw [lookup_putq, if_neg e]
    exact Nat.le_refl _
theorem mes_step (W : n.Wf) (B : Bnd n u lim) (I : RInv n gate lim s) (h : s.wait ≠ []) : mes n u lim (rstep n lim s) < mes n u lim s ∧ (rstep n lim s).rows.length + sumLv n u lim (rstep n lim s).quick ≤ s.rows.length + sumLv n u lim s.quick := by
  unfold rstep mes
  cases hw : s.wait with
  | nil => exact absurd hw h
  | cons w ws =>
    have hm := (minT_spec ws w).1
    have hl : ((w :: ws).erase (minT w ws)).length = ws.length := by rw [List.length_erase_of_mem hm]; rfl
    dsimp only
    by_cases hx : (wRow n (minT w ws)).m < (s.quick.lookup (wRow n (minT w ws)).g).getD ((wRow n (minT w ws)).m + 1)
    · rw [if_pos hx]
      have h1 := take_lv W B I (hw ▸ hm) hx
      have h2 : (if n.sees (wRow n (minT w ws)).g = some false then goesL n (s.rows ++ [wRow n (minT w ws)]) s.rows.length lim else []).length ≤ n.lines.length := by
        split
        · exact goesL_len _ _
        · exact Nat.zero_le _
      generalize (if n.sees (wRow n (minT w ws)).g = some false then goesL n (s.rows ++ [wRow n (minT w ws)]) s.rows.length lim else []) = new at h2
      dsimp only
      rw [List.length_append, hl, List.length_cons, List.length_append, List.length_singleton]
      refine ⟨?_, by omega⟩
      generalize hA : sumLv n u lim (putq s.quick (wRow n (minT w ws)).g (wRow n (minT w ws)).m) = A at h1
      generalize sumLv n u lim s.quick = Z at h1
      have h3 : (A + 1) * (n.lines.length + 1) ≤ Z * (n.lines.length + 1) := Nat.mul_le_mul_right _ h1
      rw [Nat.add_mul, Nat.one_mul] at h3
      omega
    · rw [if_neg hx]
      dsimp only
      rw [hl, List.length_cons]
      exact ⟨by omega, Nat.le_refl _⟩
theorem sumLv_nil : sumLv n u lim [] = n.sight.length * ((topN n lim / u).toNat + 1) := by
  unfold sumLv
  rw [List.map_map]
  induction n.sight with
  | nil => simp
  | cons p r ih =>
    rw [List.map_cons, List.sum_cons, ih, List.length_cons, Nat.add_mul, Nat.one_mul]
    show (topN n lim / u).toNat + 1 + _ = _
    omega
/-- how far the loop is after i turns -/
structure RAt (n : NetM) (gate : Str) (lim u : Int) (i : Nat) (s : RS) : Prop where
  it : s = riter n lim i (rstart n gate lim)
  ms : i + mes n u lim s ≤ 1000000
  rl : s.rows.length + sumLv n u lim s.quick ≤ 1000001
theorem RAt.start (B : Bnd n u lim) : RAt n gate lim u 0 (rstart n gate lim) where
  it := rfl
  ms := by
    have h1 := goesL_len (n := n) (lim := lim) [startRow gate] 0
    have h2 := B.sz
    show 0 + (sumLv n u lim [] * (n.lines.length + 1) + (goesL n [startRow gate] 0 lim).length) ≤ _
    rw [sumLv_nil]
    omega
  rl := by
    have h2 := B.sz
    show 1 + sumLv n u lim [] ≤ _
    rw [sumLv_nil]
    have h3 : n.sight.length * ((topN n lim / u).toNat + 1) * 1 ≤ n.sight.length * ((topN n lim / u).toNat + 1) * (n.lines.length + 1) := Nat.mul_le_mul_left _ (by omega)
    omega
theorem RAt.step (W : n.Wf) (B : Bnd n u lim) {i : Nat} (R : RAt n gate lim u i s) (h : s.wait ≠ []) : RAt n gate lim u (i + 1) (rstep n lim s) ∧ mes n u lim (rstep n lim s) < mes n u lim s := by
  have I : RInv n gate lim s := R.it ▸ riter_inv W i
  obtain ⟨m1, m2⟩ := mes_step W B I h
  have := R.ms
  have := R.rl
  exact ⟨⟨by rw [riter_succ, ← R.it], by omega, by omega⟩, m1⟩
theorem RAt.done {i : Nat} (R : RAt n gate lim u i s) (h : s.wait = []) : s.rows = reachRows n gate lim := by
  have := R.ms
  have hi : i ≤ fuelN := by rw [fuelN_eq]; omega
  have := reach_of (n := n) (gate := gate) (lim := lim) hi (by rw [← R.it]; exact h)
  rw [this, R.it]
theorem RAt.inv (W : n.Wf) {i : Nat} (R : RAt n gate lim u i s) : RInv n gate lim s := R.it ▸ riter_inv W i
/-- there is an end -/
theorem reach_end (W : n.Wf) (B : Bnd n u lim) : ∃ i s, RAt n gate lim u i s ∧ s.wait = [] := by
  have : ∀ m i s, RAt n gate lim u i s → mes n u lim s ≤ m → ∃ i s, RAt n gate lim u i s ∧ s.wait = [] := by
    intro m
    induction m with
    | zero =>
      intro i s R hm
      refine ⟨i, s, R, ?_⟩
      unfold mes at hm
      exact List.length_eq_zero_iff.mp (by omega)
    | succ m ih =>
      intro i s R hm
      by_cases h : s.wait = []
      · exact ⟨i, s, R, h⟩
      · obtain ⟨R', hlt⟩ := R.step W B h
        exact ih _ _ R' (by omega)
  exact this _ 0 _ (RAt.start B) (Nat.le_refl _)
end
theorem putq_len (q : List (Str × Int)) (a : Str) (m : Int) : (putq q a m).length ≤ q.length + 1 := by
  unfold putq
  split
  · rw [List.length_map]; omega
  · rw [List.length_append]; exact Nat.le_refl _
theorem quick_len (n : NetM) (gate : Str) (lim : Int) : ∀ i, (riter n lim i (rstart n gate lim)).quick.length ≤ (riter n lim i (rstart n gate lim)).rows.length
  | 0 => Nat.zero_le _
  | i + 1 => by
    have ih := quick_len n gate lim i
    rw [riter_succ]
    generalize riter n lim i (rstart n gate lim) = s at ih
    unfold rstep
    cases hw : s.wait with
    | nil => exact ih
    | cons w ws =>
      dsimp only
      split
      · have := putq_len s.quick (wRow n (minT w ws)).g (wRow n (minT w ws)).m
        show (putq _ _ _).length ≤ (s.rows ++ [_]).length
        rw [List.length_append, List.length_singleton]
        omega
      · exact ih
/-! the net that the laws make -/
def cntOf (ns : List Int) : Int := if cellAt ns 0 / 5 % 9 = 8 then 7 + cellAt ns 0 / 45 * 48271 % 10007 % 54 else 2 + cellAt ns 0 % 5
theorem cnt_ok (ns : List Int) : 2 ≤ cntOf ns ∧ cntOf ns ≤ 60 := by
  unfold cntOf
  split
  · have h1 := Int.emod_nonneg (cellAt ns 0 / 45 * 48271 % 10007) (show (54 : Int) ≠ 0 by decide)
    have h2 := Int.emod_lt_of_pos (cellAt ns 0 / 45 * 48271 % 10007) (show (0 : Int) < 54 by decide)
    omega
  · have h1 := Int.emod_nonneg (cellAt ns 0) (show (5 : Int) ≠ 0 by decide)
    have h2 := Int.emod_lt_of_pos (cellAt ns 0) (show (0 : Int) < 5 by decide)
    omega
def base1 (ns : List Int) (b : Int) : Int := if cntOf ns > 8 then b / 3 * 3 + 1 else b
def seesOf (ns : List Int) (t : Nat) : Bool := decide (mixed ns (20 + (t : Int)) / 7 % 5 < 2)
def gatesOf (ns : List Int) (b : Int) : List (Str × Bool) := (List.range (cntOf ns).toNat).map fun t : Nat => (nameOf (base1 ns b) (t : Int), seesOf ns t)
def gateD (g : Str × Bool) : Dt := .lst [.str g.1, .bl g.2]
structure LineT where
  a : Str
  b : Str
  m : Int
  t : Int
  o : Bool
  deriving DecidableEq, Inhabited
def llDs (l : LineT) : List Dt := [.str l.a, .str l.b, .int l.m, .int l.t, .bl l.o]
def llD (l : LineT) : Dt := .lst (llDs l)
def gnm (gs : List (Str × Bool)) (i : Int) : Str := (gs.getD i.toNat default).1
def oneOf (num : Int) (gs : List (Str × Bool)) : Int := num % gs.length
def otherOf (num : Int) (gs : List (Str × Bool)) : Int := (oneOf num gs + 1 + num / 13 % ((gs.length : Int) - 1)) % gs.length
def tollOf (num : Int) : Int := if num / 169 % 9 = 8 then num / 1009 % 1000001 else if num / 169 % 9 > 4 then num / 1009 % 100 else num / 1009 % 5
def lineOf (num : Int) (gs : List (Str × Bool)) (u : Int) : LineT := ⟨gnm gs (oneOf num gs), gnm gs (otherOf num gs), u * (1 + num / 10007 % 6), tollOf num, decide (num / 70001 % 8 > 0)⟩
def manyOf (ns : List Int) (gs : List (Str × Bool)) : Int := mixed ns 19 % (if (gs.length : Int) > 6 then 45 else 15)
def linesOf (ns : List Int) (gs : List (Str × Bool)) (u : Int) : List LineT := (List.range (manyOf ns gs).toNat).map fun k : Nat => lineOf (mixed ns (40 + (k : Int))) gs u
def unitOf (ns : List Int) : Int := if cellAt ns 1 % 4 = 2 then 1 + mixed ns 18 % 100000 else if cellAt ns 1 % 4 = 3 then 7 else 1
def gateOf (ns : List Int) (gs : List (Str × Bool)) : Str := gnm gs (cellAt ns 2 % gs.length)
def endsOf (gate : Str) (gs : List (Str × Bool)) : List Str := (gs.reverse.filter fun g => !decide (g.1 = gate)).map (·.1)
def allLines (ns : List Int) (gs : List (Str × Bool)) (u : Int) (gate : Str) : List LineT := if 12 < gs.length then linesOf ns gs u ++ ((endsOf gate gs).take 20).map (fun e => ⟨gate, e, u * 2, 3, true⟩) else linesOf ns gs u
/-- what is known of it -/
structure LineOk (gs : List (Str × Bool)) (u : Int) (l : LineT) : Prop where
  a : l.a ∈ gs.map (·.1)
  b : l.b ∈ gs.map (·.1)
  ne : l.a ≠ l.b
  dv : u ∣ l.m
  lo : u ≤ l.m
  hi : l.m ≤ 6 * u
  t0 : 0 ≤ l.t
  t1 : l.t ≤ 1000000
structure WdOk (gs : List (Str × Bool)) (ls : List LineT) (u : Int) : Prop where
  g2 : 2 ≤ gs.length
  g60 : gs.length ≤ 60
  nd : (gs.map (·.1)).Nodup
  nm : ∀ g ∈ gs, isNm g.1 = true
  u1 : 1 ≤ u
  u2 : u ≤ 100000
  ll : ls.length ≤ 64
  lk : ∀ l ∈ ls, LineOk gs u l
/-- what most of it rests on -/
structure Wd1 (gs : List (Str × Bool)) (ls : List LineT) (u : Int) : Prop where
  g60 : gs.length ≤ 60
  nd : (gs.map (·.1)).Nodup
  nm : ∀ g ∈ gs, isNm g.1 = true
  u1 : 1 ≤ u
  u2 : u ≤ 100000
  ll : ls.length ≤ 200
  lk : ∀ l ∈ ls, LineOk gs u l
theorem WdOk.to1 {gs : List (Str × Bool)} {ls : List LineT} {u : Int} (h : WdOk gs ls u) : Wd1 gs ls u := ⟨h.g60, h.nd, h.nm, h.u1, h.u2, Nat.le_trans h.ll (by decide), h.lk⟩
instance {gs : List (Str × Bool)} {ls : List LineT} {u : Int} : Coe (WdOk gs ls u) (Wd1 gs ls u) := ⟨WdOk.to1⟩
def closedOf (ls : List LineT) : List Int := ((List.range ls.length).filter fun k => !(ls.getD k default).o).map fun k : Nat => (k : Int)
def lineQ (l : LineT) : Str × Str × Int × Int := (l.a, l.b, l.m, l.t)
def netOf (gs : List (Str × Bool)) (ls : List LineT) : NetM := ⟨gs, ls.map lineQ, closedOf ls⟩
theorem gates_len (ns : List Int) (b : Int) : ((gatesOf ns b).length : Int) = cntOf ns := by
  unfold gatesOf
  rw [List.length_map, List.length_range]
  have := cnt_ok ns
  omega
theorem base1_ok (ns : List Int) (b : Int) : base1 ns b % 3 = 1 ∨ cntOf ns ≤ 8 := by
  unfold base1
  by_cases h : cntOf ns > 8
  · rw [if_pos h]; left; omega
  · right; omega
theorem gates_nd (ns : List Int) (b : Int) : ((gatesOf ns b).map (·.1)).Nodup := by
  unfold gatesOf
  rw [List.map_map]
  have hc := cnt_ok ns
  unfold List.Nodup
  rw [List.pairwise_map]
  refine List.Pairwise.imp_of_mem ?_ (show List.Pairwise (· ≠ ·) (List.range (cntOf ns).toNat) from List.nodup_range)
  intro x y hx hy hne h
  apply hne
  have hx' := List.mem_range.mp hx
  have hy' := List.mem_range.mp hy
  have hb := base1_ok ns b
  have := name_inj (b := base1 ns b) (t1 := (x : Int)) (t2 := (y : Int)) (by omega) (by omega) (by omega) (by omega) (by omega) h
  omega
theorem gates_nm (ns : List Int) (b : Int) : ∀ g ∈ gatesOf ns b, isNm g.1 = true := by
  intro g hg
  obtain ⟨t, ht, rfl⟩ := List.mem_map.mp hg
  have hc := cnt_ok ns
  have := List.mem_range.mp ht
  exact name_nm (by omega) (by omega)
theorem gnm_mem {gs : List (Str × Bool)} {i : Int} (h0 : 0 ≤ i) (h1 : i < gs.length) : gnm gs i ∈ gs.map (·.1) := by
  unfold gnm
  have : i.toNat < gs.length := by omega
  rw [List.getD_eq_getElem?_getD, List.getElem?_eq_getElem this]
  exact List.mem_map.mpr ⟨_, List.getElem_mem this, rfl⟩
theorem gnm_inj {gs : List (Str × Bool)} {i j : Int} (nd : (gs.map (·.1)).Nodup) (h0 : 0 ≤ i) (h1 : i < gs.length) (h2 : 0 ≤ j) (h3 : j < gs.length) (h : gnm gs i = gnm gs j) : i = j := by
  unfold gnm at h
  have a1 : i.toNat < gs.length := by omega
  have a2 : j.toNat < gs.length := by omega
  rw [List.getD_eq_getElem?_getD, List.getElem?_eq_getElem a1, List.getD_eq_getElem?_getD, List.getElem?_eq_getElem a2] at h
  have h' : gs[i.toNat].1 = gs[j.toNat].1 := h
  have key : ∀ (x y : Nat) (hx : x < gs.length) (hy : y < gs.length), x < y → gs[x].1 ≠ gs[y].1 := fun x y hx hy hlt e => by
    have := List.pairwise_iff_getElem.mp nd x y (by rw [List.length_map]; exact hx) (by rw [List.length_map]; exact hy) hlt
    apply this
    rw [List.getElem_map, List.getElem_map]; exact e
  have : ¬ i.toNat < j.toNat := fun z => key _ _ a1 a2 z h'
  have : ¬ j.toNat < i.toNat := fun z => key _ _ a2 a1 z h'.symm
  omega
theorem one_ok {num : Int} {gs : List (Str × Bool)} (h : 2 ≤ gs.length) : 0 ≤ oneOf num gs ∧ oneOf num gs < gs.length := ⟨Int.emod_nonneg _ (by omega), Int.emod_lt_of_pos _ (by omega)⟩
theorem other_ok {num : Int} {gs : List (Str × Bool)} (h : 2 ≤ gs.length) : 0 ≤ otherOf num gs ∧ otherOf num gs < gs.length ∧ oneOf num gs ≠ otherOf num gs := by
  obtain ⟨a0, a1⟩ := one_ok (num := num) h
  have b0 := Int.emod_nonneg (num / 13) (show (gs.length : Int) - 1 ≠ 0 by omega)
  have b1 := Int.emod_lt_of_pos (num / 13) (show 0 < (gs.length : Int) - 1 by omega)
  have e : otherOf num gs = (oneOf num gs + 1 + num / 13 % ((gs.length : Int) - 1)) % gs.length := rfl
  generalize num / 13 % ((gs.length : Int) - 1) = d at b0 b1 e
  generalize oneOf num gs = o at a0 a1 e
  rw [e]
  refine ⟨Int.emod_nonneg _ (by omega), Int.emod_lt_of_pos _ (by omega), ?_⟩
  by_cases q : o + 1 + d < gs.length
  · rw [Int.emod_eq_of_lt (by omega) q]; omega
  · have : (o + 1 + d) % (gs.length : Int) = o + 1 + d - gs.length := by
      rw [← Int.sub_emod_right]
      exact Int.emod_eq_of_lt (by omega) (by omega)
    rw [this]; omega
theorem toll_ok (num : Int) : 0 ≤ tollOf num ∧ tollOf num ≤ 1000000 := by
  unfold tollOf
  split
  · have h1 := Int.emod_nonneg (num / 1009) (show (1000001 : Int) ≠ 0 by decide)
    have h2 := Int.emod_lt_of_pos (num / 1009) (show (0 : Int) < 1000001 by decide)
    omega
  · split
    · have h1 := Int.emod_nonneg (num / 1009) (show (100 : Int) ≠ 0 by decide)
      have h2 := Int.emod_lt_of_pos (num / 1009) (show (0 : Int) < 100 by decide)
      omega
    · have h1 := Int.emod_nonneg (num / 1009) (show (5 : Int) ≠ 0 by decide)
      have h2 := Int.emod_lt_of_pos (num / 1009) (show (0 : Int) < 5 by decide)
      omega
theorem unit_ok (ns : List Int) : 1 ≤ unitOf ns ∧ unitOf ns ≤ 100000 := by
  unfold unitOf
  have h1 := Int.emod_nonneg (mixed ns 18) (show (100000 : Int) ≠ 0 by decide)
  have h2 := Int.emod_lt_of_pos (mixed ns 18) (show (0 : Int) < 100000 by decide)
  split
  · omega
  · split <;> omega
theorem lineOf_ok {num u : Int} {gs : List (Str × Bool)} (h : 2 ≤ gs.length) (nd : (gs.map (·.1)).Nodup) (hu : 1 ≤ u) : LineOk gs u (lineOf num gs u) := by
  obtain ⟨a0, a1⟩ := one_ok (num := num) h
  obtain ⟨b0, b1, b2⟩ := other_ok (num := num) h
  obtain ⟨t0, t1⟩ := toll_ok num
  have m0 := Int.emod_nonneg (num / 10007) (show (6 : Int) ≠ 0 by decide)
  have m1 := Int.emod_lt_of_pos (num / 10007) (show (0 : Int) < 6 by decide)
  refine ⟨gnm_mem a0 a1, gnm_mem b0 b1, fun e => b2 (gnm_inj nd a0 a1 b0 b1 e), ⟨_, rfl⟩, ?_, ?_, t0, t1⟩
  · show u ≤ u * (1 + num / 10007 % 6)
    have := Int.mul_le_mul_of_nonneg_left (show 1 ≤ 1 + num / 10007 % 6 by omega) (show 0 ≤ u by omega)
    omega
  · show u * (1 + num / 10007 % 6) ≤ 6 * u
    have := Int.mul_le_mul_of_nonneg_left (show 1 + num / 10007 % 6 ≤ 6 by omega) (show 0 ≤ u by omega)
    omega
theorem many_ok (ns : List Int) (gs : List (Str × Bool)) : 0 ≤ manyOf ns gs ∧ manyOf ns gs ≤ 44 := by
  unfold manyOf
  split
  · have h1 := Int.emod_nonneg (mixed ns 19) (show (45 : Int) ≠ 0 by decide)
    have h2 := Int.emod_lt_of_pos (mixed ns 19) (show (0 : Int) < 45 by decide)
    omega
  · have h1 := Int.emod_nonneg (mixed ns 19) (show (15 : Int) ≠ 0 by decide)
    have h2 := Int.emod_lt_of_pos (mixed ns 19) (show (0 : Int) < 15 by decide)
    omega
theorem lines_len (ns : List Int) (gs : List (Str × Bool)) (u : Int) : (linesOf ns gs u).length ≤ 44 := by
  unfold linesOf
  rw [List.length_map, List.length_range]
  have := many_ok ns gs
  omega
theorem world_ok (ns : List Int) (b : Int) : WdOk (gatesOf ns b) (allLines ns (gatesOf ns b) (unitOf ns) (gateOf ns (gatesOf ns b))) (unitOf ns) := by
  have hl := gates_len ns b
  have hc := cnt_ok ns
  have hnd := gates_nd ns b
  have hnm := gates_nm ns b
  have hu := unit_ok ns
  generalize gatesOf ns b = gs at hl hnd hnm
  have h2 : 2 ≤ gs.length := by omega
  have g0 := Int.emod_nonneg (cellAt ns 2) (show (gs.length : Int) ≠ 0 by omega)
  have g1 := Int.emod_lt_of_pos (cellAt ns 2) (show (0 : Int) < gs.length by omega)
  have hll := lines_len ns gs (unitOf ns)
  have hlk : ∀ l ∈ linesOf ns gs (unitOf ns), LineOk gs (unitOf ns) l := fun l hl => by
    obtain ⟨k, _, rfl⟩ := List.mem_map.mp hl
    exact lineOf_ok h2 hnd hu.1
  refine ⟨h2, by omega, hnd, hnm, hu.1, hu.2, ?_, ?_⟩
  · unfold allLines
    split
    · rw [List.length_append, List.length_map, List.length_take]; omega
    · omega
  · unfold allLines
    split
    · intro l hl
      rcases List.mem_append.mp hl with h | h
      · exact hlk l h
      · obtain ⟨e, he, rfl⟩ := List.mem_map.mp h
        have he' := List.mem_of_mem_take he
        unfold endsOf at he'
        obtain ⟨g, hg, rfl⟩ := List.mem_map.mp he'
        obtain ⟨hg1, hg2⟩ := List.mem_filter.mp hg
        refine ⟨gnm_mem g0 g1, List.mem_map.mpr ⟨g, List.mem_reverse.mp hg1, rfl⟩, fun z => ?_, ⟨2, rfl⟩, ?_, ?_, ?_, ?_⟩
        · have hg3 : ¬ g.1 = gateOf ns gs := by simpa using hg2
          exact hg3 z.symm
        · show unitOf ns ≤ unitOf ns * 2; omega
        · show unitOf ns * 2 ≤ 6 * unitOf ns; omega
        · show (0 : Int) ≤ 3; decide
        · show (3 : Int) ≤ 1000000; decide
    · exact hlk
abbrev Gp := List (Str × Addr × List RowD)
def gpC (x : Str × Addr × List RowD) : Addr × Ow := (x.2.1, Ow.lst (x.2.2.map rowD))
def gpK (x : Str × Addr × List RowD) : Key × Dt := (Sum.inr x.1, Dt.ob x.2.1)
def gpV (x : Str × Addr × List RowD) : Key × Dt := (Sum.inr x.1, Dt.lst (x.2.2.map rowD))
def atG (rs : List RowD) (s : Str) : List RowD := rs.filter fun r => decide (r.g = s)
structure GpOk (rs : List RowD) (gp : Gp) : Prop where
  nd : (gp.map (·.1)).Nodup
  ct : ∀ x ∈ gp, x.2.2 = atG rs x.1
  cv : ∀ r ∈ rs, r.g ∈ gp.map (·.1)
/-- a dict that tells the rows of each gate -/
def There (rs : List RowD) (es : List (Key × Dt)) : Prop := ∀ s : Str, (valD es (Sum.inr s)).getD (.lst []) = .lst ((atG rs s).map rowD)
theorem atG_app (rs : List RowD) (r : RowD) (s : Str) : atG (rs ++ [r]) s = if r.g = s then atG rs s ++ [r] else atG rs s := by
  unfold atG
  rw [List.filter_append]
  by_cases h : r.g = s
  · rw [if_pos h]; simp [h]
  · rw [if_neg h]; simp [h]
theorem GpOk.nil : GpOk [] [] := ⟨List.nodup_nil, fun _ h => (nomatch h), fun _ h => (nomatch h)⟩
theorem GpOk.old {rs : List RowD} {gp : Gp} (h : GpOk rs gp) {r : RowD} {p : Nat} (hp : p < gp.length) (e : gp[p].1 = r.g) : GpOk (rs ++ [r]) (gp.set p (gp[p].1, gp[p].2.1, gp[p].2.2 ++ [r])) := by
  have hm : (gp.set p (gp[p].1, gp[p].2.1, gp[p].2.2 ++ [r])).map (·.1) = gp.map (·.1) := by
    rw [List.map_set]
    have : (gp.map (·.1)).set p gp[p].1 = gp.map (·.1) := by
      have := List.set_getElem_self (as := gp.map (·.1)) (i := p) (by simpa using hp)
      rwa [List.getElem_map] at this
    exact this
  refine ⟨by rw [hm]; exact h.nd, fun x hx => ?_, fun r' hr' => ?_⟩
  · obtain ⟨q, hq, rfl⟩ := List.getElem_of_mem hx
    rw [List.length_set] at hq
    by_cases hpq : p = q
    · subst hpq
      rw [List.getElem_set_self, atG_app, e, if_pos rfl]
      show gp[p].2.2 ++ [r] = _
      rw [h.ct gp[p] (List.getElem_mem _), e]
    · rw [List.getElem_set_ne hpq, atG_app, h.ct gp[q] (List.getElem_mem _)]
      have : r.g ≠ gp[q].1 := fun z => by
        have key : ∀ (x y : Nat) (hx : x < gp.length) (hy : y < gp.length), x < y → gp[x].1 ≠ gp[y].1 := fun x y hx hy hlt e => by
          have := List.pairwise_iff_getElem.mp h.nd x y (by rw [List.length_map]; exact hx) (by rw [List.length_map]; exact hy) hlt
          apply this
          rw [List.getElem_map, List.getElem_map]; exact e
        rw [← e] at z
        rcases Nat.lt_or_ge p q with hlt | hge
        · exact key p q hp hq hlt z
        · exact key q p hq hp (by omega) z.symm
      rw [if_neg this]
  · rw [hm]
    rcases List.mem_append.mp hr' with h' | h'
    · exact h.cv r' h'
    · rw [List.mem_singleton.mp h', ← e]
      exact List.mem_map.mpr ⟨gp[p], List.getElem_mem _, rfl⟩
theorem GpOk.new {rs : List RowD} {gp : Gp} (h : GpOk rs gp) {r : RowD} (hn : r.g ∉ gp.map (·.1)) (a : Addr) : GpOk (rs ++ [r]) ((r.g, a, [r]) :: gp) := by
  refine ⟨List.nodup_cons.mpr ⟨hn, h.nd⟩, fun x hx => ?_, fun r' hr' => ?_⟩
  · rcases List.mem_cons.mp hx with rfl | hx
    · rw [atG_app, if_pos rfl]
      have : atG rs r.g = [] := by
        unfold atG
        rw [List.filter_eq_nil_iff]
        intro r' hr' hd
        exact hn (of_decide_eq_true hd ▸ h.cv r' hr')
      rw [this]; rfl
    · rw [atG_app, if_neg (show ¬ r.g = x.1 from fun z => hn (by rw [z]; exact List.mem_map.mpr ⟨x, hx, rfl⟩))]
      exact h.ct x hx
  · rw [List.map_cons]
    rcases List.mem_append.mp hr' with h' | h'
    · exact List.mem_cons_of_mem _ (h.cv r' h')
    · rw [List.mem_singleton.mp h']; exact List.mem_cons_self
theorem val_gp (f : Str × Addr × List RowD → Dt) (s : Str) : ∀ l : Gp, (∀ z, valD (l.map fun x => (Sum.inr x.1, f x)) (Sum.inr s) = some z → ∃ x ∈ l, x.1 = s ∧ z = f x) ∧ (valD (l.map fun x => (Sum.inr x.1, f x)) (Sum.inr s) = none → s ∉ l.map (·.1))
  | [] => ⟨fun z h => (by cases h), fun _ h => (by cases h)⟩
  | x :: r => by
    obtain ⟨h1, h2⟩ := val_gp f s r
    rw [List.map_cons]
    by_cases e : x.1 = s
    · rw [valD_pos (by rw [e])]
      exact ⟨fun z hz => ⟨x, List.mem_cons_self, e, by cases hz; rfl⟩, fun h => by cases h⟩
    · rw [valD_neg (by simpa using e)]
      refine ⟨fun z hz => ?_, fun hz hm => ?_⟩
      · obtain ⟨y, hy, e1, e2⟩ := h1 z hz
        exact ⟨y, List.mem_cons_of_mem _ hy, e1, e2⟩
      · rw [List.map_cons] at hm
        rcases List.mem_cons.mp hm with h | h
        · exact e h.symm
        · exact h2 hz h
theorem GpOk.there {rs : List RowD} {gp : Gp} (h : GpOk rs gp) : There rs (gp.reverse.map gpV) := by
  intro s
  obtain ⟨h1, h2⟩ := val_gp (fun x => Dt.lst (x.2.2.map rowD)) s gp.reverse
  have e : gp.reverse.map gpV = gp.reverse.map fun x => (Sum.inr x.1, Dt.lst (x.2.2.map rowD)) := rfl
  rw [e]
  cases q : valD (gp.reverse.map fun x => (Sum.inr x.1, Dt.lst (x.2.2.map rowD))) (Sum.inr s) with
  | some z =>
    obtain ⟨x, hx, e1, rfl⟩ := h1 z q
    rw [Option.getD_some, h.ct x (List.mem_reverse.mp hx), e1]
  | none =>
    have hn := h2 q
    have : atG rs s = [] := by
      unfold atG
      rw [List.filter_eq_nil_iff]
      intro r' hr' hd
      have := h.cv r' hr'
      rw [of_decide_eq_true hd] at this
      exact hn (by rw [List.map_reverse]; exact List.mem_reverse.mpr this)
    rw [this]; rfl
theorem gp_sees {gp : Gp} {M : Sto} : ∀ l : Gp, (∀ x ∈ l, x ∈ gp) → SeesK (gp.map gpC ++ M) (l.map gpK) (l.map gpV)
  | [], _ => .rfl
  | x :: r, h => by
    obtain ⟨j, hj, e⟩ := List.getElem_of_mem (h x List.mem_cons_self)
    refine .cons (Sees.lst (j := j) (ds := x.2.2.map rowD) ?_ .rfl) (gp_sees r fun y hy => h y (List.mem_cons_of_mem _ hy))
    rw [List.getElem?_append_left (by rw [List.length_map]; exact hj), List.getElem?_map, List.getElem?_eq_getElem hj, e]
    rfl
theorem cutD_from {ds : List Dt} {n : Nat} (h : n ≤ ds.length) : Vl.cutD ds (some (n : Int)) none = ds.drop n := by
  unfold Vl.cutD
  rw [HT.sIx_nat, HT.sIx_none, Nat.min_eq_left h]
  rw [List.take_of_length_le (by rw [List.length_drop]; omega)]
/-- row k goes on from a row ahead of it along a road -/
structure RowGo (gs : List (Str × Bool)) (ls : List LineT) (rows : List RowD) (k b kk : Nat) : Prop where
  bk : b < k
  kl : kk < ls.length
  op : (ls.getD kk default).o = true
  fa : (ls.getD kk default).a = (ra rows b).g
  bl : b = 0 ∨ gs.lookup (ra rows b).g = some false
  eq : ra rows k = ⟨(ls.getD kk default).b, (ra rows b).m + (ls.getD kk default).m, (ra rows b).t + (ls.getD kk default).t, kk, b⟩
def below (rs : List RowD) (s : Str) (m t : Int) : List RowD := (atG rs s).filter fun r => decide (r.m ≤ m) && decide (r.t ≤ t)
structure Walked (gs : List (Str × Bool)) (ls : List LineT) (gate : Str) (lim : Int) (rows : List RowD) : Prop where
  n1 : 1 ≤ rows.length
  n2 : rows.length ≤ 1000001
  r0 : ra rows 0 = startRow gate
  go : ∀ k, 0 < k → k < rows.length → ∃ b kk, RowGo gs ls rows k b kk
  lm : ∀ k, k < rows.length → (ra rows k).m ≤ lim
  hs : ∀ k, k < rows.length → (gs.lookup (ra rows k).g).isSome = true
  one : ∀ k, 0 < k → k < rows.length → (below (rows.drop 1) (ra rows k).g (ra rows k).m (ra rows k).t).length = 1
  srt : ∀ k, 0 < k → k + 1 < rows.length → HT.lexLt (key3 (netOf gs ls) (ra rows (k + 1))) (key3 (netOf gs ls) (ra rows k)) = false
  cl : ∀ k, k < rows.length → (k = 0 ∨ gs.lookup (ra rows k).g = some false) → ∀ l ∈ ls, l.o = true → l.a = (ra rows k).g → (ra rows k).m + l.m ≤ lim → below (rows.drop 1) l.b ((ra rows k).m + l.m) ((ra rows k).t + l.t) ≠ []
theorem filter_one {α : Type} (p : α → Bool) : ∀ (l : List α) (k : Nat) (hk : k < l.length), p l[k] = true → (∀ j (hj : j < l.length), j ≠ k → p l[j] = false) → (l.filter p).length = 1
  | [], k, hk, _, _ => absurd hk (Nat.not_lt_zero _)
  | x :: r, 0, _, h1, h2 => by
    rw [List.filter_cons, if_pos (by exact h1), List.length_cons]
    have : r.filter p = [] := by
      rw [List.filter_eq_nil_iff]
      intro a ha
      obtain ⟨j, hj, rfl⟩ := List.getElem_of_mem ha
      have := h2 (j + 1) (by simpa using hj) (by omega)
      simpa using this
    rw [this]; rfl
  | x :: r, k + 1, hk, h1, h2 => by
    have h0 := h2 0 (Nat.zero_lt_succ _) (by omega)
    rw [List.filter_cons, if_neg (by rw [show p x = false from h0]; exact Bool.noConfusion)]
    exact filter_one p r k (by simpa using hk) (by simpa using h1) fun j hj hne => by
      have := h2 (j + 1) (by simpa using hj) (by omega)
      simpa using this
theorem line_net {gs : List (Str × Bool)} {ls : List LineT} {k : Nat} (h : k < ls.length) : (netOf gs ls).line k = lineQ (ls.getD k default) := by
  unfold NetM.line netOf
  dsimp only
  rw [List.getD_eq_getElem?_getD, List.getElem?_map, List.getElem?_eq_getElem h, List.getD_eq_getElem?_getD, List.getElem?_eq_getElem h]
  rfl
theorem len_net (gs : List (Str × Bool)) (ls : List LineT) : (netOf gs ls).lines.length = ls.length := List.length_map _
theorem clo_iff {ls : List LineT} {k : Nat} (h : k < ls.length) : (k : Int) ∈ closedOf ls ↔ (ls.getD k default).o = false := by
  unfold closedOf
  constructor
  · intro hm
    obtain ⟨j, hj, e⟩ := List.mem_map.mp hm
    have : j = k := by omega
    subst this
    simpa using (List.mem_filter.mp hj).2
  · intro ho
    exact List.mem_map.mpr ⟨k, List.mem_filter.mpr ⟨List.mem_range.mpr h, by rw [ho]; rfl⟩, rfl⟩
theorem look_mem {gs : List (Str × Bool)} {s : Str} (h : s ∈ gs.map (·.1)) : (gs.lookup s).isSome = true := by
  cases q : gs.lookup s with
  | some v => rfl
  | none =>
    rw [List.lookup_eq_none_iff] at q
    obtain ⟨p, hp, rfl⟩ := List.mem_map.mp h
    have := q p hp
    simp at this
theorem wf_net {gs : List (Str × Bool)} {ls : List LineT} {u : Int} (W : Wd1 gs ls u) : (netOf gs ls).Wf where
  ends := fun k hk => by
    rw [len_net] at hk
    rw [line_net hk]
    have hm : ls.getD k default ∈ ls := by
      rw [List.getD_eq_getElem?_getD, List.getElem?_eq_getElem hk]; exact List.getElem_mem _
    have := W.lk _ hm
    exact ⟨look_mem this.a, look_mem this.b⟩
  pos := fun k hk => by
    rw [len_net] at hk
    rw [line_net hk]
    have hm : ls.getD k default ∈ ls := by
      rw [List.getD_eq_getElem?_getD, List.getElem?_eq_getElem hk]; exact List.getElem_mem _
    have := W.lk _ hm
    have h1 := this.lo
    have h2 := W.u1
    exact ⟨by show 1 ≤ (ls.getD k default).m; omega, this.t0⟩
theorem bnd_net {gs : List (Str × Bool)} {ls : List LineT} {u lim : Int} (W : WdOk gs ls u) (h0 : 0 ≤ lim) (h1 : lim / u ≤ 100) : Bnd (netOf gs ls) u lim where
  u1 := W.u1
  l0 := h0
  dv := fun k hk => by
    rw [len_net] at hk
    rw [line_net hk]
    have hm : ls.getD k default ∈ ls := by
      rw [List.getD_eq_getElem?_getD, List.getElem?_eq_getElem hk]; exact List.getElem_mem _
    exact (W.lk _ hm).dv
  sz := by
    rw [len_net]
    have a1 := W.g60
    have a2 := W.ll
    have a4 := Int.ediv_le_ediv (show 0 < u by have := W.u1; omega) (topN_le (netOf gs ls) lim)
    have a3 : (topN (netOf gs ls) lim / u).toNat + 1 ≤ 101 := by omega
    have b1 : (netOf gs ls).sight.length * ((topN (netOf gs ls) lim / u).toNat + 1) ≤ 60 * 101 := Nat.mul_le_mul a1 a3
    have b2 := Nat.mul_le_mul b1 (show ls.length + 1 ≤ 65 by omega)
    omega
theorem reach_walkedB {gs : List (Str × Bool)} {ls : List LineT} {u lim : Int} {gate : Str} (W : Wd1 gs ls u) (B : Bnd (netOf gs ls) u lim) (hg : gate ∈ gs.map (·.1)) : Walked gs ls gate lim (reachRows (netOf gs ls) gate lim) := by
  have Wf := wf_net W
  obtain ⟨i, s, R, hnil⟩ := reach_end (gate := gate) Wf B
  have I := R.inv Wf
  have hrl := R.rl
  have hdv := row_div Wf B I
  rw [← R.done hnil]
  have goes : ∀ j, 0 < j → j < s.rows.length → ∃ b kk, RowGo gs ls s.rows j b kk := fun j hj0 hj => by
    obtain ⟨w, b, kk, hb, g, e⟩ := I.row j hj0 hj
    obtain ⟨k1, k2, k3⟩ := mem_out g.gk
    rw [len_net] at k1
    have hln := line_net (gs := gs) k1
    rw [g.ge, wRow_ext, hln] at e
    rw [hln] at k2
    refine ⟨b, kk, hb, k1, ?_, k2, g.go, e⟩
    cases ho : (ls.getD kk default).o with
    | true => rfl
    | false => exact absurd ((clo_iff k1).mpr ho) k3
  have dr : ∀ j, j < (s.rows.drop 1).length → (s.rows.drop 1)[j]? = some (ra s.rows (1 + j)) := fun j hj => by
    rw [List.length_drop] at hj
    rw [List.getElem?_drop]
    unfold ra
    rw [List.getD_eq_getElem?_getD, List.getElem?_eq_getElem (by omega)]; rfl
  refine ⟨I.ne, by omega, I.r0, goes, fun k hk => (hdv k hk).2.2, fun k hk => ?_, fun k hk0 hk => ?_, fun k hk0 hk => I.srt k (k + 1) hk0 (by omega) hk, fun k hk hbl l hl ho ha hm => ?_⟩
  · rcases Nat.eq_zero_or_pos k with rfl | hk0
    · rw [I.r0]; exact look_mem hg
    · obtain ⟨b, kk, g⟩ := goes k hk0 hk
      rw [g.eq]
      have hm : ls.getD kk default ∈ ls := by
        rw [List.getD_eq_getElem?_getD, List.getElem?_eq_getElem g.kl]; exact List.getElem_mem _
      exact look_mem (W.lk _ hm).b
  · unfold below atG
    rw [List.filter_filter]
    have hkl : k - 1 < (s.rows.drop 1).length := by rw [List.length_drop]; omega
    have get : ∀ j (hj : j < (s.rows.drop 1).length), (s.rows.drop 1)[j] = ra s.rows (1 + j) := fun j hj => (List.getElem?_eq_some_iff.mp (dr j hj)).2
    refine filter_one _ _ (k - 1) hkl ?_ fun j hj hne => ?_
    · rw [get, show 1 + (k - 1) = k by omega]
      simp
    · rw [get]
      have hj' := hj
      rw [List.length_drop] at hj'
      by_cases hg' : (ra s.rows (1 + j)).g = (ra s.rows k).g
      · rcases Nat.lt_or_ge (1 + j) k with hlt | hge
        · have := I.str (1 + j) k (by omega) hlt hk hg'
          rw [decide_eq_false (show ¬ (ra s.rows (1 + j)).m ≤ (ra s.rows k).m by omega)]
          rfl
        · have hlt : k < 1 + j := by omega
          have h3 := I.str k (1 + j) hk0 hlt (by omega) hg'.symm
          have h4 := I.srt k (1 + j) hk0 hlt (by omega)
          have h5 := lex_t h4
          have h6 : ¬ (ra s.rows (1 + j)).t ≤ (ra s.rows k).t := fun hle => by
            have e : (ra s.rows (1 + j)).t = (ra s.rows k).t := by omega
            unfold key3 at h4
            rw [HT.lexLt_cons, if_pos e, HT.lexLt_cons, if_neg (by omega)] at h4
            have := of_decide_eq_false h4
            omega
          rw [decide_eq_false h6, Bool.and_false]; rfl
      · rw [decide_eq_false hg', Bool.and_false]
  · obtain ⟨kk, hkk, rfl⟩ := List.getElem_of_mem hl
    have hgd : ls.getD kk default = ls[kk] := by rw [List.getD_eq_getElem?_getD, List.getElem?_eq_getElem hkk]; rfl
    have hln := line_net (gs := gs) hkk
    rw [hgd] at hln
    have hko : kk ∈ (netOf gs ls).out (ra s.rows k).g := out_mem (by rw [len_net]; exact hkk) (by rw [hln]; exact ha) (fun z => by
      have := (clo_iff hkk).mp z
      rw [hgd, ho] at this; cases this)
    rcases I.cov _ k kk hk ⟨hko, hbl, rfl, by rw [hln]; exact hm⟩ with h | ⟨j, hj0, hj, e1, e2, e3⟩
    · rw [hnil] at h; cases h
    · rw [wRow_ext, hln] at e1 e2 e3
      intro hnil2
      unfold below atG at hnil2
      rw [List.filter_filter, List.filter_eq_nil_iff] at hnil2
      have hjl : j - 1 < (s.rows.drop 1).length := by rw [List.length_drop]; omega
      have hmem : ra s.rows j ∈ s.rows.drop 1 := by
        have := dr (j - 1) hjl
        rw [show 1 + (j - 1) = j by omega] at this
        exact List.mem_of_getElem? this
      have := hnil2 _ hmem
      apply this
      have e1' : (ra s.rows j).g = ls[kk].b := e1
      have e2' : (ra s.rows j).m ≤ (ra s.rows k).m + ls[kk].m := e2
      have e3' : (ra s.rows j).t ≤ (ra s.rows k).t + ls[kk].t := e3
      rw [decide_eq_true e1', decide_eq_true e2', decide_eq_true e3']; rfl
theorem reach_walked {gs : List (Str × Bool)} {ls : List LineT} {u lim : Int} {gate : Str} (W : WdOk gs ls u) (h0 : 0 ≤ lim) (h1 : lim / u ≤ 100) (hg : gate ∈ gs.map (·.1)) : Walked gs ls gate lim (reachRows (netOf gs ls) gate lim) := reach_walkedB W (bnd_net W h0 h1) hg
theorem eq_nil {K : PySem.W.Frag} {M : Sto} {x y d : Dt} {ds : List Dt} (sx : Sees M x (.lst (d :: ds))) (sy : Sees M y (.lst [])) (h : ShD 64 (.lst (d :: ds))) : Op2 K M (rEqU K) x y (.bl false) := by
  obtain ⟨p, a, b, c⟩ := h
  have hs : SeqAt.shaped p = true := by unfold SeqAt.shaped; rw [b]; simp [c]
  have a2 := a
  rw [toPD] at a2
  obtain ⟨ps, e1, rfl⟩ := Option.map_eq_some_iff.mp a2
  rw [toPDs] at e1
  obtain ⟨q, _, e3⟩ := Option.bind_eq_some_iff.mp e1
  obtain ⟨qs, _, rfl⟩ := Option.map_eq_some_iff.mp e3
  have := u_eqD (K := K) sx sy a (show toPD (.lst []) = some (.list []) from rfl) hs (by decide)
  have e : PyData.eqv (.list (q :: qs)) (.list []) = false := by simp [PyData.eqv, PyData.eqvAll]
  rwa [e] at this
theorem gates_sok (ns : List Int) (b : Int) : ∀ s ∈ (gatesOf ns b).map (·.1), PyData.strOk s = true := by
  intro s hs
  obtain ⟨g, hg, rfl⟩ := List.mem_map.mp hs
  obtain ⟨t, _, rfl⟩ := List.mem_map.mp hg
  exact nameOf_ok _ _
def turnK (gs : List (Str × Bool)) (i : Nat) : List (Key × Dt) := (List.range i).map fun k : Nat => (Sum.inr (gnm gs (k : Int)), Dt.int (k : Int))
theorem put_new {kvs : List (Key × Dt)} {key : Key} {v : Dt} (h : ∀ kv ∈ kvs, kv.1 ≠ key) : putD kvs key v = kvs ++ [(key, v)] := by
  unfold putD
  rw [if_neg]
  rw [List.any_eq_true]
  rintro ⟨kv, hkv, hd⟩
  exact h kv hkv (of_decide_eq_true hd)
theorem gnm_nat {gs : List (Str × Bool)} {i : Nat} (h : i < gs.length) : gnm gs (i : Int) = gs[i].1 := by
  unfold gnm
  rw [Int.toNat_natCast, List.getD_eq_getElem?_getD, List.getElem?_eq_getElem h]; rfl
theorem put_turn {gs : List (Str × Bool)} (nd : (gs.map (·.1)).Nodup) {i : Nat} (h : i < gs.length) : putD (turnK gs i) (Sum.inr (gnm gs (i : Int))) (.int (i : Int)) = turnK gs (i + 1) := by
  rw [put_new]
  · unfold turnK
    rw [List.range_succ, List.map_append]; rfl
  · intro kv hkv
    obtain ⟨k, hk, rfl⟩ := List.mem_map.mp hkv
    have hk' := List.mem_range.mp hk
    intro e
    have := gnm_inj nd (by omega) (by omega) (by omega) (by omega) (show gnm gs (k : Int) = gnm gs (i : Int) by simpa using e)
    omega
theorem put_sees {gs : List (Str × Bool)} (nd : (gs.map (·.1)).Nodup) {i : Nat} (h : i < gs.length) : putD (sightK (gs.take i)) (Sum.inr gs[i].1) (.bl gs[i].2) = sightK (gs.take (i + 1)) := by
  rw [put_sight]
  · rw [List.take_add_one, List.getElem?_eq_getElem h]; rfl
  · rw [List.lookup_eq_none_iff]
    intro p hp
    obtain ⟨j, hj, e⟩ := List.getElem_of_mem hp
    rw [List.length_take] at hj
    rw [List.getElem_take] at e
    have := List.pairwise_iff_getElem.mp nd j i (by rw [List.length_map]; omega) (by rw [List.length_map]; exact h) (by omega)
    rw [List.getElem_map, List.getElem_map, e] at this
    simpa using fun z => this z.symm
theorem turn_at {gs : List (Str × Bool)} {ls : List LineT} (nd : (gs.map (·.1)).Nodup) {s : Str} (h : (gs.lookup s).isSome = true) : valD (turnK gs gs.length) (Sum.inr s) = some (.int ((netOf gs ls).place' s)) := by
  have hm := has_mem (n := netOf gs ls) h
  have hm' : s ∈ gs.map (·.1) := hm
  obtain ⟨i, hi, e⟩ := List.getElem_of_mem hm'
  rw [List.length_map] at hi
  rw [List.getElem_map] at e
  have hp : (netOf gs ls).place s = some i := by
    unfold NetM.place
    show (gs.map (·.1)).findIdx? _ = _
    rw [List.findIdx?_eq_some_iff_getElem]
    refine ⟨by rw [List.length_map]; exact hi, by rw [List.getElem_map]; exact decide_eq_true e, fun j hj => ?_⟩
    rw [List.getElem_map]
    have := List.pairwise_iff_getElem.mp nd j i (by rw [List.length_map]; omega) (by rw [List.length_map]; exact hi) hj
    rw [List.getElem_map, List.getElem_map, e] at this
    simpa using this
  have hp' : (netOf gs ls).place' s = (i : Int) := by unfold NetM.place'; rw [hp]; rfl
  rw [hp']
  have hv : ∀ j, j ≤ gs.length → (i < j → valD (turnK gs j) (Sum.inr s) = some (.int (i : Int))) := by
    intro j
    induction j with
    | zero => intro _ h; omega
    | succ j ih =>
      intro hj hlt
      have e1 : turnK gs (j + 1) = turnK gs j ++ [(Sum.inr (gnm gs (j : Int)), Dt.int (j : Int))] := by
        unfold turnK
        rw [List.range_succ, List.map_append]; rfl
      rw [e1]
      unfold valD
      rw [List.find?_append]
      by_cases hij : i < j
      · have := ih (by omega) hij
        unfold valD at this
        cases q : (turnK gs j).find? (fun kv => decide (kv.1 = Sum.inr s)) with
        | none => rw [q] at this; cases this
        | some w => rw [q] at this; exact this
      · have hij' : i = j := by omega
        subst hij'
        have hn : (turnK gs i).find? (fun kv => decide (kv.1 = Sum.inr s)) = none := by
          rw [List.find?_eq_none]
          intro kv hkv
          obtain ⟨k, hk, rfl⟩ := List.mem_map.mp hkv
          have hk' := List.mem_range.mp hk
          have : gnm gs (k : Int) ≠ s := fun z => by
            have := gnm_inj nd (i := (k : Int)) (j := (i : Int)) (by omega) (by omega) (by omega) (by omega) (by rw [z, gnm_nat hi, e])
            omega
          simpa using this
        rw [hn]
        have : gnm gs (i : Int) = s := by rw [gnm_nat hi, e]
        simp [this]
  exact hv gs.length (Nat.le_refl _) hi
def pairA (A : List Dt) : Dt := .lst [.lst A, .lst A]
theorem srtS_perm (l : List Str) : (srtS l).Perm l := List.mergeSort_perm l _
/-- where a watch, its plain account and what is held stand -/
structure WSt (M : Sto) (jk jo : Nat) (kd o : Addr) (W : WM) : Prop where
  k : M[jk]? = some (kd, .dct (keptK W))
  o : M[jo]? = some (o, .dct (ownK W))
  c : ∀ s e, W.lookup s = some e → e.2.length ≤ 1000 ∧ ∃ i : Nat, M[i]? = some (e.1, .lst (e.2.map isD))
  l : W.length < 64
  nm : ∀ e ∈ W, PyData.strOk e.1 = true ∧ ∀ q ∈ e.2.2, PyData.strOk q.2 = true
theorem lookup_mem {α : Type} {W : List (Str × α)} {s : Str} {e : α} (h : W.lookup s = some e) : (s, e) ∈ W := by
  rw [List.lookup_eq_some_iff] at h
  obtain ⟨l1, l2, e1, _⟩ := h
  rw [e1]; exact List.mem_append_right _ List.mem_cons_self
theorem set_other {M : Sto} {i j : Nat} {p q : Addr × Ow} (h : M[i]? = some p) (hj : M[j]? = some q) (hne : p.1 ≠ q.1 ∨ p.2 ≠ q.2) {q' : Addr × Ow} : (M.set j q')[i]? = some p := by
  rw [List.getElem?_set, if_neg]
  · exact h
  · intro e
    subst e
    rw [h] at hj
    cases hj
    rcases hne with z | z
    · exact z rfl
    · exact z rfl
theorem set_same {M : Sto} {j : Nat} {q : Addr × Ow} (hj : M[j]? = some q) {q' : Addr × Ow} : (M.set j q')[j]? = some q' := by
  rw [List.getElem?_set, if_pos rfl, if_pos (List.getElem?_eq_some_iff.mp hj).1]
theorem dct_set {M : Sto} {x : Dt} {kvs : List (Key × Dt)} {j : Nat} {q q' : Addr × Ow} (h : Dct M x kvs) (hj : M[j]? = some q) (hne : x ≠ .ob q.1 ∨ ∃ l, q.2 = .lst l) : Dct (M.set j q') x kvs := by
  cases h with
  | frz => exact .frz
  | own e =>
    refine .own (set_other e hj ?_)
    rcases hne with z | ⟨l, z⟩
    · exact .inl fun w => z (congrArg Dt.ob w)
    · right
      rw [z]
      exact fun w => nomatch w
theorem lst_set {M : Sto} {x : Dt} {ds : List Dt} {j : Nat} {q q' : Addr × Ow} (h : Lst M x ds) (hj : M[j]? = some q) (hne : x ≠ .ob q.1 ∨ ∃ l, q.2 = .dct l) : Lst (M.set j q') x ds := by
  cases h with
  | frz => exact .frz
  | own e =>
    refine .own (set_other e hj ?_)
    rcases hne with z | ⟨l, z⟩
    · exact .inl fun w => z (congrArg Dt.ob w)
    · right
      rw [z]
      exact fun w => nomatch w
theorem atI_zero {d : Dt} {ds : List Dt} : atI (d :: ds) 0 = some d := by
  have := atI_D (xs := d :: ds) (i := 0) Dt.non (by omega) (by rw [List.length_cons]; omega)
  rw [this]; rfl
theorem sh_app {A : List Dt} {d : Dt} (h : ∀ x ∈ A, ShD 11 x) (hd : ShD 11 d) : ShD 12 (.lst (A ++ [d])) := sh_lst fun x hx => by
  rcases List.mem_append.mp hx with z | z
  · exact h x z
  · rw [List.mem_singleton.mp z]; exact hd
/-- a deed of a watch, on both sides -/
inductive Stp (M : Sto) (jk jo : Nat) (kd o : Addr) (W : WM) : Sto → WM → Prop
  | same : Stp M jk jo kd o W M W
  | new (a : Addr) (s : Str) (q : Int × Str) : W.lookup s = none → PyData.strOk s = true → PyData.strOk q.2 = true → Stp M jk jo kd o W ((a, .lst ([q].map isD)) :: (M.set jk (kd, .dct (keptK (W ++ [(s, a, [q])])))).set jo (o, .dct (ownK (W ++ [(s, a, [q])])))) (W ++ [(s, a, [q])])
  | more (s : Str) (e : Addr × List (Int × Str)) (i : Nat) (q : Int × Str) : W.lookup s = some e → PyData.strOk q.2 = true → M[i]? = some (e.1, .lst (e.2.map isD)) → Stp M jk jo kd o W ((M.set i (e.1, .lst ((e.2 ++ [q]).map isD))).set jo (o, .dct (ownK (putW W s (e.2 ++ [q]))))) (putW W s (e.2 ++ [q]))
  | drop (s : Str) : Stp M jk jo kd o W ((M.set jo (o, .dct (ownK (dropW W s)))).set jk (kd, .dct (keptK (dropW W s)))) (dropW W s)
theorem atI_names {b0 : Int} {gn : List Str} {r : Int} (h0 : 0 ≤ r) (h1 : r < gn.length) : ∃ g ∈ gn, atI (Dt.int b0 :: gn.map Dt.str) (1 + r) = some (.str g) := by
  have hr : r.toNat < gn.length := by omega
  refine ⟨gn[r.toNat], List.getElem_mem _, ?_⟩
  have := atI_D (xs := Dt.int b0 :: gn.map Dt.str) (i := 1 + r) (Dt.non) (by omega) (by rw [List.length_cons, List.length_map]; omega)
  rw [this, show (1 + r).toNat = r.toNat + 1 by omega]
  congr 1
  show (gn.map Dt.str).getD r.toNat Dt.non = _
  rw [List.getD_eq_getElem?_getD, List.getElem?_map, List.getElem?_eq_getElem hr]; rfl
def timesOf (v : Int) : List Int := [v % 21, v % 21, v % (1000000000 + 1), 1000000000]
def timeOf (v : Int) : Int := (timesOf v).getD (v / 21 % 4).toNat 0
theorem time_at (v : Int) : atI ((timesOf v).map Dt.int) (v / 21 % 4) = some (.int (timeOf v)) := by
  have h0 := Int.emod_nonneg (v / 21) (show (4 : Int) ≠ 0 by decide)
  have h1 := Int.emod_lt_of_pos (v / 21) (show (0 : Int) < 4 by decide)
  exact atI_mapI (f := Dt.int) (xs := timesOf v) h0 (by show _ < ((4 : Nat) : Int); omega)
theorem time_ok (v : Int) : 0 ≤ timeOf v ∧ timeOf v ≤ 1000000000 := by
  have h0 := Int.emod_nonneg (v / 21) (show (4 : Int) ≠ 0 by decide)
  have h1 := Int.emod_lt_of_pos (v / 21) (show (0 : Int) < 4 by decide)
  have a0 := Int.emod_nonneg v (show (21 : Int) ≠ 0 by decide)
  have a1 := Int.emod_lt_of_pos v (show (0 : Int) < 21 by decide)
  have b0 := Int.emod_nonneg v (show (1000000000 + 1 : Int) ≠ 0 by decide)
  have b1 := Int.emod_lt_of_pos v (show (0 : Int) < 1000000000 + 1 by decide)
  unfold timeOf timesOf
  have h : (v / 21 % 4).toNat = 0 ∨ (v / 21 % 4).toNat = 1 ∨ (v / 21 % 4).toNat = 2 ∨ (v / 21 % 4).toNat = 3 := by omega
  rcases h with h | h | h | h
  · rw [h]; exact ⟨a0, by show v % 21 ≤ _; omega⟩
  · rw [h]; exact ⟨a0, by show v % 21 ≤ _; omega⟩
  · rw [h]; exact ⟨b0, by show v % (1000000000 + 1) ≤ _; omega⟩
  · rw [h]; exact ⟨by show (0 : Int) ≤ 1000000000; decide, Int.le_refl _⟩
structure LI (dyn : Sto) (W V : WM) (i : Nat) : Prop where
  mw : ∀ e ∈ W, (e.2.1, Ow.lst (e.2.2.map isD)) ∈ dyn ∧ e.2.2.length ≤ i ∧ PyData.strOk e.1 = true ∧ ∀ q ∈ e.2.2, PyData.strOk q.2 = true
  mv : ∀ e ∈ V, (e.2.1, Ow.lst (e.2.2.map isD)) ∈ dyn ∧ e.2.2.length ≤ i ∧ PyData.strOk e.1 = true ∧ ∀ q ∈ e.2.2, PyData.strOk q.2 = true
  lw : W.length ≤ i
  lv : V.length ≤ i
  nd : ((W ++ V).map (·.2.1)).Nodup
  kw : (W.map (·.1)).Nodup
  kv : (V.map (·.1)).Nodup
theorem LI.symm {dyn : Sto} {W V : WM} {i : Nat} (L : LI dyn W V i) : LI dyn V W i :=
  ⟨L.mv, L.mw, L.lv, L.lw, (List.Perm.nodup_iff (List.Perm.map _ List.perm_append_comm)).mp L.nd, L.kv, L.kw⟩
theorem LI.mono {dyn : Sto} {W V : WM} {i j : Nat} (L : LI dyn W V i) (h : i ≤ j) : LI dyn W V j :=
  ⟨fun e he => by obtain ⟨a, b, c⟩ := L.mw e he; exact ⟨a, by omega, c⟩, fun e he => by obtain ⟨a, b, c⟩ := L.mv e he; exact ⟨a, by omega, c⟩, by have := L.lw; omega, by have := L.lv; omega, L.nd, L.kw, L.kv⟩
theorem LI.nil (i : Nat) : LI [] [] [] i := ⟨fun _ h => (nomatch h), fun _ h => (nomatch h), Nat.zero_le _, Nat.zero_le _, List.nodup_nil, List.nodup_nil, List.nodup_nil⟩
theorem set_app {dyn base : Sto} {k : Nat} {p : Addr × Ow} : (dyn ++ base).set (dyn.length + k) p = dyn ++ base.set k p := by
  rw [List.set_append_right _ _ (by omega), show dyn.length + k - dyn.length = k by omega]
theorem get_app {dyn base : Sto} {k : Nat} : (dyn ++ base)[dyn.length + k]? = base[k]? := by
  rw [List.getElem?_append_right (by omega), show dyn.length + k - dyn.length = k by omega]
theorem set_self {M : Sto} {k : Nat} {p : Addr × Ow} (h : M[k]? = some p) : M.set k p = M := by
  apply List.ext_getElem?
  intro i
  rw [List.getElem?_set]
  by_cases q : k = i
  · subst q
    rw [if_pos rfl, if_pos (List.getElem?_eq_some_iff.mp h).1, h]
  · rw [if_neg q]
theorem mem_set_ne {M : Sto} {k : Nat} {p q r : Addr × Ow} (h : M[k]? = some p) (hq : q ∈ M) (hne : q.1 ≠ p.1) : q ∈ M.set k r := by
  obtain ⟨i, hi⟩ := List.getElem?_of_mem hq
  have : (M.set k r)[i]? = some q := set_other hi h (.inl hne)
  exact List.mem_of_getElem? this
theorem mem_set_self {M : Sto} {k : Nat} {p r : Addr × Ow} (h : M[k]? = some p) : r ∈ M.set k r := List.mem_of_getElem? (set_same h)
/-- where a cell of that address stands -/
theorem at_uniq {M : Sto} (nd : (M.map (·.1)).Nodup) {i j : Nat} {p q : Addr × Ow} (hi : M[i]? = some p) (hj : M[j]? = some q) (h : p.1 = q.1) : i = j := by
  obtain ⟨h1, e1⟩ := List.getElem?_eq_some_iff.mp hi
  obtain ⟨h2, e2⟩ := List.getElem?_eq_some_iff.mp hj
  rcases Nat.lt_trichotomy i j with hlt | he | hgt
  · have := List.pairwise_iff_getElem.mp nd i j (by rw [List.length_map]; exact h1) (by rw [List.length_map]; exact h2) hlt
    rw [List.getElem_map, List.getElem_map, e1, e2] at this
    exact absurd h this
  · exact he
  · have := List.pairwise_iff_getElem.mp nd j i (by rw [List.length_map]; exact h2) (by rw [List.length_map]; exact h1) hgt
    rw [List.getElem_map, List.getElem_map, e1, e2] at this
    exact absurd h.symm this
theorem nodup_inj {α β : Type} {f : α → β} {l : List α} (nd : (l.map f).Nodup) {x y : α} (hx : x ∈ l) (hy : y ∈ l) (h : f x = f y) : x = y := by
  obtain ⟨i, hi, rfl⟩ := List.getElem_of_mem hx
  obtain ⟨j, hj, rfl⟩ := List.getElem_of_mem hy
  rcases Nat.lt_trichotomy i j with hlt | he | hgt
  · have := List.pairwise_iff_getElem.mp nd i j (by rw [List.length_map]; exact hi) (by rw [List.length_map]; exact hj) hlt
    rw [List.getElem_map, List.getElem_map] at this
    exact absurd h this
  · subst he; rfl
  · have := List.pairwise_iff_getElem.mp nd j i (by rw [List.length_map]; exact hj) (by rw [List.length_map]; exact hi) hgt
    rw [List.getElem_map, List.getElem_map] at this
    exact absurd h.symm this
theorem wst_of {dyn base : Sto} {W V : WM} {i ik io : Nat} {kd o : Addr} (L : LI dyn W V i) (hk : base[ik]? = some (kd, .dct (keptK W))) (ho : base[io]? = some (o, .dct (ownK W))) (hi : i ≤ 60) : WSt (dyn ++ base) (dyn.length + ik) (dyn.length + io) kd o W where
  k := by rw [get_app]; exact hk
  o := by rw [get_app]; exact ho
  c := fun s e he => by
    obtain ⟨h1, h2, _⟩ := L.mw _ (lookup_mem he)
    refine ⟨by have : e.2.length ≤ i := h2; omega, ?_⟩
    obtain ⟨j, hj⟩ := List.getElem?_of_mem h1
    exact ⟨j, by rw [List.getElem?_append_left (List.getElem?_eq_some_iff.mp hj).1]; exact hj⟩
  l := by have := L.lw; omega
  nm := fun e he => (L.mw e he).2.2
theorem stp_core {dyn base M2 : Sto} {W V W2 : WM} {i ik io : Nat} {kd o : Addr} (L : LI dyn W V i) (hk : base[ik]? = some (kd, .dct (keptK W))) (ho : base[io]? = some (o, .dct (ownK W))) (hne : ik ≠ io) (nd : ((dyn ++ base).map (·.1)).Nodup)
    (h : Stp (dyn ++ base) (dyn.length + ik) (dyn.length + io) kd o W M2 W2) (nd2 : (M2.map (·.1)).Nodup) : ∃ dyn', M2 = dyn' ++ (base.set ik (kd, .dct (keptK W2))).set io (o, .dct (ownK W2)) ∧ LI dyn' W2 V (i + 1) := by
  have hno : (base.set ik (kd, .dct (keptK W)))[io]? = some (o, .dct (ownK W)) := by rw [set_self hk]; exact ho
  cases h with
  | same =>
    refine ⟨dyn, ?_, L.mono (Nat.le_succ _)⟩
    rw [set_self hk, set_self ho]
  | new a s q hl hs hq =>
    refine ⟨(a, .lst ([q].map isD)) :: dyn, ?_, ?_⟩
    · rw [set_app, set_app]; rfl
    · have hfresh : ∀ e ∈ W ++ V, e.2.1 ≠ a := fun e he z => by
        have hm : (e.2.1, Ow.lst (e.2.2.map isD)) ∈ dyn := by
          rcases List.mem_append.mp he with h | h
          · exact (L.mw e h).1
          · exact (L.mv e h).1
        rw [set_app, set_app, List.map_cons] at nd2
        have := (List.nodup_cons.mp nd2).1
        exact this (by
          rw [List.map_append]
          exact List.mem_append_left _ (List.mem_map.mpr ⟨_, hm, z⟩))
      refine ⟨fun e he => ?_, fun e he => ?_, ?_, ?_, ?_, ?_, L.kv⟩
      · rcases List.mem_append.mp he with h | h
        · obtain ⟨a1, a2, a3⟩ := L.mw e h
          exact ⟨List.mem_cons_of_mem _ a1, by omega, a3⟩
        · rw [List.mem_singleton.mp h]
          exact ⟨List.mem_cons_self, by show 1 ≤ _; omega, hs, fun p hp => by rw [List.mem_singleton.mp hp]; exact hq⟩
      · obtain ⟨a1, a2, a3⟩ := L.mv e he
        exact ⟨List.mem_cons_of_mem _ a1, by omega, a3⟩
      · rw [List.length_append, List.length_singleton]; have := L.lw; omega
      · have := L.lv; omega
      · have hp : ((W ++ [(s, a, [q])]) ++ V).Perm ((s, a, [q]) :: (W ++ V)) := by
          rw [List.append_assoc]
          exact List.perm_middle
        rw [List.Perm.nodup_iff (hp.map _), List.map_cons]
        refine List.nodup_cons.mpr ⟨fun z => ?_, L.nd⟩
        obtain ⟨e, he, z⟩ := List.mem_map.mp z
        exact hfresh e he z
      · rw [List.map_append]
        refine List.nodup_append.mpr ⟨L.kw, by simp, fun x hx y hy z => ?_⟩
        obtain ⟨e, he, rfl⟩ := List.mem_map.mp hx
        have hy' : y = s := List.mem_singleton.mp hy
        exact lookup_none hl e he (z.trans hy')
  | more s e j q hl hq hj =>
    obtain ⟨m1, m2, m3, m4⟩ := L.mw _ (lookup_mem hl)
    obtain ⟨j', hj'⟩ := List.getElem?_of_mem m1
    have hj'l := (List.getElem?_eq_some_iff.mp hj').1
    have hj'' : (dyn ++ base)[j']? = some (e.1, Ow.lst (e.2.map isD)) := by rw [List.getElem?_append_left hj'l]; exact hj'
    have ejj : j = j' := at_uniq nd hj hj'' rfl
    subst ejj
    have hkp := kept_put W s (e.2 ++ [q])
    refine ⟨dyn.set j (e.1, .lst ((e.2 ++ [q]).map isD)), ?_, ?_⟩
    · rw [hkp, set_self hk, List.set_append_left _ _ hj'l]
      have e2 : dyn.length = (dyn.set j (e.1, Ow.lst ((e.2 ++ [q]).map isD))).length := by rw [List.length_set]
      rw [e2, set_app]
    · have hput : ∀ x ∈ putW W s (e.2 ++ [q]), x = (s, e.1, e.2 ++ [q]) ∨ (x ∈ W ∧ x.1 ≠ s) := fun x hx => by
        obtain ⟨y, hy, rfl⟩ := List.mem_map.mp hx
        by_cases z : y.1 = s
        · left
          rw [if_pos z]
          have := nodup_inj L.kw hy (lookup_mem hl) z
          rw [this]
        · right
          rw [if_neg z]
          exact ⟨hy, z⟩
      have addr : ∀ x ∈ W ++ V, x ≠ (s, e) → x.2.1 ≠ e.1 := fun x hx hne' z => hne' (nodup_inj L.nd hx (List.mem_append_left _ (lookup_mem hl)) z)
      have fst : (putW W s (e.2 ++ [q])).map (·.1) = W.map (·.1) := by
        unfold putW
        rw [List.map_map]
        apply List.map_congr_left
        intro x _
        show (if x.1 = s then (x.1, x.2.1, e.2 ++ [q]) else x).1 = x.1
        split <;> rfl
      have snd : (putW W s (e.2 ++ [q])).map (·.2.1) = W.map (·.2.1) := by
        unfold putW
        rw [List.map_map]
        apply List.map_congr_left
        intro x _
        show (if x.1 = s then (x.1, x.2.1, e.2 ++ [q]) else x).2.1 = x.2.1
        split <;> rfl
      refine ⟨fun x hx => ?_, fun x hx => ?_, ?_, ?_, ?_, ?_, L.kv⟩
      · rcases hput x hx with rfl | ⟨h1, h2⟩
        · refine ⟨mem_set_self hj', ?_, m3, fun p hp => ?_⟩
          · show (e.2 ++ [q]).length ≤ _
            have m2' : e.2.length ≤ i := m2
            rw [List.length_append, List.length_singleton]; omega
          · rcases List.mem_append.mp hp with z | z
            · exact m4 p z
            · rw [List.mem_singleton.mp z]; exact hq
        · obtain ⟨a1, a2, a3⟩ := L.mw x h1
          exact ⟨mem_set_ne hj' a1 (addr x (List.mem_append_left _ h1) fun z => h2 (by rw [z])), by omega, a3⟩
      · obtain ⟨a1, a2, a3⟩ := L.mv x hx
        refine ⟨mem_set_ne hj' a1 (fun z => ?_), by omega, a3⟩
        have nd' := L.nd
        rw [List.map_append] at nd'
        exact (List.nodup_append.mp nd').2.2 _ (List.mem_map.mpr ⟨_, lookup_mem hl, rfl⟩) _ (List.mem_map.mpr ⟨x, hx, rfl⟩) z.symm
      · unfold putW; rw [List.length_map]; have := L.lw; omega
      · have := L.lv; omega
      · rw [List.map_append, snd, ← List.map_append]; exact L.nd
      · rw [fst]; exact L.kw
  | drop s =>
    have hsub : (dropW W s).Sublist W := List.filter_sublist
    refine ⟨dyn, ?_, ?_⟩
    · rw [set_app, set_app, List.set_comm _ _ hne.symm]
    · refine ⟨fun x hx => ?_, fun x hx => ?_, ?_, ?_, ?_, ?_, L.kv⟩
      · obtain ⟨a1, a2, a3⟩ := L.mw x (hsub.subset hx)
        exact ⟨a1, by omega, a3⟩
      · obtain ⟨a1, a2, a3⟩ := L.mv x hx
        exact ⟨a1, by omega, a3⟩
      · have := hsub.length_le; have := L.lw; omega
      · have := L.lv; omega
      · exact ((hsub.append (List.Sublist.refl V)).map _).nodup L.nd
      · exact (hsub.map _).nodup L.kw
theorem putS_names (g : List (Str × Bool)) (s : Str) (b : Bool) : (putS g s b).map (·.1) = g.map (·.1) := by
  unfold putS
  rw [List.map_map]
  apply List.map_congr_left
  intro p _
  show (if p.1 = s then (s, b) else p).1 = p.1
  split
  · rename_i h; exact h.symm
  · rfl
theorem look_names {g : List (Str × Bool)} {s : Str} (h : s ∈ g.map (·.1)) : (g.lookup s).isSome = true := by
  cases q : g.lookup s with
  | some v => rfl
  | none =>
    obtain ⟨p, hp, e⟩ := List.mem_map.mp h
    exact absurd e (lookup_none q p hp)
theorem reach_props {n : NetM} {gate : Str} {lim u : Int} (W : n.Wf) (B : Bnd n u lim) : ∃ s : RS, RInv n gate lim s ∧ s.wait = [] ∧ s.rows = reachRows n gate lim ∧ s.rows.length ≤ 1000001 := by
  obtain ⟨i, s, R, hnil⟩ := reach_end (gate := gate) W B
  exact ⟨s, R.inv W, hnil, R.done hnil, by have := R.rl; omega⟩
theorem reach_back {n : NetM} {gate : Str} {lim u : Int} (W : n.Wf) (B : Bnd n u lim) : BackOk (reachRows n gate lim) := by
  obtain ⟨s, I, hnil, e, hl⟩ := reach_props (gate := gate) W B
  rw [← e]
  intro k hk
  have hra : ra s.rows k = s.rows[k] := by unfold ra; rw [List.getD_eq_getElem?_getD, List.getElem?_eq_getElem hk]; rfl
  rw [← hra]
  by_cases h0 : k = 0
  · subst h0
    rw [if_pos rfl, I.r0]
    show (-1 : Int) < 0
    decide
  · rw [if_neg h0]
    obtain ⟨w, b, kk, hb, g, e2⟩ := I.row k (by omega) hk
    rw [e2, g.ge, wRow_ext]
    show 0 ≤ (b : Int) ∧ (b : Int) < k
    omega
/-- the cheapest drive from one gate to another: toll, minutes, roads -/
noncomputable def legOf (n : NetM) (one other : Str) (lim : Int) : Option (Int × Int × List Int) :=
  (leastOf (reachRows n one lim) other).map fun p => ((ra (reachRows n one lim) p).t, (ra (reachRows n one lim) p).m, roadsOf (reachRows n one lim) p)
def legD : Option (Int × Int × List Int) → Dt
  | none => .non
  | some l => .tup [.int l.1, .int l.2.1, .lst (l.2.2.map Dt.int)]
/-- what a net must be for a drive within lim -/
structure Fit (n : NetM) (lim : Int) : Prop where
  wf : n.Wf
  ll : n.lines.length ≤ 1000000
  bd : ∃ u, Bnd n u lim
def seenD (p : Int × Str) : Dt := .tup [.int p.1, .str p.2]
def passD (p : Str × Int) : Dt := .tup [.str p.1, .int p.2]
/-- what a look at the sightings finds wrong -/
def lookGo (n : NetM) : Int → List (Int × Str) → Option Str
  | _, [] => none
  | a, p :: r => if n.has p.2 = false then some "NoGate" else if p.1 < a then some "NoTime" else lookGo n p.1 r
def lookOf (n : NetM) (seen : List (Int × Str)) : Option Str := if seen = [] then some "NoSight" else lookGo n 0 seen
def passW (n : NetM) : Int → List Int → List (Str × Int)
  | _, [] => []
  | t, r :: rs => ((n.line r.toNat).2.1, t + lmin (n.line r.toNat)) :: passW n (t + lmin (n.line r.toNat)) rs
theorem passW_len (n : NetM) : ∀ t rs, (passW n t rs).length = rs.length
  | _, [] => rfl
  | t, r :: rs => by rw [passW, List.length_cons, List.length_cons, passW_len n _ rs]
/-- the time at the end of some roads -/
def timeL (n : NetM) (t : Int) (rs : List Int) : Int := t + (rs.map fun r => lmin (n.line r.toNat)).sum
theorem passW_app (n : NetM) : ∀ t rs r, passW n t (rs ++ [r]) = passW n t rs ++ [((n.line r.toNat).2.1, timeL n t rs + lmin (n.line r.toNat))]
  | t, [], r => by simp [passW, timeL]
  | t, x :: rs, r => by
    rw [List.cons_append, passW, passW, passW_app n _ rs r, List.cons_append]
    congr 3
    unfold timeL
    rw [List.map_cons, List.sum_cons]
    simp [Int.add_assoc]
def passedOf (n : NetM) (rs : List Int) (t e : Int) : List (Str × Int) := (passW n t rs).dropLast ++ [(((passW n t rs).getLast?.getD ("", 0)).1, e)]
theorem passedOf_len (n : NetM) (rs : List Int) (t e : Int) (h : rs ≠ []) : (passedOf n rs t e).length = rs.length := by
  unfold passedOf
  rw [List.length_append, List.length_dropLast, passW_len]
  have := List.length_pos_iff.mpr h
  show rs.length - 1 + 1 = _
  omega
def tmOf (seen : List (Int × Str)) (k : Nat) : Int := (seen.getD k default).1
def gtOf (seen : List (Int × Str)) (k : Nat) : Str := (seen.getD k default).2
noncomputable def legK (n : NetM) (seen : List (Int × Str)) (k : Nat) : Option (Int × Int × List Int) := legOf n (gtOf seen k) (gtOf seen (k + 1)) (tmOf seen (k + 1) - tmOf seen k)
/-- the guess behind k legs -/
noncomputable def guessK (n : NetM) (seen : List (Int × Str)) : Nat → Option (Int × List Int × List (Str × Int))
  | 0 => some (0, [], [(gtOf seen 0, tmOf seen 0)])
  | k + 1 => match guessK n seen k, legK n seen k with
    | some s, some l => some (s.1 + l.1, s.2.1 ++ l.2.2, s.2.2 ++ passedOf n l.2.2 (tmOf seen k) (tmOf seen (k + 1)))
    | _, _ => none
theorem legOf_ok {n : NetM} {one other : Str} {lim : Int} {l : Int × Int × List Int} (F : Fit n lim) (h : legOf n one other lim = some l) : l.2.2 ≠ [] ∧ ∀ r ∈ l.2.2, 0 ≤ r ∧ r < n.lines.length := by
  obtain ⟨u, hB⟩ := F.bd
  obtain ⟨s, I, hnil, es, hl⟩ := reach_props (gate := one) F.wf hB
  unfold legOf at h
  rw [← es] at h
  obtain ⟨p, hp, rfl⟩ := Option.map_eq_some_iff.mp h
  obtain ⟨p0, _, p1⟩ := leastN_lt hp
  have good : ∀ (m q : Nat), q < s.rows.length → ∀ r ∈ backRoads s.rows m q, 0 ≤ r ∧ r < n.lines.length := by
    intro m
    induction m with
    | zero => intro q _ r hr; cases hr
    | succ m ih =>
      intro q hq r hr
      unfold backRoads at hr
      by_cases h0 : q = 0
      · rw [if_pos h0] at hr; cases hr
      · rw [if_neg h0] at hr
        obtain ⟨w, b, kk, hb, g, e⟩ := I.row q (by omega) hq
        have e2 : s.rows.getD q default = wRow n w := e
        rw [e2, g.ge, wRow_ext] at hr
        rcases List.mem_cons.mp hr with rfl | hr
        · have := (mem_out g.gk).1
          show 0 ≤ (kk : Int) ∧ (kk : Int) < _
          omega
        · exact ih b (by omega) r (by simpa using hr)
  show roadsOf s.rows p ≠ [] ∧ ∀ r ∈ roadsOf s.rows p, _
  unfold roadsOf
  refine ⟨fun hn => ?_, fun r hr => good _ _ p1 r (List.mem_reverse.mp hr)⟩
  have hl0 : 0 < s.rows.length := by omega
  obtain ⟨m, hm⟩ : ∃ m, s.rows.length = m + 1 := ⟨s.rows.length - 1, by omega⟩
  rw [hm, List.reverse_eq_nil_iff] at hn
  unfold backRoads at hn
  rw [if_neg (by omega)] at hn
  cases hn
theorem lookGo_has {n : NetM} : ∀ (a : Int) (seen : List (Int × Str)), lookGo n a seen = none → ∀ p ∈ seen, n.has p.2 = true
  | _, [], _, p, hp => by cases hp
  | a, q :: r, h, p, hp => by
    rw [lookGo] at h
    by_cases h1 : n.has q.2 = false
    · rw [if_pos h1] at h; cases h
    · rw [if_neg h1] at h
      by_cases h2 : q.1 < a
      · rw [if_pos h2] at h; cases h
      · rw [if_neg h2] at h
        rcases List.mem_cons.mp hp with rfl | hp
        · simpa using h1
        · exact lookGo_has q.1 r h p hp
theorem look_has {n : NetM} {seen : List (Int × Str)} (h : lookOf n seen = none) : seen ≠ [] ∧ ∀ k, k < seen.length → n.has (gtOf seen k) = true := by
  unfold lookOf at h
  by_cases h0 : seen = []
  · rw [if_pos h0] at h; cases h
  · rw [if_neg h0] at h
    refine ⟨h0, fun k hk => ?_⟩
    have e : gtOf seen k = seen[k].2 := by unfold gtOf; rw [List.getD_eq_getElem?_getD, List.getElem?_eq_getElem hk]; rfl
    rw [e]
    exact lookGo_has 0 seen h seen[k] (List.getElem_mem _)
/-- the sightings that the laws make -/
def tm0 (ns : List Int) (u : Int) : Int := mixed ns 7 % 50 + (if mixed ns 8 % 5 = 1 then 900000000 else 0) * (if u < 100 then 1 else 0)
def stepOf (ns : List Int) (u : Int) (k : Nat) : Int := u * (mixed ns (70 + (k : Int)) / 11 % 21) + mixed ns (80 + (k : Int)) % u
def tmN (ns : List Int) (u : Int) : Nat → Int
  | 0 => tm0 ns u
  | k + 1 => tmN ns u k + stepOf ns u k
def seenN (ns : List Int) (gs : List (Str × Bool)) (u : Int) (c : Nat) : List (Int × Str) := (List.range c).map fun k : Nat => (tmN ns u k, gnm gs (mixed ns (60 + (k : Int)) % gs.length))
def seenC (ns : List Int) : Nat := (1 + mixed ns 9 % 6).toNat
def seenOf (ns : List Int) (gs : List (Str × Bool)) (u : Int) : List (Int × Str) := seenN ns gs u (seenC ns)
theorem seenC_ok (ns : List Int) : 1 ≤ seenC ns ∧ seenC ns ≤ 6 := by
  unfold seenC
  have h1 := Int.emod_nonneg (mixed ns 9) (show (6 : Int) ≠ 0 by decide)
  have h2 := Int.emod_lt_of_pos (mixed ns 9) (show (0 : Int) < 6 by decide)
  omega
theorem tm0_ok (ns : List Int) (u : Int) : 0 ≤ tm0 ns u ∧ tm0 ns u < 1000000000 := by
  unfold tm0
  have h1 := Int.emod_nonneg (mixed ns 7) (show (50 : Int) ≠ 0 by decide)
  have h2 := Int.emod_lt_of_pos (mixed ns 7) (show (0 : Int) < 50 by decide)
  split <;> split <;> omega
theorem step_ok (ns : List Int) {u : Int} (hu : 1 ≤ u) (k : Nat) : 0 ≤ stepOf ns u k ∧ stepOf ns u k / u ≤ 20 := by
  unfold stepOf
  have h1 := Int.emod_nonneg (mixed ns (70 + (k : Int)) / 11) (show (21 : Int) ≠ 0 by decide)
  have h2 := Int.emod_lt_of_pos (mixed ns (70 + (k : Int)) / 11) (show (0 : Int) < 21 by decide)
  have h3 := Int.emod_nonneg (mixed ns (80 + (k : Int))) (show u ≠ 0 by omega)
  have h4 := Int.emod_lt_of_pos (mixed ns (80 + (k : Int))) (show 0 < u by omega)
  have h5 := Int.mul_nonneg (show 0 ≤ u by omega) h1
  refine ⟨by omega, ?_⟩
  rw [Int.add_comm, Int.add_mul_ediv_left _ _ (by omega), Int.ediv_eq_zero_of_lt h3 h4]
  omega
theorem tmN_nn (ns : List Int) {u : Int} (hu : 1 ≤ u) : ∀ k, 0 ≤ tmN ns u k
  | 0 => (tm0_ok ns u).1
  | k + 1 => by
    have := tmN_nn ns hu k
    have := (step_ok ns hu k).1
    rw [tmN]; omega
theorem seen_at (ns : List Int) (gs : List (Str × Bool)) (u : Int) {k : Nat} (h : k < (seenOf ns gs u).length) : tmOf (seenOf ns gs u) k = tmN ns u k ∧ gtOf (seenOf ns gs u) k = gnm gs (mixed ns (60 + (k : Int)) % gs.length) := by
  unfold tmOf gtOf seenOf seenN at *
  rw [List.length_map, List.length_range] at h
  rw [List.getD_eq_getElem?_getD, List.getElem?_map, List.getElem?_range h]
  exact ⟨rfl, rfl⟩
theorem seen_len (ns : List Int) (gs : List (Str × Bool)) (u : Int) : (seenOf ns gs u).length = seenC ns := by
  unfold seenOf seenN
  rw [List.length_map, List.length_range]
theorem seen_look (ns : List Int) {gs : List (Str × Bool)} {u : Int} (n : NetM) (hu : 1 ≤ u) (hg : 2 ≤ gs.length) (hh : ∀ s ∈ gs.map (·.1), n.has s = true) : lookOf n (seenOf ns gs u) = none := by
  have hc := seenC_ok ns
  unfold lookOf
  rw [if_neg (fun e => by have := seen_len ns gs u; rw [e] at this; simp at this; omega)]
  have gen : ∀ (l : List Nat) (a : Int), (∀ k ∈ l.head?, a ≤ tmN ns u k) → l.Pairwise (fun i j => tmN ns u i ≤ tmN ns u j) → lookGo n a (l.map fun k : Nat => (tmN ns u k, gnm gs (mixed ns (60 + (k : Int)) % gs.length))) = none := by
    intro l
    induction l with
    | nil => intro a _ _; rfl
    | cons k r ih =>
      intro a h1 h2
      rw [List.map_cons, lookGo]
      have m1 := Int.emod_nonneg (mixed ns (60 + (k : Int))) (show (gs.length : Int) ≠ 0 by omega)
      have m2 := Int.emod_lt_of_pos (mixed ns (60 + (k : Int))) (show (0 : Int) < gs.length by omega)
      rw [if_neg (by rw [hh _ (gnm_mem m1 m2)]; exact Bool.noConfusion)]
      have := h1 k rfl
      rw [if_neg (by show ¬ tmN ns u k < a; omega)]
      rw [List.pairwise_cons] at h2
      apply ih
      · intro j hj
        exact h2.1 j (List.mem_of_mem_head? hj)
      · exact h2.2
  have mono : ∀ i j, i ≤ j → tmN ns u i ≤ tmN ns u j := by
    intro i j h
    induction j with
    | zero => have : i = 0 := by omega
              subst this; exact Int.le_refl _
    | succ j ih =>
      by_cases e : i = j + 1
      · subst e; exact Int.le_refl _
      · have h1 := ih (by omega)
        have h2 := (step_ok ns hu j).1
        rw [tmN]; omega
  unfold seenOf seenN
  apply gen
  · intro k _
    exact tmN_nn ns hu k
  · exact List.Pairwise.imp (fun h => mono _ _ (Nat.le_of_lt h)) List.pairwise_lt_range
theorem fit_net {gs : List (Str × Bool)} {ls : List LineT} {u lim : Int} (W : WdOk gs ls u) (h0 : 0 ≤ lim) (h1 : lim / u ≤ 100) : Fit (netOf gs ls) lim where
  wf := wf_net W.to1
  ll := by rw [len_net]; have := W.ll; omega
  bd := ⟨u, bnd_net W h0 h1⟩
theorem seen_diff (ns : List Int) (gs : List (Str × Bool)) {u : Int} (hu : 1 ≤ u) {k : Nat} (h : k + 1 < (seenOf ns gs u).length) : 0 ≤ tmOf (seenOf ns gs u) (k + 1) - tmOf (seenOf ns gs u) k ∧ (tmOf (seenOf ns gs u) (k + 1) - tmOf (seenOf ns gs u) k) / u ≤ 20 := by
  rw [(seen_at ns gs u h).1, (seen_at ns gs u (by omega : k < _)).1, tmN]
  have := step_ok ns hu k
  rw [show tmN ns u k + stepOf ns u k - tmN ns u k = stepOf ns u k by omega]
  exact this
/-! deeds of a net -/
inductive Deed where
  | gate (n : Str) (b : Bool)
  | road (a b : Str) (m t : Int)
  | turn (n : Str) (b : Bool)
  | shut (i : Int) (o : Bool)
def deedD : Deed → Dt
  | .gate n b => .tup [.str "gate", .str n, .bl b]
  | .road a b m t => .tup [.str "road", .str a, .str b, .int m, .int t]
  | .turn n false => .tup [.str "blind", .str n]
  | .turn n true => .tup [.str "mend", .str n]
  | .shut i false => .tup [.str "close", .int i]
  | .shut i true => .tup [.str "reopen", .int i]
def GoodN (n : Str) : Prop := isNm n = true ∧ PyData.strOk n = true ∧ n.length ≤ 10000000
def GoodD : Deed → Prop
  | .gate n _ => GoodN n
  | .road a b _ _ => GoodN a ∧ GoodN b
  | .turn n _ => GoodN n
  | .shut _ _ => True
def refOf (gs : List (Str × Bool)) (ls : List LineT) : Deed → Option Str
  | .gate n _ => if (gs.lookup n).isSome = true then some "SameGate" else if 60 ≤ gs.length then some "FullNet" else none
  | .road a b m t => if ¬((gs.lookup a).isSome = true ∧ (gs.lookup b).isSome = true) then some "NoGate" else if a = b then some "SameGate" else if ¬((1 ≤ m ∧ m ≤ 1000000) ∧ 0 ≤ t ∧ t ≤ 1000000) then some "NoNumber" else if 200 ≤ ls.length then some "FullNet" else none
  | .turn n b => match gs.lookup n with
    | none => some "NoGate"
    | some v => if v = b then some "Already" else none
  | .shut i o => if ¬(0 ≤ i ∧ i < ls.length) then some "NoRoad" else if (ls.getD i.toNat default).o = o then some "Already" else none
def CloRel (cl : List Int) (ls : List LineT) : Prop := ∀ i : Int, i ∈ cl ↔ (0 ≤ i ∧ i < ls.length ∧ (ls.getD i.toNat default).o = false)
def cloAfter (cl : List Int) (i : Int) : Bool → List Int
  | false => cl ++ [i]
  | true => cl.filter fun k => decide (k ≠ i)
theorem drop_closed (cl : List Int) (i : Int) : dropD (closedK cl) (Sum.inl i) = closedK (cl.filter fun k => decide (k ≠ i)) := by
  unfold dropD closedK
  rw [List.filter_map]
  congr 1
  apply List.filter_congr
  intro k _
  simp
theorem look_at : ∀ {gs : List (Str × Bool)} {n : Str} {v : Bool}, gs.lookup n = some v → ∃ i, (gs.map (·.1)).findIdx? (fun z => decide (z = n)) = some i ∧ gs[i]? = some (n, v)
  | [], n, v, h => by cases h
  | (q, b) :: r, n, v, h => by
    by_cases e : q = n
    · subst e
      rw [List.lookup_cons_self] at h
      cases h
      exact ⟨0, by rw [List.map_cons, List.findIdx?_cons]; simp, rfl⟩
    · rw [List.lookup_cons, show (n == q) = false by simpa using fun z => e z.symm] at h
      obtain ⟨i, h1, h2⟩ := look_at (gs := r) h
      refine ⟨i + 1, ?_, h2⟩
      rw [List.map_cons, List.findIdx?_cons, if_neg (by simpa using e), h1]; rfl
theorem mem_look {gs : List (Str × Bool)} {n : Str} : n ∈ gs.map (·.1) ↔ (gs.lookup n).isSome = true := by
  constructor
  · exact look_mem
  · intro h
    obtain ⟨v, hv⟩ := Option.isSome_iff_exists.mp h
    obtain ⟨i, _, h2⟩ := look_at hv
    exact List.mem_map.mpr ⟨_, List.mem_of_getElem? h2, rfl⟩
theorem dec_look {gs : List (Str × Bool)} {n : Str} : decide (n ∈ gs.map (·.1)) = (gs.lookup n).isSome := by
  cases h : (gs.lookup n).isSome with
  | true => exact decide_eq_true (mem_look.mpr h)
  | false => exact decide_eq_false fun z => by rw [mem_look.mp z] at h; cases h
def refL (gs : List (Str × Bool)) (ls : List LineT) (dd : Deed) : List Dt := match refOf gs ls dd with
  | none => []
  | some c => [.str c]
theorem rep_one (b : Bool) (d : Dt) : (List.replicate (if b = true then (1 : Int) else 0).toNat [d]).flatten = if b = true then [d] else [] := by
  cases b <;> rfl
def wordOf : Deed → Str
  | .gate _ _ => "gate"
  | .road _ _ _ _ => "road"
  | .turn _ false => "blind"
  | .turn _ true => "mend"
  | .shut _ false => "close"
  | .shut _ true => "reopen"
theorem deed_0 (dd : Deed) : ∃ r, deedD dd = .tup (.str (wordOf dd) :: r) := by
  cases dd with
  | gate n b => exact ⟨_, rfl⟩
  | road a b m t => exact ⟨_, rfl⟩
  | turn n b => cases b <;> exact ⟨_, rfl⟩
  | shut i o => cases o <;> exact ⟨_, rfl⟩
abbrev OG := List (Addr × Str × Bool)
abbrev OL := List (Addr × LineT)
def gsO (G : OG) : List (Str × Bool) := G.map (·.2)
def lsO (L : OL) : List LineT := L.map (·.2)
def obG (G : OG) : List Dt := G.map fun e => Dt.ob e.1
def obL (L : OL) : List Dt := L.map fun e => Dt.ob e.1
def gCell (e : Addr × Str × Bool) : Addr × Ow := (e.1, .lst [.str e.2.1, .bl e.2.2])
def lCell (e : Addr × LineT) : Addr × Ow := (e.1, .lst (llDs e.2))
/-- where the plain account of a net stands -/
structure OSt (M : Sto) (jg jl : Nat) (gA lA : Addr) (G : OG) (L : OL) : Prop where
  g : M[jg]? = some (gA, .lst (obG G))
  l : M[jl]? = some (lA, .lst (obL L))
  cg : ∀ e ∈ G, gCell e ∈ M
  cl : ∀ e ∈ L, lCell e ∈ M
  ng : G.length ≤ 1000
  nl : L.length ≤ 1000
theorem good_name {b t : Int} (h0 : 0 ≤ t) (h1 : t < 61) : GoodN (nameOf b t) := by
  refine ⟨name_nm h0 h1, nameOf_ok _ _, ?_⟩
  have hnm := name_nm (b := b) h0 h1
  unfold isNm at hnm
  rw [Bool.and_eq_true_iff, Bool.and_eq_true_iff, Bool.and_eq_true_iff] at hnm
  have := of_decide_eq_true hnm.1.1.2
  omega
def cellsO (G : OG) (L : OL) : Sto := G.map gCell ++ L.map lCell
/-- the cells of both plain accounts -/
structure LA (dyn : Sto) (G : OG) (L : OL) (G2 : OG) (L2 : OL) : Prop where
  mem : ∀ p ∈ cellsO G L ++ cellsO G2 L2, p ∈ dyn
  nd : ((cellsO G L ++ cellsO G2 L2).map (·.1)).Nodup
theorem LA.symm {dyn : Sto} {G G2 : OG} {L L2 : OL} (A : LA dyn G L G2 L2) : LA dyn G2 L2 G L :=
  ⟨fun p hp => A.mem p (List.mem_append.mpr (List.mem_append.mp hp).symm), (List.Perm.nodup_iff (List.Perm.map _ List.perm_append_comm)).mp A.nd⟩
structure LB (G : OG) (L : OL) (cl : List Int) (i : Nat) : Prop where
  ng : ∀ e ∈ G, PyData.strOk e.2.1 = true
  nl : ∀ e ∈ L, PyData.strOk e.2.a = true ∧ PyData.strOk e.2.b = true
  nn : ((gsO G).map (·.1)).Nodup
  clo : CloRel cl (lsO L)
  lg : G.length ≤ 60
  ll : L.length ≤ 200
  lc : cl.length ≤ i
theorem LB.mono {G : OG} {L : OL} {cl : List Int} {i j : Nat} (h : LB G L cl i) (hij : i ≤ j) : LB G L cl j := ⟨h.ng, h.nl, h.nn, h.clo, h.lg, h.ll, by have := h.lc; omega⟩
def gsAft (gs : List (Str × Bool)) : Deed → List (Str × Bool)
  | .gate n b => gs ++ [(n, b)]
  | .turn n b => putS gs n b
  | _ => gs
def lsAft (ls : List LineT) : Deed → List LineT
  | .road a b m t => ls ++ [⟨a, b, m, t, true⟩]
  | .shut i o => ls.set i.toNat { ls.getD i.toNat default with o := o }
  | _ => ls
def valAft (ls : List LineT) : Deed → Dt
  | .road _ _ _ _ => .int (ls.length : Int)
  | _ => .non
/-- the cells behind what a net does -/
def triedM (M : Sto) (j1 j2 j3 : Nat) (d1 l d2 : Addr) (gs : List (Str × Bool)) (ls : List LineT) (cl : List Int) : Deed → Sto
  | .gate n b => M.set j1 (d1, .dct (sightK (gs ++ [(n, b)])))
  | .road a b m t => M.set j2 (l, .lst (((ls.map lineQ) ++ [(a, b, m, t)]).map lineD))
  | .turn n b => M.set j1 (d1, .dct (sightK (putS gs n b)))
  | .shut i o => M.set j3 (d2, .dct (closedK (cloAfter cl i o)))
/-- the cells behind what the plain account does -/
inductive DStep (M : Sto) (jg jl : Nat) (gA lA : Addr) (G : OG) (L : OL) : Deed → Sto → Prop
  | gate (n : Str) (b : Bool) (p : Addr) : DStep M jg jl gA lA G L (.gate n b) ((p, .lst [.str n, .bl b]) :: M.set jg (gA, .lst (obG (G ++ [(p, n, b)]))))
  | road (a b : Str) (m t : Int) (p : Addr) : DStep M jg jl gA lA G L (.road a b m t) ((p, .lst (llDs ⟨a, b, m, t, true⟩)) :: M.set jl (lA, .lst (obL (L ++ [(p, ⟨a, b, m, t, true⟩)]))))
  | turn (n : Str) (b : Bool) (e : Addr × Str × Bool) (i : Nat) : e ∈ G → e.2.1 = n → M[i]? = some (gCell e) → DStep M jg jl gA lA G L (.turn n b) (M.set i (gCell (e.1, n, b)))
  | shut (i : Int) (o : Bool) (e : Addr × LineT) (j : Nat) : L[i.toNat]? = some e → M[j]? = some (lCell e) → DStep M jg jl gA lA G L (.shut i o) (M.set j (lCell (e.1, { e.2 with o := o })))
def base5 (base : Sto) (j1 j2 j3 jg jl : Nat) (d1 l d2 gA lA : Addr) (G : OG) (L : OL) (cl : List Int) : Sto :=
  ((((base.set j1 (d1, .dct (sightK (gsO G)))).set j2 (l, .lst (((lsO L).map lineQ).map lineD))).set j3 (d2, .dct (closedK cl))).set jg (gA, .lst (obG G))).set jl (lA, .lst (obL L))
theorem get_set_ne {M : Sto} {i j : Nat} {p : Addr × Ow} (h : i ≠ j) : (M.set i p)[j]? = M[j]? := by rw [List.getElem?_set, if_neg h]
/-- where the net and its plain account stand -/
structure At5 (base : Sto) (j1 j2 j3 jg jl : Nat) (d1 l d2 gA lA : Addr) (G : OG) (L : OL) (cl : List Int) : Prop where
  h1 : base[j1]? = some (d1, .dct (sightK (gsO G)))
  h2 : base[j2]? = some (l, .lst (((lsO L).map lineQ).map lineD))
  h3 : base[j3]? = some (d2, .dct (closedK cl))
  hg : base[jg]? = some (gA, .lst (obG G))
  hl : base[jl]? = some (lA, .lst (obL L))
  ne : j1 ≠ j2 ∧ j1 ≠ j3 ∧ j1 ≠ jg ∧ j1 ≠ jl ∧ j2 ≠ j3 ∧ j2 ≠ jg ∧ j2 ≠ jl ∧ j3 ≠ jg ∧ j3 ≠ jl ∧ jg ≠ jl
theorem nodup_cells {G G2 : OG} {L L2 : OL} {p : Addr × Ow} {X : Sto} (h : X.Perm (p :: (cellsO G L ++ cellsO G2 L2))) (nd : ((cellsO G L ++ cellsO G2 L2).map (·.1)).Nodup) (hf : ∀ q ∈ cellsO G L ++ cellsO G2 L2, q.1 ≠ p.1) : (X.map (·.1)).Nodup := by
  rw [List.Perm.nodup_iff (h.map _), List.map_cons]
  refine List.nodup_cons.mpr ⟨fun z => ?_, nd⟩
  obtain ⟨q, hq, e⟩ := List.mem_map.mp z
  exact hf q hq e
theorem clo_road {cl : List Int} {ls : List LineT} {l : LineT} (h : CloRel cl ls) (ho : l.o = true) : CloRel cl (ls ++ [l]) := fun i => by
  rw [h i]
  constructor
  · rintro ⟨a, b, c⟩
    refine ⟨a, by rw [List.length_append]; omega, ?_⟩
    rw [List.getD_eq_getElem?_getD, List.getElem?_append_left (by omega), ← List.getD_eq_getElem?_getD]
    exact c
  · rintro ⟨a, b, c⟩
    rw [List.length_append, List.length_singleton] at b
    by_cases q : i < ls.length
    · rw [List.getD_eq_getElem?_getD, List.getElem?_append_left (by omega), ← List.getD_eq_getElem?_getD] at c
      exact ⟨a, q, c⟩
    · exfalso
      rw [List.getD_eq_getElem?_getD, List.getElem?_append_right (by omega), show i.toNat - ls.length = 0 by omega] at c
      have c' : l.o = false := c
      rw [ho] at c'; cases c'
theorem clo_shut {cl : List Int} {ls : List LineT} {i : Int} {o : Bool} (h : CloRel cl ls) (h0 : 0 ≤ i) (h1 : i < ls.length) (hne : (ls.getD i.toNat default).o ≠ o) : CloRel (cloAfter cl i o) (lsAft ls (.shut i o)) := fun k => by
  have hlen : (lsAft ls (.shut i o)).length = ls.length := List.length_set
  have hget : ∀ k : Int, 0 ≤ k → k < ls.length → ((lsAft ls (.shut i o)).getD k.toNat default).o = if k = i then o else (ls.getD k.toNat default).o := fun k k0 k1 => by
    show ((ls.set i.toNat { ls.getD i.toNat default with o := o }).getD k.toNat default).o = _
    rw [List.getD_eq_getElem?_getD, List.getElem?_set]
    by_cases q : k = i
    · subst q
      rw [if_pos rfl, if_pos (by omega), if_pos rfl]; rfl
    · rw [if_neg (by omega), if_neg q, ← List.getD_eq_getElem?_getD]
  rw [hlen]
  cases o with
  | false =>
    show k ∈ cl ++ [i] ↔ _
    rw [List.mem_append, List.mem_singleton, h k]
    constructor
    · rintro (⟨a, b, c⟩ | rfl)
      · refine ⟨a, b, ?_⟩
        rw [hget k a b]
        split
        · rfl
        · exact c
      · exact ⟨h0, h1, by rw [hget k h0 h1, if_pos rfl]⟩
    · rintro ⟨a, b, c⟩
      rw [hget k a b] at c
      by_cases q : k = i
      · exact .inr q
      · rw [if_neg q] at c; exact .inl ⟨a, b, c⟩
  | true =>
    show k ∈ cl.filter (fun j => decide (j ≠ i)) ↔ _
    rw [List.mem_filter, h k]
    constructor
    · rintro ⟨⟨a, b, c⟩, q⟩
      have q' : k ≠ i := of_decide_eq_true q
      exact ⟨a, b, by rw [hget k a b, if_neg q']; exact c⟩
    · rintro ⟨a, b, c⟩
      rw [hget k a b] at c
      by_cases q : k = i
      · rw [if_pos q] at c; cases c
      · rw [if_neg q] at c; exact ⟨⟨a, b, c⟩, decide_eq_true q⟩
theorem deed_core {dyn base M2 : Sto} {j1 j2 j3 jg jl i : Nat} {d1 l d2 gA lA : Addr} {G G2 : OG} {L L2 : OL} {cl : List Int} {dd : Deed} (A : LA dyn G L G2 L2) (Bb : LB G L cl i) (H : At5 base j1 j2 j3 jg jl d1 l d2 gA lA G L cl) (nd : ((dyn ++ base).map (·.1)).Nodup)
    (href : refOf (gsO G) (lsO L) dd = none) (hgd : GoodD dd) (hst : DStep (triedM (dyn ++ base) (dyn.length + j1) (dyn.length + j2) (dyn.length + j3) d1 l d2 (gsO G) (lsO L) cl dd) (dyn.length + jg) (dyn.length + jl) gA lA G L dd M2) (nd2 : (M2.map (·.1)).Nodup) :
    ∃ dyn' G' L' cl', M2 = dyn' ++ base5 base j1 j2 j3 jg jl d1 l d2 gA lA G' L' cl' ∧ LA dyn' G' L' G2 L2 ∧ LB G' L' cl' (i + 1) ∧ gsO G' = gsAft (gsO G) dd ∧ lsO L' = lsAft (lsO L) dd := by
  obtain ⟨n12, n13, n1g, n1l, n23, n2g, n2l, n3g, n3l, ngl⟩ := H.ne
  have hfresh : ∀ {p : Addr} {o : Ow} {X Y : Sto}, ((((p, o) :: (X ++ Y)) : Sto).map (·.1)).Nodup → (∀ q, q ∈ X ↔ q ∈ dyn) → ∀ q ∈ cellsO G L ++ cellsO G2 L2, q.1 ≠ p := fun h hX q hq z => by
    rw [List.map_cons] at h
    exact (List.nodup_cons.mp h).1 (by
      rw [List.map_append]
      exact List.mem_append_left _ (List.mem_map.mpr ⟨q, (hX q).mpr (A.mem q hq), z⟩))
  cases hst with
  | gate n b p =>
    rw [triedM, set_app, set_app] at nd2 ⊢
    have hf := hfresh nd2 (fun _ => Iff.rfl)
    have hnew : (gsO G).lookup n = none := by
      cases q : (gsO G).lookup n with
      | none => rfl
      | some v => unfold refOf at href; dsimp only at href; rw [q, if_pos (show (some v).isSome = true from rfl)] at href; cases href
    have h60 : G.length < 60 := by
      unfold refOf at href
      dsimp only at href
      rw [if_neg (by rw [hnew]; exact Bool.noConfusion)] at href
      by_cases q : 60 ≤ (gsO G).length
      · rw [if_pos q] at href; cases href
      · unfold gsO at q; rw [List.length_map] at q; omega
    have eG : gsO (G ++ [(p, n, b)]) = gsO G ++ [(n, b)] := by unfold gsO; rw [List.map_append]; rfl
    refine ⟨(p, .lst [.str n, .bl b]) :: dyn, G ++ [(p, n, b)], L, cl, ?_, ⟨fun q hq => ?_, ?_⟩, ⟨fun e he => ?_, Bb.nl, ?_, Bb.clo, ?_, Bb.ll, by have := Bb.lc; omega⟩, eG, rfl⟩
    · unfold base5
      rw [eG]
      rw [set_self (M := base.set j1 (d1, .dct (sightK (gsO G ++ [(n, b)])))) (k := j2) (by rw [get_set_ne n12]; exact H.h2),
        set_self (M := base.set j1 (d1, .dct (sightK (gsO G ++ [(n, b)])))) (k := j3) (by rw [get_set_ne n13]; exact H.h3),
        set_self (k := jl) (by rw [get_set_ne ngl, get_set_ne n1l]; exact H.hl)]
      rfl
    · unfold cellsO at hq
      rw [List.map_append] at hq
      rcases List.mem_append.mp hq with h | h
      · rcases List.mem_append.mp h with h | h
        · rcases List.mem_append.mp h with h | h
          · exact List.mem_cons_of_mem _ (A.mem q (List.mem_append_left _ (List.mem_append_left _ h)))
          · rw [List.mem_singleton.mp h]; exact List.mem_cons_self
        · exact List.mem_cons_of_mem _ (A.mem q (List.mem_append_left _ (List.mem_append_right _ h)))
      · exact List.mem_cons_of_mem _ (A.mem q (List.mem_append_right _ h))
    · refine nodup_cells (p := gCell (p, n, b)) ?_ A.nd hf
      unfold cellsO
      simp only [List.map_append, List.append_assoc]
      exact List.perm_middle
    · rcases List.mem_append.mp he with h | h
      · exact Bb.ng e h
      · rw [List.mem_singleton.mp h]; exact hgd.2.1
    · rw [eG, List.map_append]
      refine List.nodup_append.mpr ⟨Bb.nn, by simp, fun x hx y hy z => ?_⟩
      rw [List.mem_singleton.mp hy] at z
      obtain ⟨e, he, rfl⟩ := List.mem_map.mp hx
      exact lookup_none hnew e he z
    · rw [List.length_append, List.length_singleton]; omega
  | road a b m t p =>
    rw [triedM, set_app, set_app] at nd2 ⊢
    have hf := hfresh nd2 (fun _ => Iff.rfl)
    have h200 : L.length < 200 := by
      unfold refOf at href
      dsimp only at href
      split at href
      · cases href
      · split at href
        · cases href
        · split at href
          · cases href
          · split at href
            · cases href
            · rename_i q
              unfold lsO at q; rw [List.length_map] at q; omega
    have eL : lsO (L ++ [(p, ⟨a, b, m, t, true⟩)]) = lsO L ++ [⟨a, b, m, t, true⟩] := by unfold lsO; rw [List.map_append]; rfl
    have eQ : (lsO (L ++ [(p, (⟨a, b, m, t, true⟩ : LineT))])).map lineQ = (lsO L).map lineQ ++ [(a, b, m, t)] := by rw [eL, List.map_append]; rfl
    refine ⟨(p, .lst (llDs ⟨a, b, m, t, true⟩)) :: dyn, G, L ++ [(p, ⟨a, b, m, t, true⟩)], cl, ?_, ⟨fun q hq => ?_, ?_⟩, ⟨Bb.ng, fun e he => ?_, Bb.nn, ?_, Bb.lg, ?_, by have := Bb.lc; omega⟩, rfl, eL⟩
    · unfold base5
      rw [eQ, set_self (M := base) (k := j1) H.h1]
      rw [set_self (M := base.set j2 _) (k := j3) (by rw [get_set_ne n23]; exact H.h3),
        set_self (M := base.set j2 _) (k := jg) (by rw [get_set_ne n2g]; exact H.hg)]
      rfl
    · unfold cellsO at hq
      rw [List.map_append (l₁ := L)] at hq
      rcases List.mem_append.mp hq with h | h
      · rcases List.mem_append.mp h with h | h
        · exact List.mem_cons_of_mem _ (A.mem q (List.mem_append_left _ (List.mem_append_left _ h)))
        · rcases List.mem_append.mp h with h | h
          · exact List.mem_cons_of_mem _ (A.mem q (List.mem_append_left _ (List.mem_append_right _ h)))
          · rw [List.mem_singleton.mp h]; exact List.mem_cons_self
      · exact List.mem_cons_of_mem _ (A.mem q (List.mem_append_right _ h))
    · refine nodup_cells (p := lCell (p, ⟨a, b, m, t, true⟩)) ?_ A.nd hf
      unfold cellsO
      have := List.perm_middle (a := lCell (p, (⟨a, b, m, t, true⟩ : LineT))) (l₁ := G.map gCell ++ L.map lCell) (l₂ := G2.map gCell ++ L2.map lCell)
      simp only [List.map_append, List.append_assoc] at this ⊢
      exact this
    · rcases List.mem_append.mp he with h | h
      · exact Bb.nl e h
      · rw [List.mem_singleton.mp h]; exact ⟨hgd.1.2.1, hgd.2.2.1⟩
    · rw [eL]; exact clo_road Bb.clo rfl
    · rw [List.length_append, List.length_singleton]; omega
  | turn n b e k he hn hk =>
    have nd1 : ((triedM (dyn ++ base) (dyn.length + j1) (dyn.length + j2) (dyn.length + j3) d1 l d2 (gsO G) (lsO L) cl (.turn n b)).map (·.1)).Nodup := by
      rw [triedM, Vl.nd_set (by rw [get_app]; exact H.h1)]
      exact nd
    have hce : gCell e ∈ cellsO G L ++ cellsO G2 L2 := List.mem_append_left _ (List.mem_append_left _ (List.mem_map.mpr ⟨e, he, rfl⟩))
    obtain ⟨k', hk'⟩ := List.getElem?_of_mem (A.mem _ hce)
    have hk'l := (List.getElem?_eq_some_iff.mp hk').1
    have ekk : k = k' := at_uniq nd1 hk (by rw [triedM, set_app, List.getElem?_append_left hk'l]; exact hk') rfl
    subst ekk
    have keep : ∀ q ∈ cellsO G L ++ cellsO G2 L2, q ≠ gCell e → q ∈ dyn.set k (gCell (e.1, n, b)) := fun q hq hne => mem_set_ne hk' (A.mem q hq) fun z => hne (nodup_inj A.nd hq hce z)
    have hinj : ∀ x ∈ G, x.2.1 = n → x = e := fun x hx hxn => nodup_inj (f := fun e : Addr × Str × Bool => e.2.1) (by
      have := Bb.nn
      unfold gsO at this
      rw [List.map_map] at this
      exact this) hx he (hxn.trans hn.symm)
    obtain ⟨G', hG'⟩ : ∃ G' : OG, G' = G.map fun x => if x.2.1 = n then (x.1, n, b) else x := ⟨_, rfl⟩
    have eG : gsO G' = putS (gsO G) n b := by
      subst hG'
      unfold gsO putS
      rw [List.map_map, List.map_map]
      apply List.map_congr_left
      intro x _
      show (if x.2.1 = n then (x.1, n, b) else x).2 = if x.2.1 = n then (n, b) else x.2
      split <;> rfl
    have eO : obG G' = obG G := by
      subst hG'
      unfold obG
      rw [List.map_map]
      apply List.map_congr_left
      intro x _
      show Dt.ob (if x.2.1 = n then (x.1, n, b) else x).1 = _
      split <;> rfl
    have eN : (gsO G').map (·.1) = (gsO G).map (·.1) := by rw [eG, putS_names]
    have memG : ∀ x ∈ G', x = (e.1, n, b) ∨ (x ∈ G ∧ x ≠ e) := fun x hx => by
      subst hG'
      obtain ⟨y, hy, rfl⟩ := List.mem_map.mp hx
      by_cases q : y.2.1 = n
      · left; rw [if_pos q, hinj y hy q]
      · right; rw [if_neg q]; exact ⟨hy, fun z => q (by rw [z]; exact hn)⟩
    have aG : (G'.map gCell).map (·.1) = (G.map gCell).map (·.1) := by
      subst hG'
      rw [List.map_map, List.map_map, List.map_map]
      apply List.map_congr_left
      intro x _
      show (if x.2.1 = n then (x.1, n, b) else x).1 = x.1
      split <;> rfl
    have gne : ∀ {x : Addr × Str × Bool}, x ≠ e → gCell x ≠ gCell e := fun {x} h z => h (by
      obtain ⟨a1, a2, a3⟩ := x
      obtain ⟨b1, b2, b3⟩ := e
      unfold gCell at z
      simp at z
      obtain ⟨z1, z2, z3⟩ := z
      rw [z1, z2, z3])
    have other : ∀ q ∈ L.map lCell ++ cellsO G2 L2, q ≠ gCell e := fun q hq z => by
      have nd' := A.nd
      unfold cellsO at nd'
      rw [List.append_assoc, List.map_append] at nd'
      exact (List.nodup_append.mp nd').2.2 _ (List.mem_map.mpr ⟨gCell e, List.mem_map.mpr ⟨e, he, rfl⟩, rfl⟩) _ (List.mem_map.mpr ⟨q, hq, rfl⟩) (by rw [z])
    refine ⟨dyn.set k (gCell (e.1, n, b)), G', L, cl, ?_, ⟨fun q hq => ?_, ?_⟩, ⟨fun x hx => ?_, Bb.nl, by rw [eN]; exact Bb.nn, Bb.clo, ?_, Bb.ll, by have := Bb.lc; omega⟩, eG, rfl⟩
    · rw [triedM, set_app, List.set_append_left _ _ hk'l]
      unfold base5
      rw [eG, eO]
      rw [set_self (M := base.set j1 _) (k := j2) (by rw [get_set_ne n12]; exact H.h2),
        set_self (M := base.set j1 _) (k := j3) (by rw [get_set_ne n13]; exact H.h3),
        set_self (M := base.set j1 _) (k := jg) (by rw [get_set_ne n1g]; exact H.hg),
        set_self (M := base.set j1 _) (k := jl) (by rw [get_set_ne n1l]; exact H.hl)]
    · unfold cellsO at hq
      rw [List.append_assoc] at hq
      rcases List.mem_append.mp hq with h | h
      · obtain ⟨x, hx, rfl⟩ := List.mem_map.mp h
        rcases memG x hx with rfl | ⟨hx1, hx2⟩
        · exact mem_set_self hk'
        · exact keep _ (List.mem_append_left _ (List.mem_append_left _ (List.mem_map.mpr ⟨x, hx1, rfl⟩))) (gne hx2)
      · refine keep q ?_ (other q h)
        unfold cellsO
        rw [List.append_assoc]
        exact List.mem_append_right _ h
    · have nd' := A.nd
      unfold cellsO at nd' ⊢
      rw [List.append_assoc, List.map_append] at nd' ⊢
      rw [aG]; exact nd'
    · rcases memG x hx with rfl | ⟨hx1, hx2⟩
      · exact hgd.2.1
      · exact Bb.ng x hx1
    · subst hG'; rw [List.length_map]; exact Bb.lg
  | shut i0 o e k he hk =>
    have hem := List.mem_of_getElem? he
    have nd1 : ((triedM (dyn ++ base) (dyn.length + j1) (dyn.length + j2) (dyn.length + j3) d1 l d2 (gsO G) (lsO L) cl (.shut i0 o)).map (·.1)).Nodup := by
      rw [triedM, Vl.nd_set (by rw [get_app]; exact H.h3)]
      exact nd
    have hce : lCell e ∈ cellsO G L ++ cellsO G2 L2 := List.mem_append_left _ (List.mem_append_right _ (List.mem_map.mpr ⟨e, hem, rfl⟩))
    obtain ⟨k', hk'⟩ := List.getElem?_of_mem (A.mem _ hce)
    have hk'l := (List.getElem?_eq_some_iff.mp hk').1
    have ekk : k = k' := at_uniq nd1 hk (by rw [triedM, set_app, List.getElem?_append_left hk'l]; exact hk') rfl
    subst ekk
    have keep : ∀ q ∈ cellsO G L ++ cellsO G2 L2, q.1 ≠ e.1 → q ∈ dyn.set k (lCell (e.1, { e.2 with o := o })) := fun q hq hne => mem_set_ne hk' (A.mem q hq) hne
    have hil := (List.getElem?_eq_some_iff.mp he).1
    have hlen : (lsO L).length = L.length := List.length_map _
    have hr : 0 ≤ i0 ∧ i0 < (lsO L).length ∧ ((lsO L).getD i0.toNat default).o ≠ o := by
      unfold refOf at href
      dsimp only at href
      by_cases q : 0 ≤ i0 ∧ i0 < (lsO L).length
      · rw [if_neg (fun z => z q)] at href
        by_cases q2 : ((lsO L).getD i0.toNat default).o = o
        · rw [if_pos q2] at href; cases href
        · exact ⟨q.1, q.2, q2⟩
      · rw [if_pos q] at href; cases href
    have egd : (lsO L).getD i0.toNat default = e.2 := by
      unfold lsO
      rw [List.getD_eq_getElem?_getD, List.getElem?_map, he]; rfl
    obtain ⟨L', hL'⟩ : ∃ L' : OL, L' = L.set i0.toNat (e.1, { e.2 with o := o }) := ⟨_, rfl⟩
    have eL : lsO L' = lsAft (lsO L) (.shut i0 o) := by
      subst hL'
      show (L.set i0.toNat (e.1, { e.2 with o := o })).map (·.2) = (lsO L).set i0.toNat { (lsO L).getD i0.toNat default with o := o }
      rw [egd, List.map_set]; rfl
    have eO : obL L' = obL L := by
      subst hL'
      unfold obL
      rw [List.map_set]
      apply List.ext_getElem?
      intro x
      rw [List.getElem?_set]
      by_cases q : i0.toNat = x
      · subst q
        rw [if_pos rfl, if_pos (by rw [List.length_map]; exact hil), List.getElem?_map, he]; rfl
      · rw [if_neg q]
    have eQ : (lsO L').map lineQ = (lsO L).map lineQ := by
      rw [eL]
      show ((lsO L).set i0.toNat { (lsO L).getD i0.toNat default with o := o }).map lineQ = _
      rw [List.map_set]
      apply List.ext_getElem?
      intro x
      rw [List.getElem?_set]
      by_cases q : i0.toNat = x
      · subst q
        rw [if_pos rfl, if_pos (by rw [List.length_map]; omega), List.getElem?_map, List.getElem?_eq_getElem (show i0.toNat < (lsO L).length by omega), List.getD_eq_getElem?_getD, List.getElem?_eq_getElem (show i0.toNat < (lsO L).length by omega)]; rfl
      · rw [if_neg q]
    have aL : (L'.map lCell).map (·.1) = (L.map lCell).map (·.1) := by
      have h1 : ∀ X : OL, (X.map lCell).map (·.1) = X.map (·.1) := fun X => by rw [List.map_map]; rfl
      rw [h1, h1]
      subst hL'
      rw [List.map_set]
      apply List.ext_getElem?
      intro x
      rw [List.getElem?_set]
      by_cases q : i0.toNat = x
      · subst q
        rw [if_pos rfl, if_pos (by rw [List.length_map]; exact hil), List.getElem?_map, he]; rfl
      · rw [if_neg q]
    have ndL : (L.map (·.1)).Nodup := by
      have nd' := A.nd
      unfold cellsO at nd'
      rw [List.append_assoc, List.map_append] at nd'
      have := (List.nodup_append.mp nd').2.1
      rw [List.map_append] at this
      have := (List.nodup_append.mp this).1
      rw [List.map_map] at this
      exact this
    have memL : ∀ x ∈ L', x = (e.1, { e.2 with o := o }) ∨ (x ∈ L ∧ x.1 ≠ e.1) := fun x hx => by
      subst hL'
      obtain ⟨y, hy⟩ := List.getElem?_of_mem hx
      rw [List.getElem?_set] at hy
      by_cases q : i0.toNat = y
      · rw [if_pos q, if_pos (q ▸ hil)] at hy
        exact .inl (Option.some.inj hy).symm
      · rw [if_neg q] at hy
        right
        refine ⟨List.mem_of_getElem? hy, fun z => q ?_⟩
        obtain ⟨hyl, hye⟩ := List.getElem?_eq_some_iff.mp hy
        obtain ⟨hel, hee⟩ := List.getElem?_eq_some_iff.mp he
        rcases Nat.lt_trichotomy i0.toNat y with hlt | h | hgt
        · exfalso
          have := List.pairwise_iff_getElem.mp ndL i0.toNat y (by rw [List.length_map]; exact hel) (by rw [List.length_map]; exact hyl) hlt
          rw [List.getElem_map, List.getElem_map, hee, hye] at this
          exact this z.symm
        · exact h
        · exfalso
          have := List.pairwise_iff_getElem.mp ndL y i0.toNat (by rw [List.length_map]; exact hyl) (by rw [List.length_map]; exact hel) hgt
          rw [List.getElem_map, List.getElem_map, hee, hye] at this
          exact this z
    have ndall := A.nd
    have hothers : ∀ q, q ∈ G.map gCell ∨ q ∈ cellsO G2 L2 → q.1 ≠ e.1 := fun q hq z => by
      have nd' := A.nd
      unfold cellsO at nd'
      rw [List.append_assoc, List.map_append] at nd'
      rcases hq with h | h
      · exact (List.nodup_append.mp nd').2.2 _ (List.mem_map.mpr ⟨q, h, rfl⟩) _ (List.mem_map.mpr ⟨lCell e, List.mem_append_left _ (List.mem_map.mpr ⟨e, hem, rfl⟩), rfl⟩) z
      · have h2 := (List.nodup_append.mp nd').2.1
        rw [List.map_append] at h2
        exact (List.nodup_append.mp h2).2.2 _ (List.mem_map.mpr ⟨lCell e, List.mem_map.mpr ⟨e, hem, rfl⟩, rfl⟩) _ (List.mem_map.mpr ⟨q, h, rfl⟩) z.symm
    refine ⟨dyn.set k (lCell (e.1, { e.2 with o := o })), G, L', cloAfter cl i0 o, ?_, ⟨fun q hq => ?_, ?_⟩, ⟨Bb.ng, fun x hx => ?_, Bb.nn, ?_, Bb.lg, ?_, ?_⟩, rfl, eL⟩
    · rw [triedM, set_app, List.set_append_left _ _ hk'l]
      unfold base5
      rw [eQ, eO, set_self (M := base) (k := j1) H.h1, set_self (M := base) (k := j2) H.h2]
      rw [set_self (M := base.set j3 _) (k := jg) (by rw [get_set_ne n3g]; exact H.hg),
        set_self (M := base.set j3 _) (k := jl) (by rw [get_set_ne n3l]; exact H.hl)]
    · rcases List.mem_append.mp hq with h | h
      · unfold cellsO at h
        rcases List.mem_append.mp h with h | h
        · exact keep q (List.mem_append_left _ (List.mem_append_left _ h)) (hothers q (.inl h))
        · obtain ⟨x, hx, rfl⟩ := List.mem_map.mp h
          rcases memL x hx with rfl | ⟨hx1, hx2⟩
          · exact mem_set_self hk'
          · exact keep _ (List.mem_append_left _ (List.mem_append_right _ (List.mem_map.mpr ⟨x, hx1, rfl⟩))) hx2
      · exact keep q (List.mem_append_right _ h) (hothers q (.inr h))
    · have nd' := A.nd
      unfold cellsO at nd' ⊢
      rw [List.append_assoc, List.map_append, List.map_append] at nd' ⊢
      rw [aL]; exact nd'
    · rcases memL x hx with rfl | ⟨hx1, hx2⟩
      · exact Bb.nl e hem
      · exact Bb.nl x hx1
    · rw [eL]; exact clo_shut Bb.clo hr.1 hr.2.1 hr.2.2
    · subst hL'; rw [List.length_set]; exact Bb.ll
    · have hlc := Bb.lc
      cases o with
      | false =>
        show (cl ++ [i0]).length ≤ _
        rw [List.length_append, List.length_singleton]; omega
      | true =>
        show (cl.filter _).length ≤ _
        have := List.length_filter_le (fun k => decide (k ≠ i0)) cl
        omega
theorem ost_tried {dyn base : Sto} {j1 j2 j3 jg jl i : Nat} {d1 l d2 gA lA : Addr} {G G2 : OG} {L L2 : OL} {cl : List Int} {dd : Deed} (A : LA dyn G L G2 L2) (Bb : LB G L cl i) (H : At5 base j1 j2 j3 jg jl d1 l d2 gA lA G L cl) : OSt (triedM (dyn ++ base) (dyn.length + j1) (dyn.length + j2) (dyn.length + j3) d1 l d2 (gsO G) (lsO L) cl dd) (dyn.length + jg) (dyn.length + jl) gA lA G L := by
  obtain ⟨n12, n13, n1g, n1l, n23, n2g, n2l, n3g, n3l, ngl⟩ := H.ne
  have main : ∀ base', base'[jg]? = some (gA, Ow.lst (obG G)) → base'[jl]? = some (lA, Ow.lst (obL L)) → OSt (dyn ++ base') (dyn.length + jg) (dyn.length + jl) gA lA G L := fun base' h1 h2 =>
    ⟨by rw [get_app]; exact h1, by rw [get_app]; exact h2, fun e he => List.mem_append_left _ (A.mem _ (List.mem_append_left _ (List.mem_append_left _ (List.mem_map.mpr ⟨e, he, rfl⟩)))), fun e he => List.mem_append_left _ (A.mem _ (List.mem_append_left _ (List.mem_append_right _ (List.mem_map.mpr ⟨e, he, rfl⟩)))), by have := Bb.lg; omega, by have := Bb.ll; omega⟩
  cases dd with
  | gate n b => rw [triedM, set_app]; exact main _ (by rw [get_set_ne n1g]; exact H.hg) (by rw [get_set_ne n1l]; exact H.hl)
  | road a b m t => rw [triedM, set_app]; exact main _ (by rw [get_set_ne n2g]; exact H.hg) (by rw [get_set_ne n2l]; exact H.hl)
  | turn n b => rw [triedM, set_app]; exact main _ (by rw [get_set_ne n1g]; exact H.hg) (by rw [get_set_ne n1l]; exact H.hl)
  | shut k o => rw [triedM, set_app]; exact main _ (by rw [get_set_ne n3g]; exact H.hg) (by rw [get_set_ne n3l]; exact H.hl)
theorem leastN_spec {rs : List RowD} {x : Str} : ∀ k, k ≤ rs.length → (leastN rs x k = none → ∀ j, 0 < j → j < k → (ra rs j).g ≠ x) ∧ (∀ p, leastN rs x k = some p → (ra rs p).g = x ∧ ∀ j, 0 < j → j < k → (ra rs j).g = x → (ra rs p).t ≤ (ra rs j).t)
  | 0, _ => ⟨fun _ j _ h => absurd h (Nat.not_lt_zero _), fun p h => by cases h⟩
  | k + 1, hk => by
    obtain ⟨h1, h2⟩ := leastN_spec (rs := rs) (x := x) k (by omega)
    unfold leastN
    by_cases h0 : k = 0
    · rw [if_pos h0]
      exact ⟨fun _ j a b => (by omega), fun p h => (by cases h)⟩
    rw [if_neg h0]
    have hkk : k < rs.length := by omega
    have hr : rs[k]? = some (ra rs k) := by unfold ra; rw [List.getD_eq_getElem?_getD, List.getElem?_eq_getElem hkk]; rfl
    rw [hr]
    cases hf : leastN rs x k with
    | none =>
      have h1' := h1 hf
      dsimp only
      by_cases hg : (ra rs k).g = x
      · rw [if_pos hg]
        refine ⟨fun h => (by cases h), fun p hp => ?_⟩
        cases hp
        refine ⟨hg, fun j a b e => ?_⟩
        by_cases hj : j = k
        · rw [hj]; exact Int.le_refl _
        · exact absurd e (h1' j a (by omega))
      · rw [if_neg hg]
        refine ⟨fun _ j a b => ?_, fun p h => by cases h⟩
        by_cases hj : j = k
        · rw [hj]; exact hg
        · exact h1' j a (by omega)
    | some f =>
      obtain ⟨g1, g2⟩ := h2 f hf
      dsimp only
      by_cases hg : (ra rs k).g = x ∧ (ra rs k).t < (rs.getD f default).t
      · rw [if_pos hg]
        refine ⟨fun h => (by cases h), fun p hp => ?_⟩
        cases hp
        refine ⟨hg.1, fun j a b e => ?_⟩
        by_cases hj : j = k
        · rw [hj]; exact Int.le_refl _
        · have := g2 j a (by omega) e
          have h3 : (ra rs k).t < (ra rs f).t := hg.2
          omega
      · rw [if_neg hg]
        refine ⟨fun h => (by cases h), fun p hp => ?_⟩
        cases hp
        refine ⟨g1, fun j a b e => ?_⟩
        by_cases hj : j = k
        · rw [hj]
          rw [hj] at e
          have h3 : ¬ (ra rs k).t < (ra rs f).t := fun z => hg ⟨e, z⟩
          omega
        · exact g2 j a (by omega) e
theorem roads_zero (rs : List RowD) : roadsOf rs 0 = [] := by unfold roadsOf; rw [backRoads_stop]; rfl
theorem roads_step {rs : List RowD} (hb : BackOk rs) {p : Nat} (h0 : p ≠ 0) (hp : p < rs.length) : roadsOf rs p = roadsOf rs (ra rs p).b.toNat ++ [(ra rs p).r] := by
  have hb' := hb p hp
  rw [if_neg h0] at hb'
  have e : ra rs p = rs[p] := by unfold ra; rw [List.getD_eq_getElem?_getD, List.getElem?_eq_getElem hp]; rfl
  unfold roadsOf
  rw [backRoads_enough hb hp rs.length (by omega)]
  obtain ⟨m, rfl⟩ : ∃ m, p = m + 1 := ⟨p - 1, by omega⟩
  rw [backRoads, if_neg (by omega), List.reverse_cons]
  show (backRoads rs m (ra rs (m + 1)).b.toNat).reverse ++ [(ra rs (m + 1)).r] = _
  rw [e]
  rw [backRoads_enough hb (by omega) m (by omega), backRoads_enough hb (by omega) rs.length (by omega)]
/-- the places on the way to a row -/
theorem path_of {rs : List RowD} (hb : BackOk rs) : ∀ p, p < rs.length → ∃ f : Nat → Nat, f 0 = 0 ∧ f (roadsOf rs p).length = p ∧ ∀ j, j < (roadsOf rs p).length → 0 < f (j + 1) ∧ f (j + 1) < rs.length ∧ (ra rs (f (j + 1))).b = (f j : Int) ∧ (roadsOf rs p)[j]? = some (ra rs (f (j + 1))).r := by
  intro p
  induction p using Nat.strongRecOn with
  | ind p ih =>
    intro hp
    by_cases h0 : p = 0
    · subst h0
      rw [roads_zero]
      exact ⟨fun _ => 0, rfl, rfl, fun j hj => absurd hj (Nat.not_lt_zero _)⟩
    · have hb' := hb p hp
      rw [if_neg h0] at hb'
      have e : ra rs p = rs[p] := by unfold ra; rw [List.getD_eq_getElem?_getD, List.getElem?_eq_getElem hp]; rfl
      rw [← e] at hb'
      obtain ⟨f, f0, f1, f2⟩ := ih (ra rs p).b.toNat (by omega) (by omega)
      rw [roads_step hb h0 hp]
      generalize roadsOf rs (ra rs p).b.toNat = rb at f1 f2
      refine ⟨fun j => if j ≤ rb.length then f j else p, ?_, ?_, fun j hj => ?_⟩
      · show (if 0 ≤ rb.length then f 0 else p) = 0
        rw [if_pos (Nat.zero_le _)]; exact f0
      · show (if (rb ++ [(ra rs p).r]).length ≤ rb.length then _ else p) = p
        rw [List.length_append, List.length_singleton, if_neg (by omega)]
      · rw [List.length_append, List.length_singleton] at hj
        dsimp only
        by_cases hjl : j < rb.length
        · rw [if_pos (by omega), if_pos (by omega), List.getElem?_append_left hjl]
          exact f2 j hjl
        · have : j = rb.length := by omega
          subst this
          rw [if_neg (by omega), if_pos (Nat.le_refl _), f1, List.getElem?_append_right (Nat.le_refl _), Nat.sub_self]
          refine ⟨by omega, hp, by omega, rfl⟩
theorem walked_back {gs : List (Str × Bool)} {ls : List LineT} {gate : Str} {lim : Int} {rows : List RowD} (W : Walked gs ls gate lim rows) : BackOk rows := by
  intro k hk
  have e : ra rows k = rows[k] := by unfold ra; rw [List.getD_eq_getElem?_getD, List.getElem?_eq_getElem hk]; rfl
  rw [← e]
  by_cases h0 : k = 0
  · subst h0
    rw [if_pos rfl, W.r0]
    show (-1 : Int) < 0
    decide
  · rw [if_neg h0]
    obtain ⟨b, kk, g⟩ := W.go k (by omega) hk
    rw [g.eq]
    have := g.bk
    show 0 ≤ (b : Int) ∧ (b : Int) < k
    omega
theorem roads_pos {rs : List RowD} (hb : BackOk rs) {p : Nat} (hp : p < rs.length) : (0 < (roadsOf rs p).length) ↔ 0 < p := by
  by_cases h0 : p = 0
  · subst h0; rw [roads_zero]; simp
  · rw [roads_step hb h0 hp, List.length_append, List.length_singleton]; omega
/-- the drives from a gate: where to, minutes, toll -/
inductive Dr (n : NetM) (one : Str) : Str → Int → Int → Prop
  | base {k : Nat} : k ∈ n.out one → Dr n one (n.line k).2.1 (lmin (n.line k)) (ltoll (n.line k))
  | step {g : Str} {m t : Int} {k : Nat} : Dr n one g m t → n.sees g = some false → k ∈ n.out g → Dr n one (n.line k).2.1 (m + lmin (n.line k)) (t + ltoll (n.line k))
theorem Dr.pos {n : NetM} {one g : Str} {m t : Int} (W : n.Wf) (h : Dr n one g m t) : 1 ≤ m ∧ 0 ≤ t := by
  induction h with
  | base hk => exact W.pos _ (mem_out hk).1
  | step _ _ hk ih =>
    have := W.pos _ (mem_out hk).1
    omega
section
variable {n : NetM} {one : Str} {lim : Int} {s : RS}
/-- a row is a drive -/
theorem row_drive (I : RInv n one lim s) : ∀ j, 0 < j → j < s.rows.length → Dr n one (ra s.rows j).g (ra s.rows j).m (ra s.rows j).t := by
  intro j
  induction j using Nat.strongRecOn with
  | ind j ih =>
    intro h0 hj
    obtain ⟨w, b, k, hb, g, e⟩ := I.row j h0 hj
    rw [e, g.ge, wRow_ext]
    have gk := g.gk
    rcases Nat.eq_zero_or_pos b with hb0 | hb0
    · subst hb0
      rw [I.r0] at gk ⊢
      have := Dr.base (n := n) (one := one) gk
      simpa [startRow] using this
    · have h1 := ih b hb hb0 (by omega)
      rcases g.go with h | h
      · omega
      · exact Dr.step h1 h gk
/-- every drive is met by a row that is no worse -/
theorem drive_row (W : n.Wf) (I : RInv n one lim s) (hnil : s.wait = []) {g : Str} {m t : Int} (h : Dr n one g m t) : m ≤ lim → ∃ j, 0 < j ∧ j < s.rows.length ∧ (ra s.rows j).g = g ∧ (ra s.rows j).m ≤ m ∧ (ra s.rows j).t ≤ t := by
  induction h with
  | base hk =>
    rename_i k
    intro hm
    have h0 : (ra s.rows 0) = startRow one := I.r0
    rcases I.cov _ 0 k I.ne ⟨by rw [h0]; exact hk, .inl rfl, rfl, by rw [h0]; show 0 + _ ≤ lim; omega⟩ with hc | ⟨j, a1, a2, a3, a4, a5⟩
    · rw [hnil] at hc; cases hc
    · rw [wRow_ext, h0] at a3 a4 a5
      refine ⟨j, a1, a2, a3, ?_, ?_⟩
      · have : (ra s.rows j).m ≤ 0 + lmin (n.line k) := a4
        omega
      · have : (ra s.rows j).t ≤ 0 + ltoll (n.line k) := a5
        omega
  | step hd hs hk ih =>
    rename_i g' m' t' k
    intro hm
    have hp := W.pos k (mem_out hk).1
    obtain ⟨b, b1, b2, b3, b4, b5⟩ := ih (by omega)
    rcases I.cov _ b k b2 ⟨by rw [b3]; exact hk, .inr (by rw [b3]; exact hs), rfl, by omega⟩ with hc | ⟨j, a1, a2, a3, a4, a5⟩
    · rw [hnil] at hc; cases hc
    · rw [wRow_ext] at a3 a4 a5
      refine ⟨j, a1, a2, a3, ?_, ?_⟩
      · have : (ra s.rows j).m ≤ (ra s.rows b).m + lmin (n.line k) := a4
        omega
      · have : (ra s.rows j).t ≤ (ra s.rows b).t + ltoll (n.line k) := a5
        omega
end
/-- the least drive: toll, then minutes -/
structure LeastDr (n : NetM) (one other : Str) (lim : Int) (t m : Int) : Prop where
  dr : Dr n one other m t
  le : m ≤ lim
  lt : ∀ m' t', Dr n one other m' t' → m' ≤ lim → t < t' ∨ (t = t' ∧ m ≤ m')
theorem LeastDr.uniq {n : NetM} {one other : Str} {lim t m t' m' : Int} (a : LeastDr n one other lim t m) (b : LeastDr n one other lim t' m') : t = t' ∧ m = m' := by
  have h1 := a.lt m' t' b.dr b.le
  have h2 := b.lt m t a.dr a.le
  omega
theorem leg_least {n : NetM} {one other : Str} {lim : Int} (F : Fit n lim) : (legOf n one other lim = none → ∀ m t, Dr n one other m t → m ≤ lim → False) ∧ (∀ l, legOf n one other lim = some l → LeastDr n one other lim l.1 l.2.1) := by
  obtain ⟨u, hB⟩ := F.bd
  obtain ⟨s, I, hnil, es, hl⟩ := reach_props (gate := one) F.wf hB
  have hd := row_div F.wf hB I
  have hl' : legOf n one other lim = (leastOf s.rows other).map fun p => ((ra s.rows p).t, (ra s.rows p).m, roadsOf s.rows p) := by unfold legOf; rw [es]
  obtain ⟨s1, s2⟩ := leastN_spec (rs := s.rows) (x := other) s.rows.length (Nat.le_refl _)
  have hlo : leastOf s.rows other = leastN s.rows other s.rows.length := rfl
  constructor
  · intro h m t hdr hm
    rw [hl'] at h
    have hn : leastN s.rows other s.rows.length = none := by
      rw [← hlo]
      cases q : leastOf s.rows other with
      | none => rfl
      | some p => rw [q] at h; cases h
    obtain ⟨j, a1, a2, a3, _, _⟩ := drive_row F.wf I hnil hdr hm
    exact s1 hn j a1 a2 a3
  · intro l h
    rw [hl'] at h
    obtain ⟨p, hp, rfl⟩ := Option.map_eq_some_iff.mp h
    rw [hlo] at hp
    obtain ⟨q1, q2⟩ := s2 p hp
    obtain ⟨p0, _, p1⟩ := leastN_lt hp
    refine ⟨q1 ▸ row_drive I p p0 p1, (hd p p1).2.2, fun m' t' hdr hm => ?_⟩
    obtain ⟨j, a1, a2, a3, a4, a5⟩ := drive_row F.wf I hnil hdr hm
    have h1 := q2 j a1 a2 a3
    show (ra s.rows p).t < t' ∨ ((ra s.rows p).t = t' ∧ (ra s.rows p).m ≤ m')
    by_cases e : (ra s.rows p).t = t'
    · right
      refine ⟨e, ?_⟩
      have e2 : (ra s.rows j).t = (ra s.rows p).t := by omega
      rcases Nat.lt_trichotomy p j with hlt | rfl | hlt
      · exfalso
        have h3 := I.str p j p0 hlt a2 (by rw [q1, a3])
        have h4 := I.srt p j p0 hlt a2
        unfold key3 at h4
        rw [HT.lexLt_cons, if_pos e2, HT.lexLt_cons, if_neg (by omega)] at h4
        have := of_decide_eq_false h4
        omega
      · exact a4
      · exfalso
        have h3 := I.str j p a1 hlt p1 (by rw [q1, a3])
        have h4 := I.srt j p a1 hlt p1
        unfold key3 at h4
        rw [HT.lexLt_cons, if_pos e2.symm, HT.lexLt_cons, if_neg (by omega)] at h4
        have := of_decide_eq_false h4
        omega
    · left; omega
/-! the law's own reckoning, by minutes -/
def candOf (gs : List (Str × Bool)) (one : Str) (u : Int) (C : Nat → List (Str × Int)) (m : Nat) (l : LineT) : Option Int :=
  if l.o = true ∧ 0 ≤ (m : Int) - l.m / u then
    (match (C ((m : Int) - l.m / u).toNat).lookup l.a with
      | some v => if gs.lookup l.a = some false then (if (m : Int) - l.m / u = 0 ∧ l.a = one then (if v + l.t < l.t then some (v + l.t) else some l.t) else some (v + l.t)) else (if (m : Int) - l.m / u = 0 ∧ l.a = one then some l.t else none)
      | none => if (m : Int) - l.m / u = 0 ∧ l.a = one then some l.t else none)
  else none
def costStep (gs : List (Str × Bool)) (one : Str) (u : Int) (C : Nat → List (Str × Int)) (m : Nat) (c : List (Str × Int)) (l : LineT) : List (Str × Int) :=
  match candOf gs one u C m l with
  | none => c
  | some t => if t < (c.lookup l.b).getD (t + 1) then putq c l.b t else c
def costRow (gs : List (Str × Bool)) (ls : List LineT) (one : Str) (u : Int) (C : Nat → List (Str × Int)) (m : Nat) : List (Str × Int) := ls.foldl (costStep gs one u C m) []
/-- the rows below n, empty ones from there on -/
def costN (gs : List (Str × Bool)) (ls : List LineT) (one : Str) (u : Int) : Nat → Nat → List (Str × Int)
  | 0, _ => []
  | n + 1, k => if k = n then costRow gs ls one u (costN gs ls one u n) n else costN gs ls one u n k
structure RowC (ls : List LineT) (cand : LineT → Option Int) (c : List (Str × Int)) : Prop where
  so : ∀ g v, c.lookup g = some v → ∃ l ∈ ls, l.b = g ∧ cand l = some v
  co : ∀ l ∈ ls, ∀ v, cand l = some v → ∃ v', c.lookup l.b = some v' ∧ v' ≤ v
theorem rowC_step {gs : List (Str × Bool)} {one : Str} {u : Int} {C : Nat → List (Str × Int)} {m : Nat} {pre : List LineT} {c : List (Str × Int)} (h : RowC pre (candOf gs one u C m) c) (l : LineT) : RowC (pre ++ [l]) (candOf gs one u C m) (costStep gs one u C m c l) := by
  unfold costStep
  cases hc : candOf gs one u C m l with
  | none =>
    dsimp only
    refine ⟨fun g v hg => ?_, fun l' hl' v hv => ?_⟩
    · obtain ⟨l', a, b⟩ := h.so g v hg
      exact ⟨l', List.mem_append_left _ a, b⟩
    · rcases List.mem_append.mp hl' with a | a
      · exact h.co l' a v hv
      · rw [List.mem_singleton.mp a, hc] at hv; cases hv
  | some t =>
    dsimp only
    by_cases hlt : t < (c.lookup l.b).getD (t + 1)
    · rw [if_pos hlt]
      refine ⟨fun g v hg => ?_, fun l' hl' v hv => ?_⟩
      · rw [lookup_putq] at hg
        by_cases e : g = l.b
        · rw [if_pos e] at hg
          cases hg
          exact ⟨l, List.mem_append_right _ (List.mem_singleton.mpr rfl), e.symm, hc⟩
        · rw [if_neg e] at hg
          obtain ⟨l', a, b⟩ := h.so g v hg
          exact ⟨l', List.mem_append_left _ a, b⟩
      · rw [lookup_putq]
        by_cases e : l'.b = l.b
        · rw [if_pos e]
          refine ⟨t, rfl, ?_⟩
          rcases List.mem_append.mp hl' with a | a
          · obtain ⟨v', h1, h2⟩ := h.co l' a v hv
            rw [← e, h1] at hlt
            have : t < v' := hlt
            omega
          · rw [List.mem_singleton.mp a, hc] at hv
            cases hv; exact Int.le_refl _
        · rw [if_neg e]
          rcases List.mem_append.mp hl' with a | a
          · exact h.co l' a v hv
          · exact absurd (by rw [List.mem_singleton.mp a]) e
    · rw [if_neg hlt]
      refine ⟨fun g v hg => ?_, fun l' hl' v hv => ?_⟩
      · obtain ⟨l', a, b⟩ := h.so g v hg
        exact ⟨l', List.mem_append_left _ a, b⟩
      · rcases List.mem_append.mp hl' with a | a
        · exact h.co l' a v hv
        · rw [List.mem_singleton.mp a] at hv ⊢
          rw [hc] at hv
          cases hv
          cases hq : c.lookup l.b with
          | none => rw [hq] at hlt; exact absurd (show t < t + 1 by omega) hlt
          | some w =>
            rw [hq] at hlt
            exact ⟨w, rfl, by have : ¬ t < w := hlt; omega⟩
theorem rowC_all (gs : List (Str × Bool)) (ls : List LineT) (one : Str) (u : Int) (C : Nat → List (Str × Int)) (m : Nat) : RowC ls (candOf gs one u C m) (costRow gs ls one u C m) := by
  have gen : ∀ (suf pre : List LineT) (c : List (Str × Int)), RowC pre (candOf gs one u C m) c → RowC (pre ++ suf) (candOf gs one u C m) (suf.foldl (costStep gs one u C m) c) := by
    intro suf
    induction suf with
    | nil => intro pre c h; rw [List.append_nil]; exact h
    | cons l r ih =>
      intro pre c h
      have := ih (pre ++ [l]) _ (rowC_step h l)
      rw [List.append_assoc] at this
      exact this
  have := gen ls [] [] ⟨fun g v h => (by cases h), fun l h => (by cases h)⟩
  exact this
/-- what a row of costs tells -/
structure CostOk (n : NetM) (one : Str) (u : Int) (m : Nat) (c : List (Str × Int)) : Prop where
  so : ∀ g v, c.lookup g = some v → Dr n one g (u * m) v
  co : ∀ g t, Dr n one g (u * m) t → ∃ v, c.lookup g = some v ∧ v ≤ t
theorem costN_lt {gs : List (Str × Bool)} {ls : List LineT} {one : Str} {u : Int} : ∀ {n k : Nat}, k < n → costN gs ls one u n k = costN gs ls one u (k + 1) k
  | 0, k, h => absurd h (Nat.not_lt_zero _)
  | n + 1, k, h => by
    by_cases e : k = n
    · subst e; rfl
    · show (if k = n then _ else costN gs ls one u n k) = _
      rw [if_neg e]
      exact costN_lt (by omega)
theorem dr_mul {gs : List (Str × Bool)} {ls : List LineT} {u : Int} {one g : Str} {m t : Int} (hW : Wd1 gs ls u) (h : Dr (netOf gs ls) one g m t) : u ∣ m := by
  have hk : ∀ k, k < (netOf gs ls).lines.length → u ∣ lmin ((netOf gs ls).line k) := fun k hk => by
    rw [len_net] at hk
    rw [line_net hk]
    have hm : ls.getD k default ∈ ls := by
      rw [List.getD_eq_getElem?_getD, List.getElem?_eq_getElem hk]; exact List.getElem_mem _
    exact (hW.lk _ hm).dv
  induction h with
  | base h => exact hk _ (mem_out h).1
  | step _ _ h ih => exact Int.dvd_add ih (hk _ (mem_out h).1)
theorem line_mem {gs : List (Str × Bool)} {ls : List LineT} {l : LineT} (h : l ∈ ls) (ho : l.o = true) : ∃ k, (netOf gs ls).line k = lineQ l ∧ k ∈ (netOf gs ls).out l.a := by
  obtain ⟨k, hk, rfl⟩ := List.getElem_of_mem h
  have hgd : ls.getD k default = ls[k] := by rw [List.getD_eq_getElem?_getD, List.getElem?_eq_getElem hk]; rfl
  have hln := line_net (gs := gs) hk
  rw [hgd] at hln
  refine ⟨k, hln, out_mem (by rw [len_net]; exact hk) (by rw [hln]; rfl) fun z => ?_⟩
  have := (clo_iff hk).mp z
  rw [hgd, ho] at this; cases this
theorem mem_line {gs : List (Str × Bool)} {ls : List LineT} {k : Nat} {s : Str} (h : k ∈ (netOf gs ls).out s) : ∃ l ∈ ls, (netOf gs ls).line k = lineQ l ∧ l.o = true ∧ l.a = s := by
  obtain ⟨h1, h2, h3⟩ := mem_out h
  rw [len_net] at h1
  have hln := line_net (gs := gs) h1
  have hm : ls.getD k default ∈ ls := by
    rw [List.getD_eq_getElem?_getD, List.getElem?_eq_getElem h1]; exact List.getElem_mem _
  refine ⟨_, hm, hln, ?_, ?_⟩
  · cases ho : (ls.getD k default).o with
    | true => rfl
    | false => exact absurd ((clo_iff h1).mpr ho) h3
  · rw [hln] at h2; exact h2
theorem cost_ok {gs : List (Str × Bool)} {ls : List LineT} {one : Str} {u : Int} (hW : Wd1 gs ls u) : ∀ m, CostOk (netOf gs ls) one u m (costN gs ls one u (m + 1) m) := by
  intro m
  induction m using Nat.strongRecOn with
  | ind m ih =>
    have hu := hW.u1
    have hu0 : u ≠ 0 := by omega
    have e : costN gs ls one u (m + 1) m = costRow gs ls one u (costN gs ls one u m) m := by
      show (if m = m then _ else _) = _
      rw [if_pos rfl]
    rw [e]
    have hC : ∀ a, a < m → CostOk (netOf gs ls) one u a (costN gs ls one u m a) := fun a ha => by
      rw [costN_lt ha]; exact ih a ha
    have RC := rowC_all gs ls one u (costN gs ls one u m) m
    generalize costN gs ls one u m = C at hC RC
    have quo : ∀ l ∈ ls, ∃ q : Int, 1 ≤ q ∧ l.m = u * q ∧ l.m / u = q := fun l hl => by
      obtain ⟨q, hq⟩ := (hW.lk l hl).dv
      have hlo := (hW.lk l hl).lo
      refine ⟨q, ?_, hq, by rw [hq, Int.mul_ediv_cancel_left _ hu0]⟩
      rw [hq] at hlo
      have : u * 1 ≤ u * q := by omega
      exact Int.le_of_mul_le_mul_left this (by omega)
    constructor
    · intro g v hv
      obtain ⟨l, hl, rfl, hc⟩ := RC.so g v hv
      obtain ⟨q, q1, q2, q3⟩ := quo l hl
      unfold candOf at hc
      by_cases h0 : l.o = true ∧ 0 ≤ (m : Int) - l.m / u
      · rw [if_pos h0, q3] at hc
        obtain ⟨k, hln, hko⟩ := line_mem (gs := gs) hl h0.1
        rw [q3] at h0
        have hbase : ((m : Int) - q = 0 ∧ l.a = one) → Dr (netOf gs ls) one l.b (u * m) l.t := fun hb => by
          have := Dr.base (n := netOf gs ls) (one := one) (k := k) (by rw [← hb.2]; exact hko)
          rw [hln] at this
          have hm : (m : Int) = q := by omega
          rw [hm, ← q2]
          exact this
        have hstep : ∀ w, (C ((m : Int) - q).toNat).lookup l.a = some w → gs.lookup l.a = some false → Dr (netOf gs ls) one l.b (u * m) (w + l.t) := fun w hw hs => by
          have hd := (hC ((m : Int) - q).toNat (by omega)).so l.a w hw
          have := Dr.step hd hs hko
          rw [hln] at this
          have hm : u * (((m : Int) - q).toNat : Int) + l.m = u * m := by
            rw [Int.toNat_of_nonneg h0.2, Int.mul_sub, q2]; omega
          rw [← hm]
          exact this
        cases hw : (C ((m : Int) - q).toNat).lookup l.a with
        | none =>
          rw [hw] at hc
          dsimp only at hc
          split at hc
          · rename_i hb
            cases hc; exact hbase hb
          · cases hc
        | some w =>
          rw [hw] at hc
          dsimp only at hc
          split at hc
          · rename_i hs
            split at hc
            · rename_i hb
              split at hc
              · cases hc; exact hstep w hw hs
              · cases hc; exact hbase hb
            · cases hc; exact hstep w hw hs
          · split at hc
            · rename_i hb
              cases hc; exact hbase hb
            · cases hc
      · rw [if_neg h0] at hc; cases hc
    · intro g t hd
      generalize hmm : u * (m : Int) = mm at hd
      cases hd with
      | base hk =>
        obtain ⟨l, hl, hln, ho, hla⟩ := mem_line hk
        obtain ⟨q, q1, q2, q3⟩ := quo l hl
        rw [hln] at hmm ⊢
        have hmq : u * (m : Int) = u * q := by rw [hmm, ← q2]; rfl
        have hm : (m : Int) = q := Int.eq_of_mul_eq_mul_left hu0 hmq
        have : ∃ v, candOf gs one u C m l = some v ∧ v ≤ l.t := by
          unfold candOf
          rw [q3, if_pos ⟨ho, by omega⟩]
          have hb : (m : Int) - q = 0 ∧ l.a = one := ⟨by omega, hla⟩
          cases hw : (C ((m : Int) - q).toNat).lookup l.a with
          | none =>
            dsimp only
            rw [if_pos hb]
            exact ⟨_, rfl, Int.le_refl _⟩
          | some w =>
            dsimp only
            rw [if_pos hb, if_pos hb]
            split
            · split
              · exact ⟨_, rfl, by omega⟩
              · exact ⟨_, rfl, Int.le_refl _⟩
            · exact ⟨_, rfl, Int.le_refl _⟩
        obtain ⟨v, hv, hle⟩ := this
        obtain ⟨v', h1, h2⟩ := RC.co l hl v hv
        exact ⟨v', h1, by show v' ≤ l.t; omega⟩
      | step hd' hs hk =>
        rename_i g' m' t' k
        obtain ⟨l, hl, hln, ho, hla⟩ := mem_line hk
        obtain ⟨q, q1, q2, q3⟩ := quo l hl
        rw [hln] at hmm ⊢
        obtain ⟨a, ha⟩ := dr_mul hW hd'
        have hp := (hd'.pos (wf_net hW)).1
        have hmq : u * (m : Int) = u * (a + q) := by
          rw [hmm, Int.mul_add, ← ha, ← q2]; rfl
        have hm : (m : Int) = a + q := Int.eq_of_mul_eq_mul_left hu0 hmq
        have ha0 : 0 ≤ a := by
          by_cases hx : 0 ≤ a
          · exact hx
          · exfalso
            have : u * a < 0 := Int.mul_neg_of_pos_of_neg (by omega) (by omega)
            omega
        have hc := (hC a.toNat (by omega)).co g' t' (by rw [Int.toNat_of_nonneg ha0, ← ha]; exact hd')
        obtain ⟨w, hw, hwt⟩ := hc
        have hs' : gs.lookup l.a = some false := by rw [hla]; exact hs
        have : ∃ v, candOf gs one u C m l = some v ∧ v ≤ t' + l.t := by
          unfold candOf
          rw [q3, if_pos ⟨ho, by omega⟩, show (m : Int) - q = a by omega]
          rw [← hla] at hw
          rw [hw]
          dsimp only
          rw [if_pos hs']
          split
          · split
            · exact ⟨_, rfl, by omega⟩
            · exact ⟨_, rfl, by omega⟩
          · exact ⟨_, rfl, by omega⟩
        obtain ⟨v, hv, hle⟩ := this
        obtain ⟨v', h1, h2⟩ := RC.co l hl v hv
        exact ⟨v', h1, by show v' ≤ t' + l.t; omega⟩
def costK (q : List (Str × Int)) : List (Key × Dt) := q.map fun p => (Sum.inr p.1, Dt.int p.2)
theorem val_cost (q : List (Str × Int)) (a : Str) : valD (costK q) (Sum.inr a) = (q.lookup a).map Dt.int := by
  induction q with
  | nil => rfl
  | cons p r ih =>
    obtain ⟨q, b⟩ := p
    by_cases h : q = a
    · subst h
      rw [show costK ((q, b) :: r) = (Sum.inr q, Dt.int b) :: costK r from rfl, valD_pos rfl, List.lookup_cons_self]; rfl
    · rw [show costK ((q, b) :: r) = (Sum.inr q, Dt.int b) :: costK r from rfl, valD_neg (by simpa using h), ih, List.lookup_cons, show (a == q) = false by simpa using fun e => h e.symm]
theorem put_cost (q : List (Str × Int)) (a : Str) (m : Int) : putD (costK q) (Sum.inr a) (.int m) = costK (putq q a m) := by
  unfold putD putq
  have e : (costK q).any (fun kv => decide (kv.1 = Sum.inr a)) = q.any (fun p => decide (p.1 = a)) := by
    unfold costK
    rw [List.any_map]
    congr 1
    funext p
    simp
  rw [e]
  split
  · unfold costK
    rw [List.map_map, List.map_map]
    apply List.map_congr_left
    intro p _
    by_cases h : p.1 = a
    · simp [h]
    · simp [h]
  · unfold costK
    rw [List.map_append]; rfl
/-- the least toll, then the least time -/
def lcN (C : Nat → List (Str × Int)) (x : Str) : Nat → Option (Int × Nat)
  | 0 => none
  | k + 1 => match (C k).lookup x, lcN C x k with
    | none, b => b
    | some v, none => some (v, k)
    | some v, some b => if v < b.1 then some (v, k) else some b
def bestD : Option (Int × Nat) → Dt
  | none => .non
  | some b => .tup [.int b.1, .int (b.2 : Int)]
theorem lcN_spec (C : Nat → List (Str × Int)) (x : Str) : ∀ n, (lcN C x n = none → ∀ k, k < n → (C k).lookup x = none) ∧ (∀ b, lcN C x n = some b → b.2 < n ∧ (C b.2).lookup x = some b.1 ∧ ∀ k v, k < n → (C k).lookup x = some v → b.1 < v ∨ (b.1 = v ∧ b.2 ≤ k))
  | 0 => ⟨fun _ k h => absurd h (Nat.not_lt_zero _), fun b h => by cases h⟩
  | n + 1 => by
    obtain ⟨h1, h2⟩ := lcN_spec C x n
    rw [lcN]
    cases hv : (C n).lookup x with
    | none =>
      dsimp only
      refine ⟨fun h k hk => ?_, fun b hb => ?_⟩
      · by_cases e : k = n
        · rw [e]; exact hv
        · exact h1 h k (by omega)
      · obtain ⟨a1, a2, a3⟩ := h2 b hb
        refine ⟨by omega, a2, fun k v hk h => ?_⟩
        by_cases e : k = n
        · rw [e, hv] at h; cases h
        · exact a3 k v (by omega) h
    | some v =>
      cases hb : lcN C x n with
      | none =>
        dsimp only
        have h1' := h1 hb
        refine ⟨fun h => (by cases h), fun b hb => ?_⟩
        cases hb
        refine ⟨Nat.lt_succ_self _, hv, fun k w hk h => ?_⟩
        by_cases e : k = n
        · subst e; rw [hv] at h; cases h; exact .inr ⟨rfl, Nat.le_refl _⟩
        · rw [h1' k (by omega)] at h; cases h
      | some b0 =>
        dsimp only
        obtain ⟨a1, a2, a3⟩ := h2 b0 hb
        by_cases hlt : v < b0.1
        · rw [if_pos hlt]
          refine ⟨fun h => (by cases h), fun b hb => ?_⟩
          cases hb
          refine ⟨Nat.lt_succ_self _, hv, fun k w hk h => ?_⟩
          by_cases e : k = n
          · subst e; rw [hv] at h; cases h; exact .inr ⟨rfl, Nat.le_refl _⟩
          · have := a3 k w (by omega) h
            left; show v < w; omega
        · rw [if_neg hlt]
          refine ⟨fun h => (by cases h), fun b hb => ?_⟩
          cases hb
          refine ⟨by omega, a2, fun k w hk h => ?_⟩
          by_cases e : k = n
          · subst e; rw [hv] at h; cases h
            by_cases e2 : b0.1 = v
            · exact .inr ⟨e2, by omega⟩
            · left; omega
          · exact a3 k w (by omega) h
/-! the law's reckoning and the program's leg tell the same -/
theorem costN_ok {gs : List (Str × Bool)} {ls : List LineT} {one : Str} {u : Int} (hW : Wd1 gs ls u) {n k : Nat} (h : k < n) : CostOk (netOf gs ls) one u k (costN gs ls one u n k) := by
  rw [costN_lt h]; exact cost_ok hW k
theorem mul_le_quot {u r a : Int} {n : Nat} (h1 : 1 ≤ u) (hr : r < u) (h : u * a ≤ u * n + r) : a ≤ n := by
  by_cases q : a ≤ n
  · exact q
  · exfalso
    have : u * ((n : Int) + 1) ≤ u * a := Int.mul_le_mul_of_nonneg_left (by omega) (by omega)
    rw [Int.mul_add] at this
    omega
theorem dr_quot {gs : List (Str × Bool)} {ls : List LineT} {one g : Str} {u m t : Int} (hW : Wd1 gs ls u) (h : Dr (netOf gs ls) one g m t) : ∃ q : Nat, 1 ≤ q ∧ m = u * q := by
  obtain ⟨a, ha⟩ := dr_mul hW h
  have hp := (h.pos (wf_net hW)).1
  have hu := hW.u1
  have ha0 : 0 < a := by
    by_cases hx : 0 < a
    · exact hx
    · exfalso
      have : u * a ≤ u * 0 := Int.mul_le_mul_of_nonneg_left (by omega) (by omega)
      omega
  exact ⟨a.toNat, by omega, by rw [Int.toNat_of_nonneg (by omega)]; exact ha⟩
theorem due_found {gs : List (Str × Bool)} {ls : List LineT} {one other : Str} {u r : Int} {n : Nat} (hW : Wd1 gs ls u) (hr0 : 0 ≤ r) (hr : r < u) (F : Fit (netOf gs ls) (u * n + r)) :
    (lcN (costN gs ls one u (n + 1)) other (n + 1) = none → legOf (netOf gs ls) one other (u * n + r) = none) ∧
    (∀ b, lcN (costN gs ls one u (n + 1)) other (n + 1) = some b → b.2 ≤ n ∧ ∃ l, legOf (netOf gs ls) one other (u * n + r) = some l ∧ l.1 = b.1 ∧ l.2.1 = u * b.2) := by
  have hu := hW.u1
  obtain ⟨g1, g2⟩ := leg_least (one := one) (other := other) F
  obtain ⟨s1, s2⟩ := lcN_spec (costN gs ls one u (n + 1)) other (n + 1)
  constructor
  · intro h
    cases hl : legOf (netOf gs ls) one other (u * n + r) with
    | none => rfl
    | some l =>
      exfalso
      have L := g2 l hl
      obtain ⟨q, q1, q2⟩ := dr_quot hW L.dr
      have hq : (q : Int) ≤ n := mul_le_quot hu hr (by rw [← q2]; exact L.le)
      have hdr := L.dr
      rw [q2] at hdr
      obtain ⟨v, hv, _⟩ := (costN_ok hW (n := n + 1) (k := q) (by omega)).co other l.1 hdr
      rw [s1 h q (by omega)] at hv
      cases hv
  · intro b hb
    obtain ⟨b1, b2, b3⟩ := s2 b hb
    have hdr := (costN_ok hW b1).so other b.1 b2
    have hmul : u * (b.2 : Int) ≤ u * (n : Int) := Int.mul_le_mul_of_nonneg_left (by omega) (by omega)
    have hble : u * (b.2 : Int) ≤ u * n + r := by omega
    refine ⟨by omega, ?_⟩
    cases hl : legOf (netOf gs ls) one other (u * n + r) with
    | none => exact (g1 hl _ _ hdr hble).elim
    | some l =>
      have L := g2 l hl
      refine ⟨l, rfl, ?_⟩
      apply L.uniq
      refine ⟨hdr, hble, fun m' t' hd' hm' => ?_⟩
      obtain ⟨q, q1, q2⟩ := dr_quot hW hd'
      have hq : (q : Int) ≤ n := mul_le_quot hu hr (by rw [← q2]; exact hm')
      rw [q2] at hd'
      obtain ⟨v, hv, hvt⟩ := (costN_ok hW (n := n + 1) (k := q) (by omega)).co other t' hd'
      rcases b3 q v (by omega) hv with h | ⟨h, h'⟩
      · left; omega
      · by_cases e : v = t'
        · right
          refine ⟨by omega, ?_⟩
          rw [q2]
          exact Int.mul_le_mul_of_nonneg_left (by omega) (by omega)
        · left; omega
/-- again, within its own minutes -/
theorem leg_again {n : NetM} {one other : Str} {lim : Int} {l : Int × Int × List Int} (F : Fit n lim) (F2 : Fit n l.2.1) (h : legOf n one other lim = some l) : ∃ l', legOf n one other l.2.1 = some l' ∧ l'.1 = l.1 ∧ l'.2.1 = l.2.1 := by
  have L := (leg_least F).2 l h
  obtain ⟨g1, g2⟩ := leg_least (one := one) (other := other) F2
  cases h2 : legOf n one other l.2.1 with
  | none => exact (g1 h2 _ _ L.dr (Int.le_refl _)).elim
  | some l' =>
    refine ⟨l', rfl, ?_⟩
    have L' := g2 l' h2
    have hle := L.le
    exact L'.uniq ⟨L.dr, Int.le_refl _, fun m' t' hd hm => L.lt m' t' hd (by omega)⟩
theorem leg_zero {n : NetM} {one other : Str} (F : Fit n 0) : legOf n one other 0 = none := by
  obtain ⟨_, g2⟩ := leg_least (one := one) (other := other) F
  cases h2 : legOf n one other 0 with
  | none => rfl
  | some l =>
    exfalso
    have L := g2 l h2
    have := (L.dr.pos F.wf).1
    have := L.le
    omega
/-- the sums of a row's roads -/
theorem road_sum {gs : List (Str × Bool)} {ls : List LineT} {gate : Str} {lim : Int} {rows : List RowD} (W : Walked gs ls gate lim rows) : ∀ p, p < rows.length →
    ((roadsOf rows p).map fun k => (ls.getD k.toNat default).t).sum = (ra rows p).t ∧ ((roadsOf rows p).map fun k => (ls.getD k.toNat default).m).sum = (ra rows p).m ∧ ∀ k ∈ roadsOf rows p, 0 ≤ k ∧ k < ls.length := by
  have hb := walked_back W
  intro p
  induction p using Nat.strongRecOn with
  | ind p ih =>
    intro hp
    by_cases h0 : p = 0
    · subst h0
      rw [roads_zero, W.r0]
      exact ⟨rfl, rfl, fun k hk => (nomatch hk)⟩
    · obtain ⟨b, kk, g⟩ := W.go p (by omega) hp
      have e := g.eq
      obtain ⟨i1, i2, i3⟩ := ih b g.bk (by have := g.bk; omega)
      rw [roads_step hb h0 hp]
      have eb : (ra rows p).b.toNat = b := by rw [e]; exact Int.toNat_natCast b
      have er : (ra rows p).r = (kk : Int) := by rw [e]
      rw [eb, er]
      refine ⟨?_, ?_, fun k hk => ?_⟩
      · rw [List.map_append, List.sum_append, i1, e]
        simp
      · rw [List.map_append, List.sum_append, i2, e]
        simp
      · rcases List.mem_append.mp hk with h | h
        · exact i3 k h
        · rw [List.mem_singleton.mp h]
          have := g.kl
          exact ⟨by omega, by omega⟩
/-- a leg's row -/
theorem leg_rowB {gs : List (Str × Bool)} {ls : List LineT} {u lim : Int} {one other : Str} {l : Int × Int × List Int} (hW : Wd1 gs ls u) (hB : Bnd (netOf gs ls) u lim) (hg : one ∈ gs.map (·.1)) (h : legOf (netOf gs ls) one other lim = some l) :
    ∃ rows p, Walked gs ls one lim rows ∧ p < rows.length ∧ 0 < p ∧ (ra rows p).g = other ∧ l.2.2 = roadsOf rows p ∧ (l.2.2.map fun k => (ls.getD k.toNat default).t).sum = l.1 ∧ (l.2.2.map fun k => (ls.getD k.toNat default).m).sum = l.2.1 ∧ (∀ k ∈ l.2.2, 0 ≤ k ∧ k < ls.length) ∧ l.2.2.length ≤ 1000001 := by
  have W := reach_walkedB (gate := one) hW hB hg
  have hl : legOf (netOf gs ls) one other lim = (leastOf (reachRows (netOf gs ls) one lim) other).map fun p => ((ra (reachRows (netOf gs ls) one lim) p).t, (ra (reachRows (netOf gs ls) one lim) p).m, roadsOf (reachRows (netOf gs ls) one lim) p) := rfl
  rw [hl] at h
  generalize reachRows (netOf gs ls) one lim = rows at W h
  obtain ⟨p, hp, rfl⟩ := Option.map_eq_some_iff.mp h
  obtain ⟨p0, _, p1⟩ := leastN_lt hp
  obtain ⟨q1, _⟩ := (leastN_spec (rs := rows) (x := other) rows.length (Nat.le_refl _)).2 p hp
  obtain ⟨s1, s2, s3⟩ := road_sum W p p1
  refine ⟨rows, p, W, p1, p0, q1, rfl, s1, s2, s3, ?_⟩
  show (roadsOf rows p).length ≤ _
  have := W.n2
  have h2 : (roadsOf rows p).length ≤ rows.length := by unfold roadsOf; rw [List.length_reverse]; exact backRoads_len _ _ _
  omega
theorem leg_row {gs : List (Str × Bool)} {ls : List LineT} {u lim : Int} {one other : Str} {l : Int × Int × List Int} (hW : WdOk gs ls u) (h0 : 0 ≤ lim) (h1 : lim / u ≤ 100) (hg : one ∈ gs.map (·.1)) (h : legOf (netOf gs ls) one other lim = some l) :
    ∃ rows p, Walked gs ls one lim rows ∧ p < rows.length ∧ 0 < p ∧ (ra rows p).g = other ∧ l.2.2 = roadsOf rows p ∧ (l.2.2.map fun k => (ls.getD k.toNat default).t).sum = l.1 ∧ (l.2.2.map fun k => (ls.getD k.toNat default).m).sum = l.2.1 ∧ (∀ k ∈ l.2.2, 0 ≤ k ∧ k < ls.length) ∧ l.2.2.length ≤ 1000001 := leg_rowB hW (bnd_net hW h0 h1) hg h
theorem guess_stop {n : NetM} {seen : List (Int × Str)} {i : Nat} (h : guessK n seen i = none) : ∀ j, i ≤ j → guessK n seen j = none := by
  intro j hj
  induction j with
  | zero => have : i = 0 := by omega
            subst this; exact h
  | succ j ih =>
    by_cases e : i = j + 1
    · rw [← e]; exact h
    · rw [guessK, ih (by omega)]
theorem guess_bad {n : NetM} {seen : List (Int × Str)} {i : Nat} (h : legK n seen i = none) : guessK n seen (i + 1) = none := by
  rw [guessK, h]
  cases guessK n seen i <;> rfl
theorem walked_t {gs : List (Str × Bool)} {ls : List LineT} {gate : Str} {u lim : Int} {rows : List RowD} (hW : WdOk gs ls u) (W : Walked gs ls gate lim rows) : ∀ k, k < rows.length → 0 ≤ (ra rows k).t := by
  intro k
  induction k using Nat.strongRecOn with
  | ind k ih =>
    intro hk
    by_cases h0 : k = 0
    · subst h0; rw [W.r0]; exact Int.le_refl _
    · obtain ⟨b, kk, g⟩ := W.go k (by omega) hk
      have := ih b g.bk (by have := g.bk; omega)
      have hm : ls.getD kk default ∈ ls := by
        rw [List.getD_eq_getElem?_getD, List.getElem?_eq_getElem g.kl]; exact List.getElem_mem _
      have := (hW.lk _ hm).t0
      rw [g.eq]
      show 0 ≤ (ra rows b).t + _
      omega
theorem leg_facts {gs : List (Str × Bool)} {ls : List LineT} {u lim : Int} {one other : Str} {l : Int × Int × List Int} (hW : WdOk gs ls u) (h0 : 0 ≤ lim) (h1 : lim / u ≤ 100) (hg : one ∈ gs.map (·.1)) (h : legOf (netOf gs ls) one other lim = some l) : 0 ≤ l.1 ∧ l.2.2.length ≤ 6061 := by
  have hw := reach_walked hW h0 h1 hg
  have Wf := wf_net hW.to1
  have B := bnd_net hW h0 h1
  obtain ⟨i, s, R, hnil⟩ := reach_end (gate := one) Wf B
  have hrl := R.done hnil
  have hlen : (reachRows (netOf gs ls) one lim).length ≤ 6061 := by
    have hst : ∀ i, (riter (netOf gs ls) lim i (rstart (netOf gs ls) one lim)).rows.length + sumLv (netOf gs ls) u lim (riter (netOf gs ls) lim i (rstart (netOf gs ls) one lim)).quick ≤ 6061 := by
      intro i
      induction i with
      | zero =>
        show 1 + sumLv (netOf gs ls) u lim [] ≤ _
        rw [sumLv_nil]
        have a1 : gs.length ≤ 60 := hW.g60
        have a4 := Int.ediv_le_ediv (show 0 < u by have := hW.u1; omega) (topN_le (netOf gs ls) lim)
        have a3 : (topN (netOf gs ls) lim / u).toNat + 1 ≤ 101 := by omega
        have b1 : gs.length * ((topN (netOf gs ls) lim / u).toNat + 1) ≤ 60 * 101 := Nat.mul_le_mul a1 a3
        show 1 + gs.length * ((topN (netOf gs ls) lim / u).toNat + 1) ≤ _
        omega
      | succ i ih =>
        rw [riter_succ]
        have I := riter_inv (gate := one) (lim := lim) Wf i
        generalize riter (netOf gs ls) lim i (rstart (netOf gs ls) one lim) = t at ih I
        by_cases hq : t.wait = []
        · have : rstep (netOf gs ls) lim t = t := by unfold rstep; rw [hq]
          rw [this]; exact ih
        · exact Nat.le_trans (mes_step Wf B I hq).2 ih
    have := hst i
    rw [← R.it, hrl] at this
    omega
  unfold legOf at h
  obtain ⟨p, hp, rfl⟩ := Option.map_eq_some_iff.mp h
  obtain ⟨_, _, p1⟩ := leastN_lt hp
  refine ⟨walked_t hW hw p p1, ?_⟩
  show (roadsOf _ p).length ≤ _
  unfold roadsOf
  rw [List.length_reverse]
  exact Nat.le_trans (backRoads_len _ _ _) hlen
theorem passed_names {gs : List (Str × Bool)} {ls : List LineT} {u : Int} (hW : WdOk gs ls u) {rs : List Int} (hr : ∀ r ∈ rs, 0 ≤ r ∧ r < (netOf gs ls).lines.length) (hne : rs ≠ []) (t e : Int) : ∀ q ∈ passedOf (netOf gs ls) rs t e, q.1 ∈ gs.map (·.1) := by
  have h1 : ∀ (rs : List Int) (t : Int), (∀ r ∈ rs, 0 ≤ r ∧ r < (netOf gs ls).lines.length) → ∀ q ∈ passW (netOf gs ls) t rs, q.1 ∈ gs.map (·.1) := by
    intro rs
    induction rs with
    | nil => intro t _ q hq; cases hq
    | cons r rs ih =>
      intro t hr q hq
      rw [passW] at hq
      rcases List.mem_cons.mp hq with rfl | hq
      · have h := hr r List.mem_cons_self
        have := (wf_net hW.to1).ends r.toNat (by omega)
        exact has_mem (n := netOf gs ls) this.2
      · exact ih _ (fun r h => hr r (List.mem_cons_of_mem _ h)) q hq
  intro q hq
  unfold passedOf at hq
  rcases List.mem_append.mp hq with h | h
  · exact h1 rs t hr q ((List.dropLast_sublist _).subset h)
  · rw [List.mem_singleton] at h
    rw [h]
    have hlen := passW_len (netOf gs ls) t rs
    have hp : 0 < rs.length := List.length_pos_iff.mpr hne
    cases hl : (passW (netOf gs ls) t rs).getLast? with
    | none =>
      rw [List.getLast?_eq_none_iff] at hl
      rw [hl] at hlen; simp at hlen; omega
    | some w => exact h1 rs t hr w (List.mem_of_getLast? hl)
theorem guess_names {gs : List (Str × Bool)} {ls : List LineT} {u : Int} {seen : List (Int × Str)} (hW : WdOk gs ls u) (hs : ∀ k, k < seen.length → gtOf seen k ∈ gs.map (·.1)) (hF : ∀ k, k + 1 < seen.length → Fit (netOf gs ls) (tmOf seen (k + 1) - tmOf seen k)) : ∀ i, i < seen.length → ∀ st, guessK (netOf gs ls) seen i = some st → ∀ q ∈ st.2.2, q.1 ∈ gs.map (·.1)
  | 0, hi, st, h, q, hq => by
    cases h
    rw [List.mem_singleton.mp hq]
    exact hs 0 hi
  | i + 1, hi, st, h, q, hq => by
    rw [guessK] at h
    cases h1 : guessK (netOf gs ls) seen i with
    | none => rw [h1] at h; cases h
    | some s0 =>
      cases h2 : legK (netOf gs ls) seen i with
      | none => rw [h1, h2] at h; cases h
      | some l =>
        rw [h1, h2] at h
        cases h
        rcases List.mem_append.mp hq with hq | hq
        · exact guess_names hW hs hF i (by omega) s0 h1 q hq
        · obtain ⟨l1, l2⟩ := legOf_ok (hF i hi) (show legOf _ _ _ _ = some l from h2)
          exact passed_names hW l2 l1 _ _ q hq
/-! law_k12: what is told of the sightings of a car -/
theorem nm_ok {s : Str} (h : isNm s = true) : PyData.strOk s = true := by
  unfold isNm at h
  rw [Bool.and_eq_true_iff] at h
  obtain ⟨cs⟩ := s
  have hl : ∀ c ∈ smallL ++ figL, c < 0x110000 := by decide +kernel
  have := strOk_of (cs := cs.toList) (fun c hc => by
    have h2 := List.all_eq_true.mp h.2 c hc
    unfold nmSign at h2
    rw [Bool.or_eq_true_iff] at h2
    rcases h2 with h2 | h2
    · exact hl c (List.mem_append_left _ (of_decide_eq_true h2))
    · exact hl c (List.mem_append_right _ (of_decide_eq_true h2)))
  rwa [Array.toArray_toList] at this
/-- from a time on, at most eight minutes between -/
def Ch : Int → List Int → Prop
  | _, [] => True
  | a, t :: r => (a ≤ t ∧ t ≤ a + 8) ∧ Ch t r
structure SlOk (nms : List Str) (sl : List (Int × Str)) : Prop where
  ne : sl ≠ []
  l4 : sl.length ≤ 4
  g : ∀ p ∈ sl, p.2 ∈ nms
  ch : Ch 0 (sl.map (·.1))
theorem ch_ge : ∀ {l : List Int} {a : Int}, Ch a l → ∀ t ∈ l, a ≤ t
  | [], _, _, t, h => by cases h
  | x :: r, a, ⟨h1, h2⟩, t, h => by
    rcases List.mem_cons.mp h with rfl | h
    · exact h1.1
    · have := ch_ge h2 t h; omega
theorem ch_pair : ∀ {l : List Int} {a : Int}, Ch a l → l.Pairwise (· ≤ ·)
  | [], _, _ => List.Pairwise.nil
  | x :: r, a, ⟨h1, h2⟩ => List.pairwise_cons.mpr ⟨fun t h => ch_ge h2 t h, ch_pair h2⟩
theorem ch_diff : ∀ {l : List Int} {a : Int}, Ch a l → ∀ k (h : k + 1 < l.length), 0 ≤ l[k + 1] - l[k] ∧ l[k + 1] - l[k] ≤ 8
  | [], _, _, k, h => absurd h (by simp)
  | [x], a, _, k, h => absurd h (by simp)
  | x :: y :: r, a, ⟨h1, h2⟩, 0, h => by
    have := h2.1
    show 0 ≤ y - x ∧ y - x ≤ 8
    omega
  | x :: y :: r, a, ⟨h1, h2⟩, k + 1, h => ch_diff h2 k (by simpa using h)
/-- the last time, and what may come behind it -/
theorem ch_snoc : ∀ {l : List Int} {a t m : Int}, Ch a l → (l.getLast?.getD a) = m → m ≤ t → t ≤ m + 8 → Ch a (l ++ [t])
  | [], a, t, m, _, e, h1, h2 => by subst e; exact ⟨⟨h1, h2⟩, trivial⟩
  | x :: r, a, t, m, ⟨h1, h2⟩, e, h3, h4 => by
    refine ⟨h1, ch_snoc h2 ?_ h3 h4⟩
    rw [← e]
    cases r with
    | nil => rfl
    | cons y r => rw [List.getLast?_cons_cons]; cases hl : (y :: r).getLast? with
      | none => rw [List.getLast?_eq_none_iff] at hl; cases hl
      | some w => rfl
theorem ch_last : ∀ {l : List Int} {a : Int}, Ch a l → a ≤ l.getLast?.getD a ∧ ∀ t ∈ l, t ≤ l.getLast?.getD a
  | [], a, _ => ⟨Int.le_refl _, fun t h => by cases h⟩
  | x :: r, a, ⟨h1, h2⟩ => by
    obtain ⟨i1, i2⟩ := ch_last h2
    have e : (x :: r).getLast?.getD a = r.getLast?.getD x := by
      cases r with
      | nil => rfl
      | cons y r => rw [List.getLast?_cons_cons]; cases hl : (y :: r).getLast? with
        | none => rw [List.getLast?_eq_none_iff] at hl; cases hl
        | some w => rfl
    rw [e]
    refine ⟨by omega, fun t h => ?_⟩
    rcases List.mem_cons.mp h with rfl | h
    · exact i1
    · exact i2 t h
theorem ch_top : ∀ {l : List Int} {a : Int}, Ch a l → l.getLast?.getD a ≤ a + 8 * l.length
  | [], a, _ => by show a ≤ a + 8 * 0; omega
  | x :: r, a, ⟨h1, h2⟩ => by
    have i := ch_top h2
    have e : (x :: r).getLast?.getD a = r.getLast?.getD x := by
      cases r with
      | nil => rfl
      | cons y r => rw [List.getLast?_cons_cons]; cases hl : (y :: r).getLast? with
        | none => rw [List.getLast?_eq_none_iff] at hl; cases hl
        | some w => rfl
    rw [e, List.length_cons]
    omega
section
variable {nms : List Str} {sl : List (Int × Str)} (h : SlOk nms sl)
include h
theorem sl_fst : (srtIS sl).map (·.1) = sl.map (·.1) := srtIS_fst (ch_pair h.ch)
theorem sl_len : (srtIS sl).length = sl.length := (srtIS_perm sl).length_eq
theorem sl_pos : 1 ≤ (srtIS sl).length := by rw [sl_len h]; exact List.length_pos_iff.mpr h.ne
theorem sl_tm (k : Nat) (hk : k < (srtIS sl).length) : tmOf (srtIS sl) k = (sl.map (·.1))[k]'(by rw [List.length_map, ← sl_len h]; exact hk) := by
  unfold tmOf
  rw [List.getD_eq_getElem?_getD, List.getElem?_eq_getElem hk]
  have e : ((srtIS sl).map (·.1))[k]'(by rw [List.length_map]; exact hk) = (sl.map (·.1))[k]'(by rw [List.length_map, ← sl_len h]; exact hk) := by
    congr 1
    exact sl_fst h
  rw [← e, List.getElem_map]; rfl
theorem sl_diff (k : Nat) (hk : k + 1 < (srtIS sl).length) : 0 ≤ tmOf (srtIS sl) (k + 1) - tmOf (srtIS sl) k ∧ tmOf (srtIS sl) (k + 1) - tmOf (srtIS sl) k ≤ 8 := by
  rw [sl_tm h (k + 1) hk, sl_tm h k (by omega)]
  exact ch_diff h.ch k (by rw [List.length_map, ← sl_len h]; exact hk)
theorem sl_gate (k : Nat) (hk : k < (srtIS sl).length) : gtOf (srtIS sl) k ∈ nms := by
  unfold gtOf
  rw [List.getD_eq_getElem?_getD, List.getElem?_eq_getElem hk]
  exact h.g _ ((srtIS_perm sl).mem_iff.mp (List.getElem_mem hk))
theorem sl_look {n : NetM} (hn : ∀ s ∈ nms, n.has s = true) : lookOf n (srtIS sl) = none := by
  have hp := sl_pos h
  unfold lookOf
  rw [if_neg (fun e => by rw [e] at hp; exact absurd hp (by decide))]
  have gen : ∀ (l : List (Int × Str)) (a : Int), (∀ p ∈ l, n.has p.2 = true) → (∀ p ∈ l, a ≤ p.1) → (l.map (·.1)).Pairwise (· ≤ ·) → lookGo n a l = none := by
    intro l
    induction l with
    | nil => intro a _ _ _; rfl
    | cons p r ih =>
      intro a h1 h2 h3
      rw [List.map_cons, List.pairwise_cons] at h3
      unfold lookGo
      rw [if_neg (by rw [h1 p List.mem_cons_self]; exact Bool.noConfusion), if_neg (by have := h2 p List.mem_cons_self; omega)]
      exact ih _ (fun q hq => h1 q (List.mem_cons_of_mem _ hq)) (fun q hq => h3.1 q.1 (List.mem_map.mpr ⟨q, hq, rfl⟩)) h3.2
  apply gen
  · intro p hp
    exact hn _ (h.g _ ((srtIS_perm sl).mem_iff.mp hp))
  · intro p hp
    exact ch_ge h.ch _ (List.mem_map.mpr ⟨p, (srtIS_perm sl).mem_iff.mp hp, rfl⟩)
  · rw [sl_fst h]; exact ch_pair h.ch
end
/-- what a guess tells: from which none fits, or the toll -/
noncomputable def dueOf (n : NetM) (seen : List (Int × Str)) : Nat ⊕ Int :=
  open Classical in
  if h : ∃ k, k + 1 < seen.length ∧ (∃ st, guessK n seen k = some st) ∧ legK n seen k = none then .inl (Classical.choose h)
  else .inr (((guessK n seen (seen.length - 1)).map (·.1)).getD 0)
def dueD : Nat ⊕ Int → Dt
  | .inl k => .tup [.str "none", .int (k : Int)]
  | .inr t => .tup [.str "way", .int t]
def tollO : Nat ⊕ Int → Option Int
  | .inl _ => none
  | .inr t => some t
def tollD : Option Int → Dt
  | none => .non
  | some t => .int t
theorem due_none {n : NetM} {seen : List (Int × Str)} {k : Nat} (h1 : k + 1 < seen.length) (h2 : ∃ st, guessK n seen k = some st) (h3 : legK n seen k = none) : dueOf n seen = .inl k := by
  have h : ∃ k, k + 1 < seen.length ∧ (∃ st, guessK n seen k = some st) ∧ legK n seen k = none := ⟨k, h1, h2, h3⟩
  unfold dueOf
  rw [dif_pos h]
  have hc := Classical.choose_spec h
  generalize Classical.choose h = j at hc
  obtain ⟨c1, ⟨s1, c2⟩, c3⟩ := hc
  obtain ⟨s2, h2⟩ := h2
  congr 1
  rcases Nat.lt_trichotomy j k with q | q | q
  · have := guess_stop (guess_bad c3) k (by omega)
    rw [h2] at this; cases this
  · exact q
  · have := guess_stop (guess_bad h3) j (by omega)
    rw [c2] at this; cases this
theorem due_way {n : NetM} {seen : List (Int × Str)} {st : Int × List Int × List (Str × Int)} (h : guessK n seen (seen.length - 1) = some st) : dueOf n seen = .inr st.1 := by
  unfold dueOf
  rw [dif_neg]
  · rw [h]; rfl
  · rintro ⟨k, c1, c2, c3⟩
    have := guess_stop (guess_bad c3) (seen.length - 1) (by omega)
    rw [h] at this; cases this
/-! the cells of law_k12 -/
def wCell (e : Str × Addr × List (Int × Str)) : Addr × Ow := (e.2.1, .lst (e.2.2.map isD))
structure A12 where
  kp : Addr
  lA : Addr
  gA : Addr
  o : Addr
  kd : Addr
  d2 : Addr
  l : Addr
  d1 : Addr
def fix12 (a : A12) (KP : List (List Dt)) (G : OG) (L : OL) (W : WM) (cl : List Int) : Sto :=
  [(a.kp, .lst (KP.map pairA)), (a.lA, .lst (obL L)), (a.gA, .lst (obG G)), (a.o, .dct (ownK W)), (a.kd, .dct (keptK W)), (a.d2, .dct (closedK cl)), (a.l, .lst (((lsO L).map lineQ).map lineD)), (a.d1, .dct (sightK (gsO G)))]
def dyn12 (G : OG) (L : OL) (W : WM) : Sto := G.map gCell ++ (L.map lCell ++ W.map wCell)
def st12 (a : A12) (KP : List (List Dt)) (G : OG) (L : OL) (W : WM) (cl : List Int) : Sto := fix12 a KP G L W cl ++ dyn12 G L W
theorem mem_g {a : A12} {KP : List (List Dt)} {G : OG} {L : OL} {W : WM} {cl : List Int} {e : Addr × Str × Bool} (h : e ∈ G) : gCell e ∈ st12 a KP G L W cl := List.mem_append_right _ (List.mem_append_left _ (List.mem_map.mpr ⟨e, h, rfl⟩))
theorem mem_l {a : A12} {KP : List (List Dt)} {G : OG} {L : OL} {W : WM} {cl : List Int} {e : Addr × LineT} (h : e ∈ L) : lCell e ∈ st12 a KP G L W cl := List.mem_append_right _ (List.mem_append_right _ (List.mem_append_left _ (List.mem_map.mpr ⟨e, h, rfl⟩)))
theorem mem_w {a : A12} {KP : List (List Dt)} {G : OG} {L : OL} {W : WM} {cl : List Int} {e : Str × Addr × List (Int × Str)} (h : e ∈ W) : wCell e ∈ st12 a KP G L W cl := List.mem_append_right _ (List.mem_append_right _ (List.mem_append_right _ (List.mem_map.mpr ⟨e, h, rfl⟩)))
theorem ost12 {a : A12} {KP : List (List Dt)} {G : OG} {L : OL} {W : WM} {cl : List Int} (h1 : G.length ≤ 1000) (h2 : L.length ≤ 1000) : OSt (st12 a KP G L W cl) 2 1 a.gA a.lA G L :=
  ⟨rfl, rfl, fun _ h => mem_g h, fun _ h => mem_l h, h1, h2⟩
structure I12 (G : OG) (L : OL) (W : WM) (cl : List Int) (i : Nat) : Prop where
  wd : WdOk (gsO G) (lsO L) 1
  g6 : G.length ≤ 6
  l : L.length ≤ 6 + i
  clo : CloRel cl (lsO L)
  lc : cl.length ≤ 6 + i
  w : W.length ≤ i
  kw : (W.map (·.1)).Nodup
  sl : ∀ e ∈ W, isNm e.1 = true ∧ SlOk ((gsO G).map (·.1)) e.2.2
/-- keep part of the cells, in whatever order -/
theorem at_sub {K : PySem.W.Frag} {B G : Hp} {Γ : Gm} {M M' : Sto} {N : L2.St → Hp → Prop} (hs : ∀ p ∈ M', p ∈ M) (nd : (M'.map (·.1)).Nodup) (h : At K B G Γ M' N) : At K B G Γ M N := fun F σ H k => h F σ H ⟨k.fh, k.gf, k.bh, k.nw, k.len, k.env, fun q hq => k.cel q (hs q hq), nd⟩
theorem rt_sub {K : PySem.W.Frag} {B G : Hp} {d : Dt} {M M' : Sto} {Q : VK} (hs : ∀ p ∈ M', p ∈ M) (nd : (M'.map (·.1)).Nodup) (h : Rt K B G d M' Q) : Rt K B G d M Q := fun v F Γ σ H k r => h v F Γ σ H ⟨k.fh, k.gf, k.bh, k.nw, k.len, k.env, fun q hq => k.cel q (hs q hq), nd⟩ r
/-- one cell is written -/
theorem set_sub {M N : Sto} {i : Nat} {a : Addr} {o o' : Ow} (hi : M[i]? = some (a, o)) (nd : (M.map (·.1)).Nodup) (hN : N.map (·.1) = M.map (·.1)) (hc : (a, o') ∈ N) (hm : ∀ p ∈ N, p = (a, o') ∨ p ∈ M) : ∀ p ∈ N, p ∈ M.set i (a, o') := fun p hp => by
  by_cases q : p.1 = a
  · have ndN : (N.map (·.1)).Nodup := hN ▸ nd
    have := nodup_inj ndN hp hc q
    rw [this]
    exact mem_set_self hi
  · rcases hm p hp with h | h
    · rw [h] at q; exact absurd rfl q
    · exact mem_set_ne hi h q
theorem hasn {gs : List (Str × Bool)} {ls : List LineT} : ∀ s ∈ gs.map (·.1), (netOf gs ls).has s = true := fun s h => look_mem h
theorem guess12 {gs : List (Str × Bool)} {ls : List LineT} {sl : List (Int × Str)} (hW : WdOk gs ls 1) (h : SlOk (gs.map (·.1)) sl) : lookOf (netOf gs ls) (srtIS sl) = none ∧ (∀ k, k + 1 < (srtIS sl).length → Fit (netOf gs ls) (tmOf (srtIS sl) (k + 1) - tmOf (srtIS sl) k)) ∧
    (∃ bd, (∀ k l, k + 1 < (srtIS sl).length → legK (netOf gs ls) (srtIS sl) k = some l → l.2.2.length ≤ bd) ∧ ((srtIS sl).length + 1) * bd + 1 ≤ 9000000) ∧ (srtIS sl).length ≤ 1000 := by
  have hl := sl_len h
  have h4 := h.l4
  have hq : ∀ k, k + 1 < (srtIS sl).length → (tmOf (srtIS sl) (k + 1) - tmOf (srtIS sl) k) / 1 ≤ 100 := fun k hk => by
    rw [Int.ediv_one]; have := (sl_diff h k hk).2; omega
  refine ⟨sl_look h hasn, fun k hk => fit_net hW (sl_diff h k hk).1 (hq k hk), ⟨6061, fun k l hk hl => (leg_facts hW (sl_diff h k hk).1 (hq k hk) (sl_gate h k (by omega)) hl).2, by omega⟩, by omega⟩
/-- one of both ends -/
theorem guess_ends {n : NetM} {seen : List (Int × Str)} : (∃ k, dueOf n seen = .inl k) ∨ ∃ t, dueOf n seen = .inr t := by
  cases dueOf n seen with
  | inl k => exact .inl ⟨k, rfl⟩
  | inr t => exact .inr ⟨t, rfl⟩
def slOf (W : WM) (s : Str) : List (Int × Str) := ((W.lookup s).map (·.2)).getD []
theorem slOf_some {W : WM} {s : Str} {e : Addr × List (Int × Str)} (h : W.lookup s = some e) : slOf W s = e.2 := by unfold slOf; rw [h]; rfl
noncomputable def dueW (n : NetM) (W : WM) (s : Str) : Nat ⊕ Int := dueOf n (srtIS (slOf W s))
noncomputable def rowW (n : NetM) (W : WM) (s : Str) : Dt := .tup [.str s, tollD (tollO (dueW n W s))]
theorem key_some {W : WM} {s : Str} (h : s ∈ srtS (W.map (·.1))) : ∃ e, W.lookup s = some e := by
  have := (srtS_perm _).mem_iff.mp h
  obtain ⟨p, hp, rfl⟩ := List.mem_map.mp this
  cases q : W.lookup p.1 with
  | some e => exact ⟨e, rfl⟩
  | none => exact absurd rfl (lookup_none q p hp)
noncomputable def sumW (n : NetM) (W : WM) (ss : List Str) : Int := (ss.filterMap fun s => tollO (dueW n W s)).sum
theorem sum_out (n : NetM) (W : WM) : ∀ ss : List Str, outL (fun s => !(tollD (tollO (dueW n W s))).isNon) (fun s => tollD (tollO (dueW n W s))) ss = (ss.filterMap fun s => tollO (dueW n W s)).map Dt.int
  | [] => rfl
  | s :: r => by
    have ih := sum_out n W r
    unfold outL at ih ⊢
    cases h : tollO (dueW n W s) with
    | none =>
      rw [List.filter_cons, if_neg (by rw [h]; exact Bool.noConfusion), List.filterMap_cons, h]
      exact ih
    | some t =>
      rw [List.filter_cons, if_pos (by rw [h]; rfl), List.filterMap_cons, h, List.map_cons, List.map_cons, ih, h]
      rfl
theorem sh_due {s : Str} {i : Int} (h : PyData.strOk s = true) : ShD 64 (.tup [.str s, .int i]) := by
  apply (sh_tup (n := 4) ?_).mono (by decide)
  intro d hd
  simp at hd
  rcases hd with rfl | rfl
  · exact sh_str h
  · exact sh_int
theorem clo_mem {ls : List LineT} {i : Int} : i ∈ closedOf ls ↔ (0 ≤ i ∧ i < ls.length ∧ (ls.getD i.toNat default).o = false) := by
  constructor
  · intro h
    have h' := h
    unfold closedOf at h
    obtain ⟨k, hk, rfl⟩ := List.mem_map.mp h
    have hk := List.mem_range.mp (List.mem_filter.mp hk).1
    exact ⟨by omega, by omega, by rw [Int.toNat_natCast]; exact (clo_iff hk).mp h'⟩
  · rintro ⟨h0, h1, h2⟩
    have := (clo_iff (ls := ls) (k := i.toNat) (by omega)).mpr h2
    rwa [Int.toNat_of_nonneg h0] at this
theorem net12 {a : A12} {KP : List (List Dt)} {G : OG} {L : OL} {W : WM} {cl : List Int} (h : CloRel cl (lsO L)) : NetAt (st12 a KP G L W cl) (.ob a.d1) (.ob a.l) (.ob a.d2) (netOf (gsO G) (lsO L)) :=
  ⟨.own (j := 7) rfl, .own (j := 6) rfl, .of (.own (j := 5) rfl) fun i => (h i).trans clo_mem.symm⟩
theorem look_w {W : WM} (nd : (W.map (·.1)).Nodup) {e : Str × Addr × List (Int × Str)} (h : e ∈ W) : W.lookup e.1 = some e.2 := by
  cases q : W.lookup e.1 with
  | none => exact absurd rfl (lookup_none q e h)
  | some w =>
    have := nodup_inj nd (lookup_mem q) h rfl
    exact congrArg some (congrArg Prod.snd this)
theorem seesL_mp {α : Type} {M : Sto} (f g : α → Dt) : ∀ {xs : List α}, (∀ x ∈ xs, Sees M (f x) (g x)) → SeesL M (xs.map f) (xs.map g)
  | [], _ => .rfl
  | x :: xs, h => .cons (h x List.mem_cons_self) (seesL_mp f g fun y hy => h y (List.mem_cons_of_mem _ hy))
theorem sees_lines {M : Sto} {L : OL} (h : ∀ e ∈ L, lCell e ∈ M) : SeesL M (obL L) ((lsO L).map llD) := by
  unfold obL lsO
  rw [List.map_map]
  refine seesL_mp _ _ fun e he => ?_
  obtain ⟨j, hj⟩ := List.getElem?_of_mem (h e he)
  show Sees M (.ob e.1) (llD e.2)
  exact Sees.lst hj .rfl
theorem sees_gates {M : Sto} {G : OG} (h : ∀ e ∈ G, gCell e ∈ M) : SeesL M (obG G) ((gsO G).map gateD) := by
  unfold obG gsO
  rw [List.map_map]
  refine seesL_mp _ _ fun e he => ?_
  obtain ⟨j, hj⟩ := List.getElem?_of_mem (h e he)
  show Sees M (.ob e.1) (gateD e.2)
  exact Sees.lst hj .rfl
theorem due_cl (w : Nat ⊕ Int) : clD (dueD w) = true := by cases w <;> rfl
theorem etx_of12 {K : PySem.W.Frag} {B G : Hp} {Γ : Gm} {M : Sto} {tt : TT} {b : Bool} {P : Bool → Sto → Prop} (h : EvT K Γ M tt b) (hp : P b M) : EvTX K B G Γ M tt P := fun F σ H Q k q => h B G F σ H Q k fun F' H' k' e => q F' H' b M k' e hp
def netX (C : Addr) (a : A12) : Dt := .inst C (netF (.ob a.d1) (.ob a.l) (.ob a.d2))
def watX (C Cw : Addr) (a : A12) : Dt := .inst Cw (watchF (netX C a) a.kd)
theorem nd_ix {α : Type} {l : List α} (nd : l.Nodup) {i j : Nat} {hi : i < l.length} {hj : j < l.length} (h : l[i] = l[j]) : i = j := by
  rcases Nat.lt_trichotomy i j with q | q | q
  · exact absurd h (List.pairwise_iff_getElem.mp nd i j hi hj q)
  · exact q
  · exact absurd h.symm (List.pairwise_iff_getElem.mp nd j i hj hi q)
def adr12 (a : A12) : List Addr := [a.kp, a.lA, a.gA, a.o, a.kd, a.d2, a.l, a.d1]
theorem adrs {a : A12} {KP : List (List Dt)} {G : OG} {L : OL} {W : WM} {cl : List Int} : (st12 a KP G L W cl).map (·.1) = adr12 a ++ (G.map (·.1) ++ (L.map (·.1) ++ W.map (·.2.1))) := by
  unfold st12 dyn12
  rw [List.map_append, List.map_append, List.map_append, List.map_map, List.map_map, List.map_map]
  rfl
theorem mem12 {a : A12} {KP : List (List Dt)} {G : OG} {L : OL} {W : WM} {cl : List Int} {p : Addr × Ow} (h : p ∈ st12 a KP G L W cl) : p ∈ fix12 a KP G L W cl ∨ (∃ e ∈ G, p = gCell e) ∨ (∃ e ∈ L, p = lCell e) ∨ ∃ e ∈ W, p = wCell e := by
  rcases List.mem_append.mp h with h | h
  · exact .inl h
  rcases List.mem_append.mp h with h | h
  · obtain ⟨e, he, rfl⟩ := List.mem_map.mp h
    exact .inr (.inl ⟨e, he, rfl⟩)
  rcases List.mem_append.mp h with h | h
  · obtain ⟨e, he, rfl⟩ := List.mem_map.mp h
    exact .inr (.inr (.inl ⟨e, he, rfl⟩))
  · obtain ⟨e, he, rfl⟩ := List.mem_map.mp h
    exact .inr (.inr (.inr ⟨e, he, rfl⟩))
/-- two cells are written -/
theorem set_sub2 {M N : Sto} {i j : Nat} {a b : Addr} {o o' w w' : Ow} (hi : M[i]? = some (a, o)) (hj : M[j]? = some (b, w)) (hab : a ≠ b) (nd : (M.map (·.1)).Nodup) (hN : N.map (·.1) = M.map (·.1)) (hc : (a, o') ∈ N) (hd : (b, w') ∈ N) (hm : ∀ p ∈ N, p = (a, o') ∨ p = (b, w') ∨ p ∈ M) : ∀ p ∈ N, p ∈ (M.set i (a, o')).set j (b, w') := fun p hp => by
  have ndN : (N.map (·.1)).Nodup := hN ▸ nd
  have hj' : (M.set i (a, o'))[j]? = some (b, w) := set_other hj hi (.inl hab.symm)
  by_cases qa : p.1 = a
  · have := nodup_inj ndN hp hc qa
    rw [this]
    exact mem_set_ne hj' (mem_set_self hi) hab
  by_cases qb : p.1 = b
  · have := nodup_inj ndN hp hd qb
    rw [this]
    exact mem_set_self hj'
  rcases hm p hp with h | h | h
  · rw [h] at qa; exact absurd rfl qa
  · rw [h] at qb; exact absurd rfl qb
  · exact mem_set_ne hj' (mem_set_ne hi h qa) qb
/-- two cells are written, a new one laid -/
theorem new_sub2 {M N : Sto} {i j : Nat} {a b q : Addr} {o o' w w' c : Ow} (hi : M[i]? = some (a, o)) (hj : M[j]? = some (b, w)) (hab : a ≠ b) (ndN : (N.map (·.1)).Nodup) (hq : (q, c) ∈ N) (hc : (a, o') ∈ N) (hd : (b, w') ∈ N) (hm : ∀ p ∈ N, p = (q, c) ∨ p = (a, o') ∨ p = (b, w') ∨ p ∈ M) : ∀ p ∈ N, p ∈ (q, c) :: (M.set i (a, o')).set j (b, w') := fun p hp => by
  have hj' : (M.set i (a, o'))[j]? = some (b, w) := set_other hj hi (.inl hab.symm)
  by_cases qq : p.1 = q
  · have := nodup_inj ndN hp hq qq
    rw [this]; exact List.mem_cons_self
  apply List.mem_cons_of_mem
  by_cases qa : p.1 = a
  · have := nodup_inj ndN hp hc qa
    rw [this]
    exact mem_set_ne hj' (mem_set_self hi) hab
  by_cases qb : p.1 = b
  · have := nodup_inj ndN hp hd qb
    rw [this]
    exact mem_set_self hj'
  rcases hm p hp with h | h | h | h
  · rw [h] at qq; exact absurd rfl qq
  · rw [h] at qa; exact absurd rfl qa
  · rw [h] at qb; exact absurd rfl qb
  · exact mem_set_ne hj' (mem_set_ne hi h qa) qb
theorem map_set_self {α β : Type} {f : α → β} {l : List α} {k : Nat} {x y : α} (h : l[k]? = some x) (e : f y = f x) : (l.set k y).map f = l.map f := by
  apply List.ext_getElem?
  intro i
  rw [List.getElem?_map, List.getElem?_map, List.getElem?_set]
  by_cases q : k = i
  · subst q
    rw [if_pos rfl, if_pos (List.getElem?_eq_some_iff.mp h).1, h]
    simp [e]
  · rw [if_neg q]
theorem put_names {gs : List (Str × Bool)} {n : Str} {b : Bool} : (putS gs n b).map (·.1) = gs.map (·.1) := by
  unfold putS
  rw [List.map_map]
  apply List.map_congr_left
  intro p _
  show (if p.1 = n then (n, b) else p).1 = p.1
  split
  · rename_i h; exact h.symm
  · rfl
theorem put_set {gs : List (Str × Bool)} (nd : (gs.map (·.1)).Nodup) {k : Nat} {n : Str} {v b : Bool} (h : gs[k]? = some (n, v)) : putS gs n b = gs.set k (n, b) := by
  unfold putS
  apply List.ext_getElem?
  intro i
  rw [List.getElem?_map, List.getElem?_set]
  by_cases q : k = i
  · subst q
    rw [if_pos rfl, if_pos (List.getElem?_eq_some_iff.mp h).1, h]
    simp
  · rw [if_neg q]
    cases hi : gs[i]? with
    | none => rfl
    | some p =>
      have hne : p.1 ≠ n := fun e => by
        obtain ⟨h1, e1⟩ := List.getElem?_eq_some_iff.mp h
        obtain ⟨h2, e2⟩ := List.getElem?_eq_some_iff.mp hi
        have hk : (gs.map (·.1))[k]'(by rw [List.length_map]; exact h1) = n := by rw [List.getElem_map, e1]
        have hi' : (gs.map (·.1))[i]'(by rw [List.length_map]; exact h2) = n := by rw [List.getElem_map, e2]; exact e
        exact q (nd_ix nd (hk.trans hi'.symm))
      show some (if p.1 = n then (n, b) else p) = _
      rw [if_neg hne]
theorem wd_put {gs : List (Str × Bool)} {ls : List LineT} {n : Str} {b : Bool} (h : WdOk gs ls 1) : WdOk (putS gs n b) ls 1 := by
  have hl : (putS gs n b).length = gs.length := by unfold putS; rw [List.length_map]
  refine ⟨by rw [hl]; exact h.g2, by rw [hl]; exact h.g60, by rw [put_names]; exact h.nd, fun g hg => ?_, h.u1, h.u2, h.ll, fun l hl => ?_⟩
  · have : g.1 ∈ gs.map (·.1) := by rw [← put_names (n := n) (b := b)]; exact List.mem_map.mpr ⟨g, hg, rfl⟩
    obtain ⟨p, hp, e⟩ := List.mem_map.mp this
    rw [← e]; exact h.nm p hp
  · have k := h.lk l hl
    exact ⟨by rw [put_names]; exact k.a, by rw [put_names]; exact k.b, k.ne, k.dv, k.lo, k.hi, k.t0, k.t1⟩
theorem wd_lines {gs : List (Str × Bool)} {ls ls' : List LineT} (h : WdOk gs ls 1) (hl : ls'.length ≤ 64) (hs : ∀ l ∈ ls', LineOk gs 1 l) : WdOk gs ls' 1 := ⟨h.g2, h.g60, h.nd, h.nm, h.u1, h.u2, hl, hs⟩
theorem line_o {gs : List (Str × Bool)} {l : LineT} {o : Bool} (h : LineOk gs 1 l) : LineOk gs 1 { l with o := o } := ⟨h.a, h.b, h.ne, h.dv, h.lo, h.hi, h.t0, h.t1⟩
section
variable {G : OG} {L : OL} {W : WM} {cl : List Int} {i : Nat} (I : I12 G L W cl i) (hi : i ≤ 20)
include I
theorem i_turn {k : Nat} {p : Addr} {n : Str} {v b : Bool} (h : G[k]? = some (p, n, v)) : I12 (G.set k (p, n, b)) L W cl (i + 1) ∧ gsO (G.set k (p, n, b)) = putS (gsO G) n b := by
  have e : gsO (G.set k (p, n, b)) = putS (gsO G) n b := by
    rw [put_set I.wd.nd (k := k) (v := v) (by unfold gsO; rw [List.getElem?_map, h]; rfl)]
    unfold gsO
    rw [List.map_set]
  refine ⟨⟨by rw [e]; exact wd_put I.wd, by rw [List.length_set]; exact I.g6, by have := I.l; omega, I.clo, by have := I.lc; omega, by have := I.w; omega, I.kw, fun w hw => ⟨(I.sl w hw).1, by rw [e, put_names]; exact (I.sl w hw).2⟩⟩, e⟩
include hi
theorem i_shut {k : Nat} {p : Addr} {l : LineT} (h : L[k]? = some (p, l)) : I12 G (L.set k (p, { l with o := !l.o })) W (cloAfter cl (k : Int) (!l.o)) (i + 1) := by
  obtain ⟨hk, hg⟩ := List.getElem?_eq_some_iff.mp h
  have hlk : (lsO L).getD k default = l := by
    unfold lsO
    rw [List.getD_eq_getElem?_getD, List.getElem?_map, h]; rfl
  have hll : (lsO L).length = L.length := by unfold lsO; rw [List.length_map]
  have e : lsO (L.set k (p, { l with o := !l.o })) = lsAft (lsO L) (.shut (k : Int) (!l.o)) := by
    show _ = (lsO L).set ((k : Int)).toNat { (lsO L).getD ((k : Int)).toNat default with o := !l.o }
    rw [Int.toNat_natCast, hlk]
    unfold lsO
    rw [List.map_set]
  have hL := I.l
  refine ⟨?_, I.g6, by rw [List.length_set]; omega, ?_, ?_, by have := I.w; omega, I.kw, I.sl⟩
  · apply wd_lines I.wd
    · unfold lsO; rw [List.length_map, List.length_set]; omega
    · intro l' hl'
      unfold lsO at hl'
      obtain ⟨x, hx, rfl⟩ := List.mem_map.mp hl'
      rcases List.mem_or_eq_of_mem_set hx with hx | hx
      · exact I.wd.lk _ (List.mem_map.mpr ⟨x, hx, rfl⟩)
      · rw [hx]
        exact line_o (I.wd.lk l (List.mem_map.mpr ⟨_, List.mem_of_getElem? h, rfl⟩))
  · rw [e]
    refine clo_shut I.clo (by omega) (by omega) ?_
    rw [Int.toNat_natCast, hlk]
    cases l.o <;> exact Bool.noConfusion
  · have := I.lc
    cases l.o with
    | true => show (cl ++ [(k : Int)]).length ≤ _; rw [List.length_append]; show cl.length + 1 ≤ _; omega
    | false =>
      show (cl.filter _).length ≤ _
      have := List.length_filter_le (fun k2 : Int => decide (k2 ≠ (k : Int))) cl
      omega
theorem i_road {q : Addr} {l : LineT} (h : LineOk (gsO G) 1 l) (ho : l.o = true) : I12 G (L ++ [(q, l)]) W cl (i + 1) := by
  have hL := I.l
  have e : lsO (L ++ [(q, l)]) = lsO L ++ [l] := by unfold lsO; rw [List.map_append]; rfl
  refine ⟨?_, I.g6, by rw [List.length_append]; show L.length + 1 ≤ _; omega, by rw [e]; exact clo_road I.clo ho, by have := I.lc; omega, by have := I.w; omega, I.kw, I.sl⟩
  rw [e]
  apply wd_lines I.wd
  · rw [List.length_append]; unfold lsO; rw [List.length_map]; show L.length + 1 ≤ 64; omega
  · intro l' hl'
    rcases List.mem_append.mp hl' with hl' | hl'
    · exact I.wd.lk _ hl'
    · rw [List.mem_singleton.mp hl']; exact h
end
theorem cps_app (a b : Str) : (a ++ b).cps.toList = a.cps.toList ++ b.cps.toList := by
  show (a.cps ++ b.cps).toList = _
  rw [Array.toList_append]
theorem cut_hi {s : Str} {p : Int} (h : 0 ≤ p) : (cutS s none (some p)).cps.toList = s.cps.toList.take p.toNat := by
  have hl : s.cps.toList.length = s.length := cps_len s
  show (s.cps.toList.drop (HT.sIx s.length 0 none)).take (HT.sIx s.length s.length (some p) - HT.sIx s.length 0 none) = _
  have e1 : HT.sIx s.length 0 none = 0 := rfl
  have e2 : HT.sIx s.length s.length (some p) = min p.toNat s.length := by
    unfold HT.sIx
    simp
    omega
  rw [e1, e2, List.drop_zero, Nat.sub_zero, ← hl]
  by_cases q : p.toNat ≤ s.cps.toList.length
  · rw [Nat.min_eq_left q]
  · rw [Nat.min_eq_right (by omega), List.take_of_length_le (Nat.le_refl _), List.take_of_length_le (by omega)]
theorem cut_lo {s : Str} {p : Int} (h : 0 ≤ p) : (cutS s (some p) none).cps.toList = s.cps.toList.drop p.toNat := by
  have hl : s.cps.toList.length = s.length := cps_len s
  show (s.cps.toList.drop (HT.sIx s.length 0 (some p))).take (HT.sIx s.length s.length none - HT.sIx s.length 0 (some p)) = _
  have e1 : HT.sIx s.length s.length none = s.length := rfl
  have e2 : HT.sIx s.length 0 (some p) = min p.toNat s.length := by
    unfold HT.sIx
    simp
    omega
  rw [e1, e2, ← hl]
  by_cases q : p.toNat ≤ s.cps.toList.length
  · rw [Nat.min_eq_left q, List.take_of_length_le (by rw [List.length_drop]; omega)]
  · rw [Nat.min_eq_right (by omega), List.drop_of_length_le (Nat.le_refl _), List.drop_of_length_le (by omega), List.take_nil]
theorem bad_len {s : Str} (h : 8 < s.length) : isNm s = false := by
  unfold isNm
  rw [decide_eq_false (show ¬ (s.length : Int) ≤ 8 by omega), Bool.and_false, Bool.false_and, Bool.false_and]
theorem bad_first {s : Str} {c : Nat} {r : List Nat} (h : s.cps.toList = c :: r) (hc : ¬ c ∈ smallL) : isNm s = false := by
  unfold isNm
  rw [h, decide_eq_false (show ¬ (c :: r).getD 0 0 ∈ smallL from hc), Bool.and_false, Bool.false_and]
theorem bad_sign {s : Str} {c : Nat} (h : c ∈ s.cps.toList) (hc : nmSign c = false) : isNm s = false := by
  unfold isNm
  rw [show s.cps.toList.all nmSign = false from List.all_eq_false.mpr ⟨c, h, by rw [hc]; exact Bool.noConfusion⟩, Bool.and_false]
theorem nm_len {s : Str} (h : isNm s = true) : 1 ≤ s.length ∧ s.length ≤ 8 := by
  unfold isNm at h
  rw [Bool.and_eq_true_iff, Bool.and_eq_true_iff, Bool.and_eq_true_iff] at h
  have a := of_decide_eq_true h.1.1.1
  have b := of_decide_eq_true h.1.1.2
  omega
def badSigns : Str := " AZ_-.\t\n~{`\x40["
theorem bad_all : ∀ c ∈ badSigns.cps.toList, nmSign c = false := by decide +kernel
theorem bad_sz : badSigns.cps.toList.length = 13 := by decide +kernel
theorem len_app (a b : Str) : (a ++ b).length = a.length + b.length := by rw [← cps_len, ← cps_len, ← cps_len, cps_app, List.length_append]
theorem i_more {G : OG} {L : OL} {W : WM} {cl : List Int} {i j : Nat} (I : I12 G L W cl i) (h : i ≤ j) : I12 G L W cl j :=
  ⟨I.wd, I.g6, by have := I.l; omega, I.clo, by have := I.lc; omega, by have := I.w; omega, I.kw, I.sl⟩
theorem put_key {W : WM} {s : Str} {l : List (Int × Str)} : (putW W s l).map (·.1) = W.map (·.1) := by
  unfold putW
  rw [List.map_map]
  apply List.map_congr_left
  intro e _
  show (if e.1 = s then (e.1, e.2.1, l) else e).1 = e.1
  split <;> rfl
theorem put_adr {W : WM} {s : Str} {l : List (Int × Str)} : (putW W s l).map (·.2.1) = W.map (·.2.1) := by
  unfold putW
  rw [List.map_map]
  apply List.map_congr_left
  intro e _
  show (if e.1 = s then (e.1, e.2.1, l) else e).2.1 = e.2.1
  split <;> rfl
theorem put_mem {W : WM} {s : Str} {l : List (Int × Str)} {e : Addr × List (Int × Str)} (nd : (W.map (·.1)).Nodup) (h : W.lookup s = some e) : (s, e.1, l) ∈ putW W s l ∧ ∀ x ∈ putW W s l, x = (s, e.1, l) ∨ x ∈ W := by
  have hm := lookup_mem h
  constructor
  · exact List.mem_map.mpr ⟨_, hm, if_pos rfl⟩
  · intro x hx
    obtain ⟨y, hy, rfl⟩ := List.mem_map.mp hx
    by_cases q : y.1 = s
    · rw [if_pos q]
      have := nodup_inj nd hy hm q
      rw [this]
      exact .inl rfl
    · rw [if_neg q]; exact .inr hy
section
variable {G : OG} {L : OL} {W : WM} {cl : List Int} {i : Nat} (I : I12 G L W cl i)
include I
theorem i_new {s g : Str} {c : Addr} {t : Int} (hs : isNm s = true) (hl : W.lookup s = none) (hg : g ∈ (gsO G).map (·.1)) (h0 : 0 ≤ t) (h8 : t ≤ 8) : I12 G L (W ++ [(s, c, [(t, g)])]) cl (i + 1) := by
  refine ⟨I.wd, I.g6, by have := I.l; omega, I.clo, by have := I.lc; omega, by rw [List.length_append]; have := I.w; show W.length + 1 ≤ _; omega, ?_, fun e he => ?_⟩
  · rw [List.map_append]
    refine List.nodup_append.mpr ⟨I.kw, by simp, fun x hx y hy z => ?_⟩
    obtain ⟨e, he, rfl⟩ := List.mem_map.mp hx
    have hy' : y = s := List.mem_singleton.mp hy
    exact lookup_none hl e he (z.trans hy')
  · rcases List.mem_append.mp he with he | he
    · exact I.sl e he
    · rw [List.mem_singleton.mp he]
      exact ⟨hs, ⟨fun z => (by cases z), by show 1 ≤ 4; decide, fun p hp => by rw [List.mem_singleton.mp hp]; exact hg, ⟨⟨h0, by show t ≤ 0 + 8; omega⟩, trivial⟩⟩⟩
theorem i_put {s g : Str} {e : Addr × List (Int × Str)} {t : Int} (hl : W.lookup s = some e) (h4 : e.2.length < 4) (hg : g ∈ (gsO G).map (·.1)) (h0 : (e.2.map (·.1)).getLast?.getD 0 ≤ t) (h8 : t ≤ (e.2.map (·.1)).getLast?.getD 0 + 8) : I12 G L (putW W s (e.2 ++ [(t, g)])) cl (i + 1) := by
  have hsl := I.sl _ (lookup_mem hl)
  refine ⟨I.wd, I.g6, by have := I.l; omega, I.clo, by have := I.lc; omega, by have := I.w; unfold putW; rw [List.length_map]; omega, by rw [put_key]; exact I.kw, fun x hx => ?_⟩
  rcases (put_mem I.kw hl).2 x hx with rfl | hx
  · refine ⟨hsl.1, ⟨fun z => by have := congrArg List.length z; rw [List.length_append] at this; exact absurd this (by simp), by rw [List.length_append]; show e.2.length + 1 ≤ 4; omega, fun p hp => ?_, ?_⟩⟩
    · rcases List.mem_append.mp hp with hp | hp
      · exact hsl.2.g p hp
      · rw [List.mem_singleton.mp hp]; exact hg
    · rw [List.map_append]
      exact ch_snoc hsl.2.ch rfl h0 h8
  · exact I.sl x hx
theorem i_drop {s : Str} : I12 G L (dropW W s) cl (i + 1) := by
  have hsub : ∀ e ∈ dropW W s, e ∈ W := fun e he => (List.mem_filter.mp he).1
  refine ⟨I.wd, I.g6, by have := I.l; omega, I.clo, by have := I.lc; omega, by have := I.w; have := List.length_filter_le (fun e : Str × Addr × List (Int × Str) => decide (e.1 ≠ s)) W; unfold dropW; omega, ?_, fun e he => I.sl e (hsub e he)⟩
  exact (List.Sublist.map _ List.filter_sublist).nodup I.kw
end
theorem last_mem {l : List Int} (h : l ≠ []) : l.getLast?.getD 0 ∈ l := by
  cases q : l.getLast? with
  | none => rw [List.getLast?_eq_none_iff] at q; exact absurd q h
  | some w => exact List.mem_of_getLast? q
/-! the cells of the costs -/
def cellC (as : List Addr) (C : Nat → List (Str × Int)) (k : Nat) : Addr × Ow := (as.getD k 0, Ow.dct (costK (C k)))
def cellsC (as : List Addr) (C : Nat → List (Str × Int)) : Sto := (List.range as.length).reverse.map (cellC as C)
def updC (C : Nat → List (Str × Int)) (k : Nat) (c : List (Str × Int)) : Nat → List (Str × Int) := fun i => if i = k then c else C i
theorem cells_start (as : List Addr) : as.reverse.map (fun a => (a, Ow.dct [])) = cellsC as (fun _ => []) := by
  unfold cellsC
  rw [List.map_reverse, List.map_reverse]
  congr 1
  apply List.ext_getElem
  · simp
  · intro i h1 h2
    simp at h1
    simp [cellC, costK, h1]
theorem cells_get {as : List Addr} {C : Nat → List (Str × Int)} {k : Nat} (h : k < as.length) : (cellsC as C)[as.length - 1 - k]? = some (cellC as C k) := by
  unfold cellsC
  rw [List.getElem?_map, List.getElem?_reverse (by rw [List.length_range]; omega), List.length_range, List.getElem?_range (by omega)]
  show some (cellC as C _) = _
  congr 2
  omega
theorem cells_set {as : List Addr} {C : Nat → List (Str × Int)} {k : Nat} {c : List (Str × Int)} (h : k < as.length) : (cellsC as C).set (as.length - 1 - k) (as.getD k 0, Ow.dct (costK c)) = cellsC as (updC C k c) := by
  have hlen : ∀ C', (cellsC as C').length = as.length := fun C' => by unfold cellsC; simp
  apply List.ext_getElem?
  intro i
  by_cases hi : i < as.length
  · have e : as.length - 1 - (as.length - 1 - i) = i := by omega
    have g1 := cells_get (as := as) (C := C) (k := as.length - 1 - i) (by omega)
    have g2 := cells_get (as := as) (C := updC C k c) (k := as.length - 1 - i) (by omega)
    rw [e] at g1 g2
    rw [g2, List.getElem?_set]
    by_cases q : as.length - 1 - k = i
    · rw [if_pos q, if_pos (by rw [hlen]; omega)]
      have : as.length - 1 - i = k := by omega
      rw [this]
      unfold cellC updC
      rw [if_pos rfl]
    · rw [if_neg q, g1]
      have : as.length - 1 - i ≠ k := by omega
      unfold cellC updC
      rw [if_neg this]
  · rw [List.getElem?_eq_none (by rw [List.length_set, hlen]; omega), List.getElem?_eq_none (by rw [hlen]; omega)]
theorem cells_sees {as : List Addr} {C : Nat → List (Str × Int)} {p : Addr × Ow} : SeesL (p :: cellsC as C) (as.map Dt.ob) ((List.range as.length).map fun k => Dt.dct (costK (C k))) := by
  have gen : ∀ ks : List Nat, (∀ k ∈ ks, k < as.length) → SeesL (p :: cellsC as C) (ks.map fun k => Dt.ob (as.getD k 0)) (ks.map fun k => Dt.dct (costK (C k))) := by
    intro ks
    induction ks with
    | nil => intro _; exact .rfl
    | cons k r ih =>
      intro h
      have hg := cells_get (as := as) (C := C) (h k List.mem_cons_self)
      exact .cons (Sees.dct (j := as.length - 1 - k + 1) hg .rfl) (ih fun k hk => h k (List.mem_cons_of_mem _ hk))
  have e : as.map Dt.ob = (List.range as.length).map fun k => Dt.ob (as.getD k 0) := by
    apply List.ext_getElem
    · simp
    · intro i h1 h2
      simp at h1
      simp [h1]
  rw [e]
  exact gen _ fun k hk => List.mem_range.mp hk
theorem costN_ge {gs : List (Str × Bool)} {ls : List LineT} {one : Str} {u : Int} : ∀ {n k : Nat}, n ≤ k → costN gs ls one u n k = []
  | 0, _, _ => rfl
  | n + 1, k, h => by
    show (if k = n then _ else costN gs ls one u n k) = []
    rw [if_neg (by omega)]
    exact costN_ge (by omega)
theorem updC_start {gs : List (Str × Bool)} {ls : List LineT} {one : Str} {u : Int} (m : Nat) : updC (costN gs ls one u m) m [] = costN gs ls one u m := by
  funext k
  unfold updC
  by_cases h : k = m
  · rw [if_pos h, h, costN_ge (Nat.le_refl _)]
  · rw [if_neg h]
theorem updC_end {gs : List (Str × Bool)} {ls : List LineT} {one : Str} {u : Int} (m : Nat) : updC (costN gs ls one u m) m (costRow gs ls one u (costN gs ls one u m) m) = costN gs ls one u (m + 1) := by
  funext k
  unfold updC
  show _ = (if k = m then costRow gs ls one u (costN gs ls one u m) m else costN gs ls one u m k)
  by_cases h : k = m
  · rw [if_pos h]
  · rw [if_neg h]
def optI : Option Int → Dt
  | none => .non
  | some t => .int t
def tA (one : Str) (u : Int) (m : Nat) (l : LineT) : Option Int := if (m : Int) - l.m / u = 0 ∧ l.a = one then some l.t else none
theorem cand_none {gs : List (Str × Bool)} {one : Str} {u : Int} {C : Nat → List (Str × Int)} {m : Nat} {l : LineT} (h : l.o = true ∧ 0 ≤ (m : Int) - l.m / u) (hn : (C ((m : Int) - l.m / u).toNat).lookup l.a = none ∨ gs.lookup l.a ≠ some false) : candOf gs one u C m l = tA one u m l := by
  unfold candOf tA
  rw [if_pos h]
  cases hv : (C ((m : Int) - l.m / u).toNat).lookup l.a with
  | none => rfl
  | some v =>
    dsimp only
    rw [hv] at hn
    rw [if_neg (by rcases hn with h | h; cases h; exact h)]
theorem cand_some {gs : List (Str × Bool)} {one : Str} {u : Int} {C : Nat → List (Str × Int)} {m : Nat} {l : LineT} {v : Int} (h : l.o = true ∧ 0 ≤ (m : Int) - l.m / u) (hv : (C ((m : Int) - l.m / u).toNat).lookup l.a = some v) (hs : gs.lookup l.a = some false) :
    candOf gs one u C m l = match tA one u m l with | none => some (v + l.t) | some w => if v + l.t < w then some (v + l.t) else some w := by
  unfold candOf tA
  rw [if_pos h, hv]
  dsimp only
  rw [if_pos hs]
  by_cases q : (m : Int) - l.m / u = 0 ∧ l.a = one
  · rw [if_pos q, if_pos q]
  · rw [if_neg q, if_neg q]
theorem fold_len (gs : List (Str × Bool)) (one : Str) (u : Int) (C : Nat → List (Str × Int)) (m : Nat) : ∀ (ls : List LineT) (c : List (Str × Int)), (ls.foldl (costStep gs one u C m) c).length ≤ c.length + ls.length
  | [], c => Nat.le_refl _
  | l :: r, c => by
    have h := fold_len gs one u C m r (costStep gs one u C m c l)
    have h2 : (costStep gs one u C m c l).length ≤ c.length + 1 := by
      unfold costStep
      split
      · omega
      · split
        · exact putq_len _ _ _
        · omega
    rw [List.foldl_cons, List.length_cons]
    omega
theorem dct_app {M : Sto} {x : Dt} {kvs : List (Key × Dt)} (h : Dct M x kvs) : ∀ N : Sto, Dct (N ++ M) x kvs
  | [] => h
  | _ :: r => (dct_app h r).push
theorem cells_len {as : List Addr} {C : Nat → List (Str × Int)} : (cellsC as C).length = as.length := by unfold cellsC; simp
theorem cells_getA {as : List Addr} {C : Nat → List (Str × Int)} {k : Nat} {p : Addr × Ow} {M : Sto} (h : k < as.length) : (p :: (cellsC as C ++ M))[as.length - 1 - k + 1]? = some (cellC as C k) := by
  rw [List.getElem?_cons_succ, List.getElem?_append_left (by rw [cells_len]; omega)]
  exact cells_get h
theorem cells_setA {as : List Addr} {C : Nat → List (Str × Int)} {k : Nat} {c : List (Str × Int)} {p : Addr × Ow} {M : Sto} (h : k < as.length) : (p :: (cellsC as C ++ M)).set (as.length - 1 - k + 1) (as.getD k 0, Ow.dct (costK c)) = p :: (cellsC as (updC C k c) ++ M) := by
  rw [List.set_cons_succ, List.set_append_left _ _ (by rw [cells_len]; omega), cells_set h]
theorem updC_upd {C : Nat → List (Str × Int)} {k : Nat} {c d : List (Str × Int)} : updC (updC C k c) k d = updC C k d := by
  funext i
  unfold updC
  by_cases h : i = k
  · rw [if_pos h, if_pos h]
  · rw [if_neg h, if_neg h, if_neg h]
theorem updC_ne {C : Nat → List (Str × Int)} {k j : Nat} {c : List (Str × Int)} (h : j ≠ k) : updC C k c j = C j := if_neg h
theorem updC_eq {C : Nat → List (Str × Int)} {k : Nat} {c : List (Str × Int)} : updC C k c k = c := if_pos rfl
/-- the net that law_k12 makes -/
def see12 (t : Nat) : Bool := !decide ((t : Int) % 3 = 1)
def gs12 (b : Int) (n : Nat) : List (Str × Bool) := (List.range n).map fun t : Nat => (nameOf b (t : Int), see12 t)
def ls12 (ns : List Int) (gs : List (Str × Bool)) (n : Nat) : List LineT := (List.range n).map fun k : Nat => lineOf (mixed ns (40 + (k : Int))) gs 1
theorem gs12_len (b : Int) (n : Nat) : (gs12 b n).length = n := by unfold gs12; rw [List.length_map, List.length_range]
theorem gs12_nd (b : Int) {n : Nat} (h : n ≤ 6) : ((gs12 b n).map (·.1)).Nodup := by
  unfold gs12
  rw [List.map_map]
  refine List.pairwise_map.mpr (List.Pairwise.imp_of_mem (fun {x y} hx hy hlt => ?_) List.pairwise_lt_range)
  have hx := List.mem_range.mp hx
  have hy := List.mem_range.mp hy
  intro z
  have := name_inj (b := b) (t1 := (x : Int)) (t2 := (y : Int)) (.inr ⟨by omega, by omega⟩) (by omega) (by omega) (by omega) (by omega) z
  omega
theorem gs12_nm (b : Int) {n : Nat} (h : n ≤ 6) : ∀ g ∈ gs12 b n, isNm g.1 = true := fun g hg => by
  obtain ⟨t, ht, rfl⟩ := List.mem_map.mp hg
  have := List.mem_range.mp ht
  exact name_nm (by omega) (by omega)
theorem wd12 (ns : List Int) (b : Int) {n n2 : Nat} (h2 : 2 ≤ n) (h6 : n ≤ 6) (hl : n2 ≤ 6) : WdOk (gs12 b n) (ls12 ns (gs12 b n) n2) 1 := by
  have hlen := gs12_len b n
  refine ⟨by omega, by omega, gs12_nd b h6, gs12_nm b h6, by decide, by decide, by unfold ls12; rw [List.length_map, List.length_range]; omega, fun l hl => ?_⟩
  obtain ⟨k, _, rfl⟩ := List.mem_map.mp hl
  exact lineOf_ok (by omega) (gs12_nd b h6) (Int.le_refl 1)
/-- the cells behind a comprehension -/
def zipG (as : List Addr) (gs : List (Str × Bool)) : OG := as.zip gs
theorem zip_snd {α β : Type} : ∀ {as : List α} {bs : List β}, as.length = bs.length → (as.zip bs).map (·.2) = bs
  | [], [], _ => rfl
  | a :: as, b :: bs, h => by
    rw [List.zip_cons_cons, List.map_cons, zip_snd (by simpa using h)]
theorem zip_fst {α β γ : Type} (f : α → γ) : ∀ {as : List α} {bs : List β}, as.length = bs.length → (as.zip bs).map (fun e => f e.1) = as.map f
  | [], [], _ => rfl
  | a :: as, b :: bs, h => by
    rw [List.zip_cons_cons, List.map_cons, List.map_cons, zip_fst f (by simpa using h)]
theorem zip_cell {α : Type} (o : α → Ow) : ∀ {as : List Addr} {bs : List α}, as.zip (bs.map o) = (as.zip bs).map fun e => (e.1, o e.2)
  | [], _ => by simp
  | a :: as, [] => by simp
  | a :: as, b :: bs => by
    rw [List.map_cons, List.zip_cons_cons, List.zip_cons_cons, List.map_cons, zip_cell o]
theorem perm12 {a : A12} {KP : List (List Dt)} {G : OG} {L : OL} {cl : List Int} {M : Sto} :
    ((a.kp, Ow.lst (KP.map pairA)) :: (a.o, Ow.dct (ownK [])) :: (a.kd, Ow.dct (keptK [])) :: (a.d2, Ow.dct (closedK cl)) :: (a.l, Ow.lst (((lsO L).map lineQ).map lineD)) :: (a.d1, Ow.dct (sightK (gsO G))) :: (a.lA, Ow.lst (obL L)) :: ((L.map lCell).reverse ++ ((a.gA, Ow.lst (obG G)) :: ((G.map gCell).reverse ++ M)))).Perm (st12 a KP G L [] cl ++ M) := by
  have h1 : ((L.map lCell).reverse ++ ((a.gA, Ow.lst (obG G)) :: ((G.map gCell).reverse ++ M))).Perm ((a.gA, Ow.lst (obG G)) :: (dyn12 G L [] ++ M)) := by
    refine List.perm_middle.trans (List.Perm.cons _ ?_)
    unfold dyn12
    rw [List.map_nil, List.append_nil, List.append_assoc]
    have e1 : ((L.map lCell).reverse ++ ((G.map gCell).reverse ++ M)).Perm ((L.map lCell) ++ ((G.map gCell) ++ M)) := (List.reverse_perm _).append ((List.reverse_perm _).append (List.Perm.refl _))
    refine e1.trans ?_
    rw [← List.append_assoc, ← List.append_assoc]
    exact List.Perm.append_right _ List.perm_append_comm
  have h2 : ∀ X : Sto, ([(a.kp, Ow.lst (KP.map pairA)), (a.o, Ow.dct (ownK [])), (a.kd, Ow.dct (keptK [])), (a.d2, Ow.dct (closedK cl)), (a.l, Ow.lst (((lsO L).map lineQ).map lineD)), (a.d1, Ow.dct (sightK (gsO G))), (a.lA, Ow.lst (obL L)), (a.gA, Ow.lst (obG G))] ++ X).Perm (fix12 a KP G L [] cl ++ X) := fun X => by
    apply List.Perm.append_right
    unfold fix12
    apply List.Perm.cons
    exact List.perm_append_comm (l₁ := [(a.o, Ow.dct (ownK [])), (a.kd, Ow.dct (keptK [])), (a.d2, Ow.dct (closedK cl)), (a.l, Ow.lst (((lsO L).map lineQ).map lineD)), (a.d1, Ow.dct (sightK (gsO G)))]) (l₂ := [(a.lA, Ow.lst (obL L)), (a.gA, Ow.lst (obG G))])
  have h3 := h2 (dyn12 G L [] ++ M)
  refine List.Perm.trans ?_ (h3.trans (by unfold st12; rw [List.append_assoc]))
  exact (((((((h1.cons _).cons _).cons _).cons _).cons _).cons _).cons _)
theorem set_sub3 {M N : Sto} {i j : Nat} {a b : Addr} {o o' w w' : Ow} (hi : M[i]? = some (a, o)) (hj : M[j]? = some (b, w)) (hab : a ≠ b) (ndN : (N.map (·.1)).Nodup) (hc : (a, o') ∈ N) (hd : (b, w') ∈ N) (hm : ∀ p ∈ N, p = (a, o') ∨ p = (b, w') ∨ p ∈ M) : ∀ p ∈ N, p ∈ (M.set i (a, o')).set j (b, w') := fun p hp => by
  have hj' : (M.set i (a, o'))[j]? = some (b, w) := set_other hj hi (.inl hab.symm)
  by_cases qa : p.1 = a
  · have := nodup_inj ndN hp hc qa
    rw [this]
    exact mem_set_ne hj' (mem_set_self hi) hab
  by_cases qb : p.1 = b
  · have := nodup_inj ndN hp hd qb
    rw [this]
    exact mem_set_self hj'
  rcases hm p hp with h | h | h
  · rw [h] at qa; exact absurd rfl qa
  · rw [h] at qb; exact absurd rfl qb
  · exact mem_set_ne hj' (mem_set_ne hi h qa) qb
theorem drop_nd {a : A12} {KP : List (List Dt)} {G : OG} {L : OL} {W : WM} {cl : List Int} {s : Str} (nd : ((st12 a KP G L W cl).map (·.1)).Nodup) : ((st12 a KP G L (dropW W s) cl).map (·.1)).Nodup := by
  rw [adrs] at nd ⊢
  refine List.Sublist.nodup ?_ nd
  apply List.Sublist.append_left
  apply List.Sublist.append_left
  apply List.Sublist.append_left
  exact List.Sublist.map _ List.filter_sublist
structure Ne5 (base : Sto) (j1 j2 j3 jg jl : Nat) : Prop where
  ne : j1 ≠ j2 ∧ j1 ≠ j3 ∧ j1 ≠ jg ∧ j1 ≠ jl ∧ j2 ≠ j3 ∧ j2 ≠ jg ∧ j2 ≠ jl ∧ j3 ≠ jg ∧ j3 ≠ jl ∧ jg ≠ jl
  lt : j1 < base.length ∧ j2 < base.length ∧ j3 < base.length ∧ jg < base.length ∧ jl < base.length
theorem base5_get {base : Sto} {j1 j2 j3 jg jl : Nat} {d1 l d2 gA lA : Addr} {G : OG} {L : OL} {cl : List Int} (N : Ne5 base j1 j2 j3 jg jl) (k : Nat) :
    (base5 base j1 j2 j3 jg jl d1 l d2 gA lA G L cl)[k]? = if jl = k then some (lA, .lst (obL L)) else if jg = k then some (gA, .lst (obG G)) else if j3 = k then some (d2, .dct (closedK cl)) else if j2 = k then some (l, .lst (((lsO L).map lineQ).map lineD)) else if j1 = k then some (d1, .dct (sightK (gsO G))) else base[k]? := by
  obtain ⟨l1, l2, l3, lg, ll⟩ := N.lt
  have st : ∀ (X : Sto) (j : Nat) (p : Addr × Ow), j < X.length → (X.set j p)[k]? = if j = k then some p else X[k]? := fun X j p h => by
    rw [List.getElem?_set]
    by_cases q : j = k
    · rw [if_pos q, if_pos q, if_pos (q ▸ h)]
    · rw [if_neg q, if_neg q]
  unfold base5
  rw [st _ jl _ (by simpa using ll), st _ jg _ (by simpa using lg), st _ j3 _ (by simpa using l3), st _ j2 _ (by simpa using l2), st _ j1 _ l1]
theorem base5_len {base : Sto} {j1 j2 j3 jg jl : Nat} {d1 l d2 gA lA : Addr} {G : OG} {L : OL} {cl : List Int} : (base5 base j1 j2 j3 jg jl d1 l d2 gA lA G L cl).length = base.length := by
  unfold base5; simp
theorem Ne5.base5 {base : Sto} {j1 j2 j3 jg jl : Nat} {d1 l d2 gA lA : Addr} {G : OG} {L : OL} {cl : List Int} (N : Ne5 base j1 j2 j3 jg jl) : Ne5 (base5 base j1 j2 j3 jg jl d1 l d2 gA lA G L cl) j1 j2 j3 jg jl :=
  ⟨N.ne, by rw [base5_len]; exact N.lt⟩
theorem base5_base5 {base : Sto} {j1 j2 j3 jg jl : Nat} {d1 l d2 gA lA : Addr} {G G2 : OG} {L L2 : OL} {cl cl2 : List Int} (N : Ne5 base j1 j2 j3 jg jl) : base5 (base5 base j1 j2 j3 jg jl d1 l d2 gA lA G L cl) j1 j2 j3 jg jl d1 l d2 gA lA G2 L2 cl2 = base5 base j1 j2 j3 jg jl d1 l d2 gA lA G2 L2 cl2 := by
  apply List.ext_getElem?
  intro k
  rw [base5_get N.base5, base5_get N, base5_get N]
  by_cases a1 : jl = k
  · rw [if_pos a1, if_pos a1]
  by_cases a2 : jg = k
  · rw [if_neg a1, if_pos a2, if_neg a1, if_pos a2]
  by_cases a3 : j3 = k
  · rw [if_neg a1, if_neg a2, if_pos a3, if_neg a1, if_neg a2, if_pos a3]
  by_cases a4 : j2 = k
  · rw [if_neg a1, if_neg a2, if_neg a3, if_pos a4, if_neg a1, if_neg a2, if_neg a3, if_pos a4]
  by_cases a5 : j1 = k
  · rw [if_neg a1, if_neg a2, if_neg a3, if_neg a4, if_pos a5, if_neg a1, if_neg a2, if_neg a3, if_neg a4, if_pos a5]
  simp only [if_neg a1, if_neg a2, if_neg a3, if_neg a4, if_neg a5]
theorem at5_base5 {base : Sto} {j1 j2 j3 jg jl : Nat} {d1 l d2 gA lA : Addr} {G : OG} {L : OL} {cl : List Int} (N : Ne5 base j1 j2 j3 jg jl) : At5 (base5 base j1 j2 j3 jg jl d1 l d2 gA lA G L cl) j1 j2 j3 jg jl d1 l d2 gA lA G L cl := by
  obtain ⟨n12, n13, n1g, n1l, n23, n2g, n2l, n3g, n3l, ngl⟩ := N.ne
  refine ⟨?_, ?_, ?_, ?_, ?_, N.ne⟩
  · rw [base5_get N, if_neg (Ne.symm n1l), if_neg (Ne.symm n1g), if_neg (Ne.symm n13), if_neg (Ne.symm n12), if_pos rfl]
  · rw [base5_get N, if_neg (Ne.symm n2l), if_neg (Ne.symm n2g), if_neg (Ne.symm n23), if_pos rfl]
  · rw [base5_get N, if_neg (Ne.symm n3l), if_neg (Ne.symm n3g), if_pos rfl]
  · rw [base5_get N, if_neg (Ne.symm ngl), if_pos rfl]
  · rw [base5_get N, if_pos rfl]
theorem At5.ne5 {base : Sto} {j1 j2 j3 jg jl : Nat} {d1 l d2 gA lA : Addr} {G : OG} {L : OL} {cl : List Int} (H : At5 base j1 j2 j3 jg jl d1 l d2 gA lA G L cl) : Ne5 base j1 j2 j3 jg jl :=
  ⟨H.ne, (List.getElem?_eq_some_iff.mp H.h1).1, (List.getElem?_eq_some_iff.mp H.h2).1, (List.getElem?_eq_some_iff.mp H.h3).1, (List.getElem?_eq_some_iff.mp H.hg).1, (List.getElem?_eq_some_iff.mp H.hl).1⟩
theorem base5_self {base : Sto} {j1 j2 j3 jg jl : Nat} {d1 l d2 gA lA : Addr} {G : OG} {L : OL} {cl : List Int} (H : At5 base j1 j2 j3 jg jl d1 l d2 gA lA G L cl) : base5 base j1 j2 j3 jg jl d1 l d2 gA lA G L cl = base := by
  unfold base5
  rw [set_self (M := base) H.h1, set_self (M := base) H.h2, set_self (M := base) H.h3, set_self (M := base) H.hg, set_self (M := base) H.hl]
theorem base5_cons {base : Sto} {j1 j2 j3 jg jl : Nat} {d1 l d2 gA lA : Addr} {G : OG} {L : OL} {cl : List Int} {p : Addr × Ow} : base5 (p :: base) (j1 + 1) (j2 + 1) (j3 + 1) (jg + 1) (jl + 1) d1 l d2 gA lA G L cl = p :: base5 base j1 j2 j3 jg jl d1 l d2 gA lA G L cl := rfl
theorem At5.cons {base : Sto} {j1 j2 j3 jg jl : Nat} {d1 l d2 gA lA : Addr} {G : OG} {L : OL} {cl : List Int} {p : Addr × Ow} (H : At5 base j1 j2 j3 jg jl d1 l d2 gA lA G L cl) : At5 (p :: base) (j1 + 1) (j2 + 1) (j3 + 1) (jg + 1) (jl + 1) d1 l d2 gA lA G L cl :=
  ⟨H.h1, H.h2, H.h3, H.hg, H.hl, by have := H.ne; omega⟩
theorem LA.nil : LA [] [] [] [] [] := ⟨fun _ h => (nomatch h), List.nodup_nil⟩
theorem LB.nil (i : Nat) : LB [] [] [] i := ⟨fun _ h => (nomatch h), fun _ h => (nomatch h), List.nodup_nil, fun i => ⟨fun h => (nomatch h), fun h => by have := h.2.1; have := h.1; have e : (lsO []).length = 0 := rfl; omega⟩, Nat.zero_le _, Nat.zero_le _, Nat.zero_le _⟩
theorem LA.more {dyn dyn' : Sto} {G G2 : OG} {L L2 : OL} (A : LA dyn G L G2 L2) (h : ∀ p ∈ dyn, p ∈ dyn') : LA dyn' G L G2 L2 := ⟨fun p hp => h p (A.mem p hp), A.nd⟩
/-! the full net -/
def gt (b : Int) (k : Nat) : Str × Bool := (nameOf b (k : Int), decide ((k : Int) % 2 = 0))
def fgs (b : Int) (t : Nat) : List (Str × Bool) := (List.range t).map (gt b)
def othK (k : Nat) : Int := (k : Int) % 49 + 1 + (if decide ((k : Int) % 49 + 1 = (k : Int) % 50) = true then 1 else 0)
def frd (b : Int) (k : Nat) : LineT := ⟨nameOf b ((k : Int) % 50), nameOf b (othK k), 1 + (k : Int), (k : Int), true⟩
def fls (b : Int) (t : Nat) : List LineT := (List.range t).map (frd b)
def gDeed (b : Int) (k : Nat) : Deed := .gate (nameOf b (k : Int)) (decide ((k : Int) % 2 = 0))
def rDeed (b : Int) (k : Nat) : Deed := .road (nameOf b ((k : Int) % 50)) (nameOf b (othK k)) (1 + (k : Int)) (k : Int)
def fillD (b : Int) (ng nr : Nat) : List Deed := (List.range ng).map (gDeed b) ++ (List.range nr).map (rDeed b)
theorem oth_rng (k : Nat) : 1 ≤ othK k ∧ othK k ≤ 50 ∧ othK k ≠ (k : Int) % 50 := by
  unfold othK
  by_cases h : (k : Int) % 49 + 1 = (k : Int) % 50
  · rw [decide_eq_true h, if_pos rfl]; omega
  · rw [decide_eq_false h, if_neg Bool.noConfusion]; omega
theorem fgs_has {b : Int} {t : Nat} {j : Int} (hb : b % 3 = 1) (h0 : 0 ≤ j) (h1 : j < 61) (ht : t < 61) : ((fgs b t).lookup (nameOf b j)).isSome = true ↔ j < t := by
  rw [← mem_look]
  have e : (fgs b t).map (·.1) = (List.range t).map fun k : Nat => nameOf b (k : Int) := by unfold fgs; rw [List.map_map]; rfl
  rw [e, List.mem_map]
  constructor
  · rintro ⟨k, hk, hn⟩
    have := List.mem_range.mp hk
    have := name_inj (.inl hb) (by omega) (by omega) h0 h1 hn
    omega
  · intro h
    exact ⟨j.toNat, List.mem_range.mpr (by omega), by rw [Int.toNat_of_nonneg h0]⟩
theorem fill_step {b : Int} {ng nr i : Nat} {dd : Deed} (hb : b % 3 = 1) (h1 : 55 ≤ ng) (h2 : ng ≤ 59) (h3 : nr ≤ 199) (h : (fillD b ng nr)[i]? = some dd) :
    GoodD dd ∧ refOf (fgs b (min i ng)) (fls b (i - ng)) dd = none ∧ gsAft (fgs b (min i ng)) dd = fgs b (min (i + 1) ng) ∧ lsAft (fls b (i - ng)) dd = fls b (i + 1 - ng) := by
  have hl : ((List.range ng).map (gDeed b)).length = ng := by rw [List.length_map, List.length_range]
  unfold fillD at h
  rw [List.getElem?_append, hl] at h
  by_cases q : i < ng
  · rw [if_pos q, List.getElem?_map, List.getElem?_range q] at h
    have h' := Option.some.inj h
    subst h'
    rw [Nat.min_eq_left (Nat.le_of_lt q), Nat.min_eq_left (show i + 1 ≤ ng by omega), show i - ng = 0 by omega, show i + 1 - ng = 0 by omega]
    refine ⟨good_name (by omega) (by omega), ?_, ?_, rfl⟩
    · unfold refOf gDeed
      dsimp only
      rw [if_neg (fun z => by have := (fgs_has hb (by omega) (by omega) (by omega)).mp z; omega), if_neg (by unfold fgs; rw [List.length_map, List.length_range]; omega)]
    · show fgs b i ++ [gt b i] = _
      unfold fgs
      rw [List.range_succ, List.map_append]; rfl
  · rw [if_neg q, List.getElem?_map] at h
    obtain ⟨k, hk, rfl⟩ := Option.map_eq_some_iff.mp h
    obtain ⟨hkl, hk⟩ := List.getElem?_eq_some_iff.mp hk
    rw [List.length_range] at hkl
    rw [List.getElem_range] at hk
    obtain ⟨o1, o2, o3⟩ := oth_rng k
    have k50 := Int.emod_nonneg (k : Int) (show (50 : Int) ≠ 0 by decide)
    have k50' := Int.emod_lt_of_pos (k : Int) (show (0 : Int) < 50 by decide)
    rw [Nat.min_eq_right (show ng ≤ i by omega), Nat.min_eq_right (show ng ≤ i + 1 by omega), show i + 1 - ng = (i - ng) + 1 by omega, hk]
    refine ⟨⟨good_name (by omega) (by omega), good_name (by omega) (by omega)⟩, ?_, rfl, ?_⟩
    · unfold refOf rDeed
      dsimp only
      rw [if_neg (fun z => z ⟨(fgs_has hb (by omega) (by omega) (by omega)).mpr (by omega), (fgs_has hb (by omega) (by omega) (by omega)).mpr (by omega)⟩),
        if_neg (fun z => by have := name_inj (.inl hb) (by omega) (by omega) (by omega) (by omega) z; omega), if_neg (fun z => z ⟨⟨by omega, by omega⟩, by omega, by omega⟩),
        if_neg (by unfold fls; rw [List.length_map, List.length_range]; omega)]
    · show fls b k ++ [frd b k] = _
      unfold fls
      rw [List.range_succ, List.map_append]; rfl
theorem fill_len (b : Int) (ng nr : Nat) : (fillD b ng nr).length = ng + nr := by unfold fillD; simp
theorem at_perm {K : PySem.W.Frag} {B G : Hp} {Γ : Gm} {M M' : Sto} {N : L2.St → Hp → Prop} (p : M.Perm M') (h : At K B G Γ M' N) : At K B G Γ M N := fun F σ H k => h F σ H ⟨k.fh, k.gf, k.bh, k.nw, k.len, k.env, fun q hq => k.cel q (p.mem_iff.mpr hq), (List.Perm.nodup_iff (p.map _)).mp k.nd⟩
def baseN (l2A g2A l1A g1A e2 m e1 d2 l d1 : Addr) (G1 : OG) (L1 : OL) (cl1 : List Int) (G2 : OG) (L2 : OL) (cl2 : List Int) (M : Sto) : Sto :=
  (l2A, .lst (obL L2)) :: (g2A, .lst (obG G2)) :: (l1A, .lst (obL L1)) :: (g1A, .lst (obG G1)) :: (e2, .dct (closedK cl2)) :: (m, .lst (((lsO L2).map lineQ).map lineD)) :: (e1, .dct (sightK (gsO G2))) :: (d2, .dct (closedK cl1)) :: (l, .lst (((lsO L1).map lineQ).map lineD)) :: (d1, .dct (sightK (gsO G1))) :: M
def lawN (kp l2A g2A l1A g1A e2 m e1 d2 l d1 : Addr) (KP : List (List Dt)) (G1 : OG) (L1 : OL) (cl1 : List Int) (G2 : OG) (L2 : OL) (cl2 : List Int) (M : Sto) : Sto :=
  (kp, .lst (KP.map pairA)) :: baseN l2A g2A l1A g1A e2 m e1 d2 l d1 G1 L1 cl1 G2 L2 cl2 M
structure St2 (dyn : Sto) (i : Nat) (G1 : OG) (L1 : OL) (cl1 : List Int) (G2 : OG) (L2 : OL) (cl2 : List Int) : Prop where
  a : LA dyn G1 L1 G2 L2
  b1 : LB G1 L1 cl1 i
  b2 : LB G2 L2 cl2 i
structure Sel (C kp l2A g2A l1A g1A e2 m e1 d2 l d1 : Addr) (KP : List (List Dt)) (base M : Sto) (a : Bool) (dyn : Sto) (i : Nat) (j1 j2 j3 jg jl : Nat) (x1 x x2 gA lA : Addr) (G : OG) (L : OL) (cl : List Int) (G' : OG) (L' : OL) : Prop where
  nz : j1 ≠ 0 ∧ j2 ≠ 0 ∧ j3 ≠ 0 ∧ jg ≠ 0 ∧ jl ≠ 0
  at5 : At5 base j1 j2 j3 jg jl x1 x x2 gA lA G L cl
  la : LA dyn G L G' L'
  lb : LB G L cl i
  net : atI [Dt.inst C (netF (.ob d1) (.ob l) (.ob d2)), .inst C (netF (.ob e1) (.ob m) (.ob e2))] (if a = true then 1 else 0) = some (.inst C (netF (.ob x1) (.ob x) (.ob x2)))
  own : atI [Dt.lst [.ob g1A, .ob l1A], .lst [.ob g2A, .ob l2A]] (if a = true then 1 else 0) = some (.lst [.ob gA, .ob lA])
  back : ∀ dyn' Gn Ln cln i' KP', i ≤ i' → LA dyn' Gn Ln G' L' → LB Gn Ln cln i' → ∃ G1 L1 cl1 G2 L2 cl2, St2 dyn' i' G1 L1 cl1 G2 L2 cl2 ∧ (base5 base j1 j2 j3 jg jl x1 x x2 gA lA Gn Ln cln).set 0 (kp, .lst (KP'.map pairA)) = lawN kp l2A g2A l1A g1A e2 m e1 d2 l d1 KP' G1 L1 cl1 G2 L2 cl2 M
theorem sel_of {C kp l2A g2A l1A g1A e2 m e1 d2 l d1 : Addr} {KP : List (List Dt)} {M dyn : Sto} {i : Nat} {G1 : OG} {L1 : OL} {cl1 : List Int} {G2 : OG} {L2 : OL} {cl2 : List Int} (S : St2 dyn i G1 L1 cl1 G2 L2 cl2) (a : Bool) :
    ∃ j1 j2 j3 jg jl x1 x x2 gA lA G L cl G' L', Sel C kp l2A g2A l1A g1A e2 m e1 d2 l d1 KP (lawN kp l2A g2A l1A g1A e2 m e1 d2 l d1 KP G1 L1 cl1 G2 L2 cl2 M) M a dyn i j1 j2 j3 jg jl x1 x x2 gA lA G L cl G' L' := by
  cases a with
  | false => exact ⟨10, 9, 8, 4, 3, d1, l, d2, g1A, l1A, G1, L1, cl1, G2, L2, by decide, ⟨rfl, rfl, rfl, rfl, rfl, by decide⟩, S.a, S.b1, rfl, rfl, fun dyn' Gn Ln cln i' KP' hi A Bb => ⟨Gn, Ln, cln, G2, L2, cl2, ⟨A, Bb, S.b2.mono hi⟩, rfl⟩⟩
  | true => exact ⟨7, 6, 5, 2, 1, e1, m, e2, g2A, l2A, G2, L2, cl2, G1, L1, by decide, ⟨rfl, rfl, rfl, rfl, rfl, by decide⟩, S.a.symm, S.b2, rfl, rfl, fun dyn' Gn Ln cln i' KP' hi A Bb => ⟨G1, L1, cl1, Gn, Ln, cln, ⟨A.symm, S.b1.mono hi, Bb⟩, rfl⟩⟩
/-- two values that are the same: nothing, a number, or a list of one text -/
inductive SameE (M : Sto) : Dt → Dt → Prop
  | non : SameE M .non .non
  | int (n : Int) : SameE M (.int n) (.int n)
  | lst (p a : Addr) (s : Str) : PyData.strOk s = true → (∃ j : Nat, M[j]? = some (p, Ow.lst [.str s])) → (∃ j : Nat, M[j]? = some (a, Ow.lst [.str s])) → SameE M (.ob p) (.ob a)
theorem seesL_map {α : Type} {M : Sto} (f g : α → Dt) : ∀ {xs : List α}, (∀ x ∈ xs, Sees M (f x) (g x)) → SeesL M (xs.map f) (xs.map g)
  | [], _ => .rfl
  | x :: xs, h => .cons (h x List.mem_cons_self) (seesL_map f g fun y hy => h y (List.mem_cons_of_mem _ hy))
theorem sees_own {M : Sto} {jg jl : Nat} {gA lA : Addr} {G : OG} {L : OL} (h : OSt M jg jl gA lA G L) : Sees M (.lst [.ob gA, .ob lA]) (.lst [.lst ((gsO G).map gateD), .lst ((lsO L).map llD)]) := by
  refine Sees.llst (SeesL.cons (Sees.lst h.g ?_) (SeesL.cons (Sees.lst h.l ?_) SeesL.rfl))
  · unfold obG gsO
    rw [List.map_map]
    refine seesL_map _ _ fun e he => ?_
    obtain ⟨j, hj⟩ := List.getElem?_of_mem (h.cg e he)
    show Sees M (.ob e.1) (gateD e.2)
    exact Sees.lst hj .rfl
  · unfold obL lsO
    rw [List.map_map]
    refine seesL_map _ _ fun e he => ?_
    obtain ⟨j, hj⟩ := List.getElem?_of_mem (h.cl e he)
    show Sees M (.ob e.1) (llD e.2)
    exact Sees.lst hj .rfl
theorem ref_ok {gs : List (Str × Bool)} {ls : List LineT} {dd : Deed} {c : Str} (h : refOf gs ls dd = some c) : PyData.strOk c = true := by
  have : c = "SameGate" ∨ c = "FullNet" ∨ c = "NoGate" ∨ c = "NoNumber" ∨ c = "Already" ∨ c = "NoRoad" := by
    unfold refOf at h
    cases dd <;> dsimp only at h
    all_goals (repeat' split at h)
    all_goals first
      | (cases h; done)
      | (have h' := Option.some.inj h; subst h'; simp)
  rcases this with rfl | rfl | rfl | rfl | rfl | rfl <;> decide +kernel
theorem ref_cl {gs : List (Str × Bool)} {ls : List LineT} {dd : Deed} : clO (.lst (refL gs ls dd)) = true := by
  unfold refL
  cases refOf gs ls dd <;> rfl
def T_L_mixed : TmV := fun ds M R _ => ∃ (ns : List Int) (k : Int), ds = [.lsr (ns.map Dt.int), .int k] ∧ 0 ≤ k ∧ R (.int (mixed ns k)) M
def N_L_mixed : List Str := ["_law_script", "_law_k", "_law_cell", "_law_more"]
theorem sc_L_mixed : FnScope N_L_mixed ["_law_script", "_law_k"] (defScope s_L_mixed) := ⟨rfl, rfl, rfl, by decide +kernel, rfl, by decide +kernel, by decide +kernel⟩
section
variable {P : Program} {w : World} {K : PySem.W.Frag} {mg : Str → Option Value} {base : Heap}
theorem okF_L_mixed {fd : FuncData} (c : Cxt K mg) (F : FunD K "_law_mixed" "_law_mixed" (defArgs s_L_mixed) (defBody s_L_mixed) (defScope s_L_mixed) [] [] (He.ga K "_law_mixed") fd) : FnOk P w K mg base (L2.CX P w) 1 (He.ga K "_law_mixed") fd ["_law_script", "_law_k"] (Vl.spT K T_L_mixed) := by
  refine fnT F sc_L_mixed (by decide) (fun ds M R X h => by obtain ⟨_, _, rfl, _⟩ := h; rfl) (fun cdv A outer s H E hr => ?_)
  have hu := hu_of hr
  have hu64 := hr.units
  refine ⟨_, PSs.nox (pss_cons (ps_set (i := 2) sc_L_mixed.nd rfl (Or.inl rfl) pe_int)
      (pss_cons (ps_if (pt_cmpR op_gt (pe_callB (klenU K rfl) (by rfl) (n_len c) PySem.boot_len (pa_cons (pv 0) pa_nil)) pe_int (nomark _)) (pss_one (ps_set (i := 2) sc_L_mixed.nd rfl (Or.inl rfl) (pe_ix (kixU K rfl hu) (pv 0) (pe_op op_mod (pv 1) (pe_callB (klenU K rfl) (by rfl) (n_len c) PySem.boot_len (pa_cons (pv 0) pa_nil))) (fun _ _ => rfl)))) pss_nil)
      (pss_cons (ps_set (i := 3) sc_L_mixed.nd rfl (Or.inl rfl) (pe_op op_mod (pe_op op_mulU (pe_op (kaddU K rfl) (pv 2) (pe_op op_mulU pe_int (pv 1))) pe_int) pe_int))
      (pss_one (ps_ret (pe_op op_mod (pe_op (kaddU K rfl) (pe_op op_mulU (pv 3) (pv 3)) (pe_op op_mulU pe_int (pv 3))) pe_int)))))), ?_⟩
  intro B G ds M R X Q ht hQ hX
  obtain ⟨ns, k, rfl, h0, hR⟩ := ht
  change At K B G [some _, some _, none, none] M _
  walk_at "asg"
  apply at_seq
  have hl : (ns.map Dt.int).length = ns.length := List.length_map _
  apply at_ifI (x := ns.getD (k % ns.length).toNat 0)
  · walk_at "et"
  · rfl
  · intro hb
    have hb' : 0 < (ns.length : Int) := by simpa using hb
    have h1 : 0 ≤ k % (ns.length : Int) := Int.emod_nonneg _ (by omega)
    have h2 : k % (ns.length : Int) < ns.length := Int.emod_lt_of_pos _ hb'
    rw [← hl] at hb'
    apply EvD.is
    · walk_at "ev"
    · rw [hl]
  · walk_at "q"
    walk_at "asg"
    apply at_ret
    · walk_at "ev"
    · refine hQ _ _ ?_
      simpa [mixed, mixOf] using hR
theorem ok_L_mixed (c : Cxt K mg) : FnG P w K mg base (He.ga K "_law_mixed") ["_law_script", "_law_k"] 1 (Vl.spT K T_L_mixed) := by
  obtain ⟨fd, F⟩ := F_L_mixed c
  exact ⟨⟨fd, okF_L_mixed c F, F.bindsN fun _ _ _ _ _ _ us hl => match us, hl with | [_, _], _ => rfl⟩, F.kp⟩
end

def N_Net___init__ : List Str := ["self"]
theorem sc_Net___init__ : FnScope N_Net___init__ ["self"] (defScope s_Net___init__) := ⟨rfl, rfl, rfl, by decide +kernel, rfl, by decide +kernel, by decide +kernel⟩
section
variable {P : Program} {w : World} {K : PySem.W.Frag} {mg : Str → Option Value} {base : Heap}
theorem okF_Net___init__ {fd : FuncData} (c : Cxt K mg) (F : FunD K "__init__" "Net.__init__" (defArgs s_Net___init__) (defBody s_Net___init__) (defScope s_Net___init__) [] [] (He.ma K (He.ga K "Net") "__init__") fd) : FnOk P w K mg base (L2.CX P w) 1 (He.ma K (He.ga K "Net") "__init__") fd ["self"] (spInit K) := by
  refine F.ok sc_Net___init__ (fun vs H Q E h => by obtain ⟨_, rfl, _⟩ := h; rfl) (fun cdv A outer s H vs Q E hr h => ?_)
  have hu := hu_of hr
  have hu64 := hr.units
  refine ⟨_, PSs.nox (pss_cons (ps_fld (pv 0) pe_dnewK rfl)
      (pss_cons (ps_fld (pv 0) (pe_lst pa_nil) rfl)
      (pss_one (ps_fld (pv 0) pe_dnewK rfl)))), ?_⟩
  obtain ⟨a, rfl, _, C, dx, ha, hc, hn, hq⟩ := h
  have ne : ∀ {H' : Hp} {p : Addr}, H' p = none → H' a ≠ none → a ≠ p := fun h1 h2 e => h2 (e ▸ h1)
  intro d1 h1
  have n1 : a ≠ d1 := ne h1 (by rw [ha]; exact fun z => nomatch z)
  refine ⟨_, rfl, a, C, dx, [], rfl, (upd_ne n1).trans ha, hc, hn _ (.inl rfl), by decide, ?_⟩
  refine ⟨Nat.zero_le _, fun l h2 => ?_⟩
  have l1 : l ≠ a := fun e => by rw [e, upd_same] at h2; cases h2
  rw [upd_ne l1] at h2
  have l2 : l ≠ d1 := fun e => by rw [e, upd_same] at h2; cases h2
  rw [upd_ne l2] at h2
  refine ⟨_, rfl, a, C, dx, _, rfl, (upd_ne (fun e => l1 e.symm)).trans upd_same, hc, hn _ (.inr (.inl rfl)), Nat.le_of_ble_eq_true rfl, ?_⟩
  intro d2 h3
  have m1 : d2 ≠ a := fun e => by rw [e, upd_same] at h3; cases h3
  rw [upd_ne m1] at h3
  have m2 : d2 ≠ l := fun e => by rw [e, upd_same] at h3; cases h3
  rw [upd_ne m2, upd_ne m1] at h3
  have m3 : d2 ≠ d1 := fun e => by rw [e, upd_same] at h3; cases h3
  rw [upd_ne m3] at h3
  refine ⟨_, rfl, a, C, dx, _, rfl, (upd_ne (fun e => m1 e.symm)).trans upd_same, hc, hn _ (.inr (.inr rfl)), Nat.le_of_ble_eq_true rfl, ?_⟩
  have := hq d1 l d2 h1 h2 h3 (fun e => l2 e.symm) (fun e => m3 e.symm) (fun e => m2 e.symm)
  have e : upd (upd (upd (upd (upd (upd H d1 (.dK [])) a (.ins C dx (putF "sight" (.ref d1) []))) l (.lst [])) a (.ins C dx (putF "lines" (.ref l) (putF "sight" (.ref d1) [])))) d2 (.dK [])) a (.ins C dx (putF "closed" (.ref d2) (putF "lines" (.ref l) (putF "sight" (.ref d1) [])))) = netH H a C dx d1 l d2 := by
    funext b
    unfold netH
    by_cases b0 : b = a
    · subst b0; rw [upd_same, upd_same]; rfl
    · rw [upd_ne b0, upd_ne b0]
      by_cases b1 : b = d2
      · subst b1; rw [upd_same, upd_same]
      · rw [upd_ne b1, upd_ne b1, upd_ne b0]
        by_cases b2 : b = l
        · subst b2; rw [upd_same, upd_same]
        · rw [upd_ne b2, upd_ne b2, upd_ne b0]
  exact e ▸ this
theorem ok_Net___init__ (c : Cxt K mg) : FnG P w K mg base (He.ma K (He.ga K "Net") "__init__") ["self"] 1 (spInit K) := by
  obtain ⟨fd, F⟩ := F_Net___init__ c
  exact ⟨⟨fd, okF_Net___init__ c F, F.bindsN fun _ _ _ _ _ _ us hl => match us, hl with | [_], _ => rfl⟩, F.kp⟩
end
def T_is_name : TmV := fun ds M R _ => ∃ (s : Str), ds = [.str s] ∧ s.length ≤ 10000000 ∧ R (.bl (isNm s)) M
def N_is_name : List Str := ["text", "sign"]
theorem sc_is_name : FnScope N_is_name ["text"] (defScope s_is_name) := ⟨rfl, rfl, rfl, by decide +kernel, rfl, by decide +kernel, by decide +kernel⟩
section
variable {P : Program} {w : World} {K : PySem.W.Frag} {mg : Str → Option Value} {base : Heap}
theorem okF_is_name {fd : FuncData} (c : Cxt K mg) (F : FunD K "is_name" "is_name" (defArgs s_is_name) (defBody s_is_name) (defScope s_is_name) [] [] (He.ga K "is_name") fd) : FnOk P w K mg base (L2.CX P w) 1 (He.ga K "is_name") fd ["text"] (Vl.spT K T_is_name) := by
  refine fnT F sc_is_name (by decide) (fun ds M R X h => by obtain ⟨_, rfl, _⟩ := h; rfl) (fun cdv A outer s H E hr => ?_)
  have hu := hu_of hr
  have hu64 := hr.units
  refine ⟨_, PSs.nox (pss_cons (ps_if (PW.pt (pw_or (pt_not (pt_chain op_le op_le pe_int (pe_callB (klenU K rfl) (by rfl) (n_len c) PySem.boot_len (pa_cons (pv 0) pa_nil)) (pe_glI (c_MOST_SIGNS c) (by rfl)))) (pw_or1 (pt_cmpR (kniU K rfl hu) (pe_ix (kixU K rfl hu) (pv 0) pe_int (fun _ _ => rfl)) (pe_glS (c_SMALL c) (by rfl)) (by rfl))))) (pss_one (ps_ret pe_bl)) pss_nil)
      (pss_one (ps_ret (pe_callB (kall K rfl rfl) (by rfl) (n_all c) (by decide +kernel) (pa_cons (pe_lc (own := [("sign", 1)]) (g := gName 1) (tt := tYes) rfl sc_is_name.nd (kseqU K rfl (pv 0)) (blkOk_by (own := [("sign", 1)]) (N := N_is_name) (sc := defScope s_is_name) (by decide +kernel)) (fun _ _ _ _ _ => pg_name (i := 1) sc_is_name.nd rfl (Or.inl rfl)) (fun _ _ _ _ _ => pts_nil) (fun _ _ _ _ _ => (pe_or (pe_cmpR (kinU K rfl hu) (pv 1) (pe_glS (c_SMALL c) (by rfl)) (by rfl)) (pe_one (pe_cmpR (kinU K rfl hu) (pv 1) (pe_glS (c_FIGURES c) (by rfl)) (by rfl)))))) pa_nil))))), ?_⟩
  intro B G ds M R X Q ht hQ hX
  obtain ⟨s, rfl, hs, hR⟩ := ht
  change At K B G [some _, none] M _
  walk_at "sq"
  have key : isNm s = (!((!(decide ((1 : Int) ≤ s.length) && decide ((s.length : Int) ≤ 8))) || !decide (s.cps.toList.getD 0 0 ∈ smallL)) && s.cps.toList.all nmSign) := by
    unfold isNm
    generalize decide ((1 : Int) ≤ s.length) = a
    generalize decide ((s.length : Int) ≤ 8) = b
    generalize decide (s.cps.toList.getD 0 0 ∈ smallL) = d
    cases a <;> cases b <;> cases d <;> rfl
  rw [key] at hR
  apply at_if (b := (!(decide ((1 : Int) ≤ s.length) && decide ((s.length : Int) ≤ 8))) || !decide (s.cps.toList.getD 0 0 ∈ smallL))
  · apply et_or
    · walk_at "et"
    · intro h
      have h1 : 1 ≤ s.length := by
        simp at h
        omega
      apply et_test
      apply ed_op
      · apply ed_op
        · walk_at "ev"
        · walk_at "ev"
        · apply u_ixS hs (at0 h1)
      · walk_at "ev"
      · exact u_niS
  · intro h
    rw [h] at hR
    apply at_ret
    · walk_at "ev"
    · exact hQ _ _ hR
  · intro h
    rw [h] at hR
    walk_at "nx"
    apply at_ret
    · apply ed_cb
      · apply ea_cons
        · apply EvN.toD
          apply en_lcS (fun _ => true) (fun ch => .bl (nmSign ch)) (by walk_at "ev") hs
          intro i ch hc
          refine ⟨by walk_at "et", fun _ => ?_⟩
          walk_at "q"
          show EvD K _ _ _ (.bl (decide (ch ∈ smallL) || decide (ch ∈ figL)))
          apply ed_orV
          · apply ed_op
            · walk_at "ev"
            · walk_at "ev"
            · exact u_inS
          · intro _
            apply ed_op
            · walk_at "ev"
            · walk_at "ev"
            · exact u_inS
        · exact ea_nil
      · have e : outL (fun _ => true) (fun ch => Dt.bl (nmSign ch)) s.cps.toList = (s.cps.toList.map nmSign).map Dt.bl := by rw [outL_all, List.map_map]; rfl
        rw [e]
        exact c_all Lst.frz
    · rw [show (s.cps.toList.map nmSign).all id = s.cps.toList.all nmSign by rw [List.all_map]; rfl]
      exact hQ _ _ hR
theorem ok_is_name (c : Cxt K mg) : FnG P w K mg base (He.ga K "is_name") ["text"] 1 (Vl.spT K T_is_name) := by
  obtain ⟨fd, F⟩ := F_is_name c
  exact ⟨⟨fd, okF_is_name c F, F.bindsN fun _ _ _ _ _ _ us hl => match us, hl with | [_], _ => rfl⟩, F.kp⟩
end
def T_Net_gate (K : PySem.W.Frag) : TmV := fun ds M R X => ∃ (d1 : Addr) (y z : Dt) (j : Nat) (g : List (Str × Bool)) (s : Str) (b : Bool) (_ : s.length ≤ 10000000), ds = [.inst (He.ga K "Net") (netF (.ob d1) y z), .str s, .bl b] ∧ M[j]? = some (d1, .dct (sightK g)) ∧
  (if isNm s = false then X (He.ga K "NoName") M else if (g.lookup s).isSome = true then X (He.ga K "SameGate") M else if 60 ≤ g.length then X (He.ga K "FullNet") M else R .non (M.set j (d1, .dct (sightK (g ++ [(s, b)])))))
def N_Net_gate : List Str := ["self", "name", "sees"]
theorem sc_Net_gate : FnScope N_Net_gate ["self", "name", "sees"] (defScope s_Net_gate) := ⟨rfl, rfl, rfl, by decide +kernel, rfl, by decide +kernel, by decide +kernel⟩
section
variable {P : Program} {w : World} {K : PySem.W.Frag} {mg : Str → Option Value} {base : Heap}
theorem okF_Net_gate {fd : FuncData} (c : Cxt K mg) (F : FunD K "gate" "Net.gate" (defArgs s_Net_gate) (defBody s_Net_gate) (defScope s_Net_gate) [] [] (He.ma K (He.ga K "Net") "gate") fd) : FnOk P w K mg base (L2.CX P w) 2 (He.ma K (He.ga K "Net") "gate") fd ["self", "name", "sees"] (Vl.spT K (T_Net_gate K)) := by
  obtain ⟨⟨fd_is_name, G_is_name, b_is_name⟩, k_is_name⟩ := ok_is_name (P := P) (w := w) (base := base) c
  refine fnT F sc_Net_gate (by decide) (fun ds M R X h => by obtain ⟨_, _, _, _, _, _, _, _, rfl, _⟩ := h; rfl) (fun cdv A outer s H E hr => ?_)
  have hu := hu_of hr
  have hu64 := hr.units
  refine ⟨_, (pss_cons (ps_if (pt_not (pt_val (pe_call G_is_name (hr.mono (by decide)) (by rfl) (g_is_name c) k_is_name b_is_name .nil passL (pa_cons (pv 1) pa_nil)))) (pss_one (ps_raise rfl (takes_of rfl rfl rfl rfl) (pmk_own PySem.F.excBase_ValueError (x_NoName c).1 (g_NoName c) (x_NoName c).2.1 (raises_own (x_NoName c).2.2.1 (x_NoName c).2.2.2) rfl))) pss_nil)
      (pss_cons (ps_if (pt_cmpR (kinU K rfl hu) (pv 1) (kfld K rfl (pv 0) rfl) (by rfl)) (pss_one (ps_raise rfl (takes_of rfl rfl rfl rfl) (pmk_own PySem.F.excBase_ValueError (x_SameGate c).1 (g_SameGate c) (x_SameGate c).2.1 (raises_own (x_SameGate c).2.2.1 (x_SameGate c).2.2.2) rfl))) pss_nil)
      (pss_cons (ps_if (pt_cmpR op_ge (pe_callB (klenU K rfl) (by rfl) (n_len c) PySem.boot_len (pa_cons (kfld K rfl (pv 0) rfl) pa_nil)) (pe_glI (c_MOST_GATES c) (by rfl)) (nomark _)) (pss_one (ps_raise rfl (takes_of rfl rfl rfl rfl) (pmk_own PySem.F.excBase_ValueError (x_FullNet c).1 (g_FullNet c) (x_FullNet c).2.1 (raises_own (x_FullNet c).2.2.1 (x_FullNet c).2.2.2) rfl))) pss_nil)
      (pss_one (ps_asg (pv 2) (pg_sub (kfld K rfl (pv 0) rfl) (pv 1) (set_U hu))))))), ?_⟩
  intro B G ds M R X Q ht hQ hX
  obtain ⟨d1, y, z, j, g, s, b, hs, rfl, hj, hR⟩ := ht
  change At K B G [some _, some _, some _] M _
  have fld : EvD K [some (.inst (He.ga K "Net") (netF (.ob d1) y z)), some (Dt.str s), some (Dt.bl b)] M (tFld K (tVar 0) "sight") (.ob d1) := by
    apply ed_fld
    · walk_at "ev"
    · exact cl_Net c
    · exact na_Net_sight c
    · rfl
  have hD : Dct M (.ob d1) (sightK g) := .own hj
  walk_at "sq"
  apply at_if (b := !isNm s)
  · apply et_not
    apply et_B
    apply evd_call
    · walk_at "ea"
    · exact ⟨s, rfl, hs, rfl, rfl⟩
  · intro h
    rw [if_pos (by simpa using h)] at hR
    exact at_raise (hX _ _ hR)
  intro h
  rw [if_neg (by simpa using h)] at hR
  walk_at "nx"
  walk_at "sq"
  apply at_if (b := (g.lookup s).isSome)
  · apply et_test
    rw [show (g.lookup s).isSome = (valD (sightK g) (Sum.inr s)).isSome by rw [val_sight]; cases g.lookup s <;> rfl]
    apply ed_op
    · walk_at "ev"
    · exact fld
    · exact u_inD hD rfl
  · intro h
    rw [if_pos h] at hR
    exact at_raise (hX _ _ hR)
  intro h2
  rw [if_neg (by simp [h2])] at hR
  walk_at "nx"
  walk_at "sq"
  apply at_if (b := decide ((60 : Int) ≤ g.length))
  · apply et_test
    rw [show ((g.length : Nat) : Int) = ((sightK g).length : Nat) by unfold sightK; rw [List.length_map]]
    apply ed_op
    · apply ed_cb
      · exact ea_cons fld ea_nil
      · exact u_lenD hD
    · walk_at "ev"
    · walk_at "op"
  · intro h
    rw [if_pos (by have := of_decide_eq_true h; omega)] at hR
    exact at_raise (hX _ _ hR)
  intro h3
  have h3' : ¬ (60 : Int) ≤ g.length := of_decide_eq_false h3
  rw [if_neg (by omega)] at hR
  walk_at "nx"
  apply at_setD j (key := Sum.inr s) (d := .bl b)
  · walk_at "ev"
  · exact fld
  · exact hj
  · walk_at "ev"
  · rfl
  · unfold sightK; rw [List.length_map]; omega
  rw [put_sight (by cases hh : g.lookup s with | none => rfl | some v => rw [hh] at h2; cases h2)]
  exact fun F σ H k => hQ _ _ hR .non F _ σ H k .non
theorem ok_Net_gate (c : Cxt K mg) : FnG P w K mg base (He.ma K (He.ga K "Net") "gate") ["self", "name", "sees"] 2 (Vl.spT K (T_Net_gate K)) := by
  obtain ⟨fd, F⟩ := F_Net_gate c
  exact ⟨⟨fd, okF_Net_gate c F, F.bindsN fun _ _ _ _ _ _ us hl => match us, hl with | [_, _, _], _ => rfl⟩, F.kp⟩
end
def T_Net_need (K : PySem.W.Frag) : TmV := fun ds M R X => ∃ (x y z : Dt) (g : List (Str × Bool)) (s : Str), ds = [.inst (He.ga K "Net") (netF x y z), .str s] ∧ Dct M x (sightK g) ∧ (if (g.lookup s).isSome = true then R .non M else X (He.ga K "NoGate") M)
def N_Net_need : List Str := ["self", "name"]
theorem sc_Net_need : FnScope N_Net_need ["self", "name"] (defScope s_Net_need) := ⟨rfl, rfl, rfl, by decide +kernel, rfl, by decide +kernel, by decide +kernel⟩
section
variable {P : Program} {w : World} {K : PySem.W.Frag} {mg : Str → Option Value} {base : Heap}
theorem okF_Net_need {fd : FuncData} (c : Cxt K mg) (F : FunD K "need" "Net.need" (defArgs s_Net_need) (defBody s_Net_need) (defScope s_Net_need) [] [] (He.ma K (He.ga K "Net") "need") fd) : FnOk P w K mg base (L2.CX P w) 1 (He.ma K (He.ga K "Net") "need") fd ["self", "name"] (Vl.spT K (T_Net_need K)) := by
  refine fnT F sc_Net_need (by decide) (fun ds M R X h => by obtain ⟨_, _, _, _, _, rfl, _⟩ := h; rfl) (fun cdv A outer s H E hr => ?_)
  have hu := hu_of hr
  have hu64 := hr.units
  refine ⟨_, (pss_one (ps_if (pt_cmpR (kniU K rfl hu) (pv 1) (kfld K rfl (pv 0) rfl) (by rfl)) (pss_one (ps_raise rfl (takes_of rfl rfl rfl rfl) (pmk_own PySem.F.excBase_ValueError (x_NoGate c).1 (g_NoGate c) (x_NoGate c).2.1 (raises_own (x_NoGate c).2.2.1 (x_NoGate c).2.2.2) rfl))) pss_nil)), ?_⟩
  intro B G ds M R X Q ht hQ hX
  obtain ⟨x, y, z, g, s, rfl, hN, hR⟩ := ht
  change At K B G [some _, some _] M _
  apply at_if (b := !(g.lookup s).isSome)
  · apply et_test
    have : (g.lookup s).isSome = (valD (sightK g) (Sum.inr s)).isSome := by
      rw [val_sight]; cases g.lookup s <;> rfl
    rw [this]
    apply ed_op
    · walk_at "ev"
    · apply ed_fld
      · walk_at "ev"
      · exact cl_Net c
      · exact na_Net_sight c
      · rfl
    · exact u_niD hN rfl
  · intro h
    rw [if_neg (by cases hh : (g.lookup s).isSome <;> simp_all)] at hR
    exact at_raise (hX _ _ hR)
  · intro h
    rw [if_pos (by cases hh : (g.lookup s).isSome <;> simp_all)] at hR
    apply at_next
    exact fun F σ H k => hQ _ _ hR .non F _ σ H k .non
theorem ok_Net_need (c : Cxt K mg) : FnG P w K mg base (He.ma K (He.ga K "Net") "need") ["self", "name"] 1 (Vl.spT K (T_Net_need K)) := by
  obtain ⟨fd, F⟩ := F_Net_need c
  exact ⟨⟨fd, okF_Net_need c F, F.bindsN fun _ _ _ _ _ _ us hl => match us, hl with | [_, _], _ => rfl⟩, F.kp⟩
end
def T_Net_road (K : PySem.W.Frag) : TmV := fun ds M R X => ∃ (x z : Dt) (l : Addr) (j : Nat) (g : List (Str × Bool)) (ls : List (Str × Str × Int × Int)) (a b : Str) (m t : Int) (_ : ls.length < 1000000), ds = [.inst (He.ga K "Net") (netF x (.ob l) z), .str a, .str b, .int m, .int t] ∧ Dct M x (sightK g) ∧ M[j]? = some (l, .lst (ls.map lineD)) ∧
  (if ¬((g.lookup a).isSome = true ∧ (g.lookup b).isSome = true) then X (He.ga K "NoGate") M else if a = b then X (He.ga K "SameGate") M
   else if ¬((1 ≤ m ∧ m ≤ 1000000) ∧ 0 ≤ t ∧ t ≤ 1000000) then X (He.ga K "NoNumber") M else if 200 ≤ ls.length then X (He.ga K "FullNet") M
   else R (.int ls.length) (M.set j (l, .lst ((ls ++ [(a, b, m, t)]).map lineD))))
def N_Net_road : List Str := ["self", "one", "other", "minutes", "toll"]
theorem sc_Net_road : FnScope N_Net_road ["self", "one", "other", "minutes", "toll"] (defScope s_Net_road) := ⟨rfl, rfl, rfl, by decide +kernel, rfl, by decide +kernel, by decide +kernel⟩
section
variable {P : Program} {w : World} {K : PySem.W.Frag} {mg : Str → Option Value} {base : Heap}
theorem okF_Net_road {fd : FuncData} (c : Cxt K mg) (F : FunD K "road" "Net.road" (defArgs s_Net_road) (defBody s_Net_road) (defScope s_Net_road) [] [] (He.ma K (He.ga K "Net") "road") fd) : FnOk P w K mg base (L2.CX P w) 2 (He.ma K (He.ga K "Net") "road") fd ["self", "one", "other", "minutes", "toll"] (Vl.spT K (T_Net_road K)) := by
  obtain ⟨⟨fd_Net_need, G_Net_need, b_Net_need⟩, k_Net_need⟩ := ok_Net_need (P := P) (w := w) (base := base) c
  refine fnT F sc_Net_road (by decide) (fun ds M R X h => by obtain ⟨_, _, _, _, _, _, _, _, _, _, _, rfl, _⟩ := h; rfl) (fun cdv A outer s H E hr => ?_)
  have hu := hu_of hr
  have hu64 := hr.units
  refine ⟨_, (pss_cons (ps_expr (pe_meth (pv 0) (cl_Net c) (m_Net_need c) G_Net_need (hr.mono (by decide)) b_Net_need .nil (passes_call (takes_of rfl rfl rfl rfl) (fun _ _ _ _ h => h)) (pa_cons (pv 1) pa_nil)))
      (pss_cons (ps_expr (pe_meth (pv 0) (cl_Net c) (m_Net_need c) G_Net_need (hr.mono (by decide)) b_Net_need .nil (passes_call (takes_of rfl rfl rfl rfl) (fun _ _ _ _ h => h)) (pa_cons (pv 2) pa_nil)))
      (pss_cons (ps_if (pt_cmpR (keqU K rfl hu64) (pv 1) (pv 2) (nomark _)) (pss_one (ps_raise rfl (takes_of rfl rfl rfl rfl) (pmk_own PySem.F.excBase_ValueError (x_SameGate c).1 (g_SameGate c) (x_SameGate c).2.1 (raises_own (x_SameGate c).2.2.1 (x_SameGate c).2.2.2) rfl))) pss_nil)
      (pss_cons (ps_if (PW.pt (pw_or (pt_not (pt_chain op_le op_le pe_int (pv 3) (pe_glI (c_MOST_MINUTES c) (by rfl)))) (pw_or1 (pt_not (pt_chain op_le op_le pe_int (pv 4) (pe_glI (c_MOST_TOLL c) (by rfl))))))) (pss_one (ps_raise rfl (takes_of rfl rfl rfl rfl) (pmk_own PySem.F.excBase_ValueError (x_NoNumber c).1 (g_NoNumber c) (x_NoNumber c).2.1 (raises_own (x_NoNumber c).2.2.1 (x_NoNumber c).2.2.2) rfl))) pss_nil)
      (pss_cons (ps_if (pt_cmpR op_ge (pe_callB (klenU K rfl) (by rfl) (n_len c) PySem.boot_len (pa_cons (kfld K rfl (pv 0) rfl) pa_nil)) (pe_glI (c_MOST_ROADS c) (by rfl)) (nomark _)) (pss_one (ps_raise rfl (takes_of rfl rfl rfl rfl) (pmk_own PySem.F.excBase_ValueError (x_FullNet c).1 (g_FullNet c) (x_FullNet c).2.1 (raises_own (x_FullNet c).2.2.1 (x_FullNet c).2.2.2) rfl))) pss_nil)
      (pss_cons (ps_expr (kbm K rfl PySem.F.plainAttrs_list PySem.F.slot_list_append PySem.F.type_list_append (mt_append) (kfld K rfl (pv 0) rfl) (pa_cons (pe_tup (pa_cons (pv 1) (pa_cons (pv 2) (pa_cons (pv 3) (pa_cons (pv 4) pa_nil))))) pa_nil)))
      (pss_one (ps_ret (pe_op op_sub (pe_callB (klenU K rfl) (by rfl) (n_len c) PySem.boot_len (pa_cons (kfld K rfl (pv 0) rfl) pa_nil)) pe_int))))))))), ?_⟩
  intro B G ds M R X Q ht hQ hX
  obtain ⟨x, z, l, j, g, ls, a, b, m, t, hcl, rfl, hD, hj, hR⟩ := ht
  change At K B G [some _, some _, some _, some _, some _] M _
  have fld : EvD K [some (.inst (He.ga K "Net") (netF x (.ob l) z)), some (Dt.str a), some (Dt.str b), some (Dt.int m), some (Dt.int t)] M (tFld K (tVar 0) "lines") (.ob l) := by
    apply ed_fld
    · walk_at "ev"
    · exact cl_Net c
    · exact na_Net_lines c
    · rfl
  have hL : Lst M (.ob l) (ls.map lineD) := .own hj
  have ok : ∀ (s : Str) (te : TE), EvD K [some (.inst (He.ga K "Net") (netF x (.ob l) z)), some (Dt.str a), some (Dt.str b), some (Dt.int m), some (Dt.int t)] M te (.str s) → (g.lookup s).isSome = true →
      EvD K [some (.inst (He.ga K "Net") (netF x (.ob l) z)), some (Dt.str a), some (Dt.str b), some (Dt.int m), some (Dt.int t)] M (tMeth (He.ga K "Net") "need" (Vl.spT K (T_Net_need K)) [] E (tVar 0) (tCons te tNil)) .non := fun s te he hs => by
    apply evd_meth
    · walk_at "ev"
    · rfl
    · exact ea_cons he ea_nil
    · exact ⟨_, _, _, g, s, rfl, hD, by rw [if_pos hs]; exact ⟨rfl, rfl⟩⟩
  have bad : ∀ (s : Str) (te : TE), X (He.ga K "NoGate") M → EvD K [some (.inst (He.ga K "Net") (netF x (.ob l) z)), some (Dt.str a), some (Dt.str b), some (Dt.int m), some (Dt.int t)] M te (.str s) → ¬ (g.lookup s).isSome = true →
      EvX K B G [some (.inst (He.ga K "Net") (netF x (.ob l) z)), some (Dt.str a), some (Dt.str b), some (Dt.int m), some (Dt.int t)] M (tMeth (He.ga K "Net") "need" (Vl.spT K (T_Net_need K)) [] E (tVar 0) (tCons te tNil)) (fun _ _ => False) := fun s te hXX he hs => by
    apply evx_meth (PX := fun C M' => C = He.ga K "NoGate" ∧ M' = M)
    · walk_at "ev"
    · rfl
    · exact ea_cons he ea_nil
    · exact ⟨_, _, _, g, s, rfl, hD, by rw [if_neg hs]; exact ⟨rfl, rfl⟩⟩
    · rintro C M' ⟨rfl, rfl⟩
      exact hX _ _ hXX
  walk_at "sq"
  by_cases ha : (g.lookup a).isSome = true
  case neg =>
    rw [if_pos (fun h => ha h.1)] at hR
    exact at_dropX (bad a _ hR (by walk_at "ev") ha) (fun _ _ p => p.elim)
  apply at_drop (ok a _ (by walk_at "ev") ha)
  walk_at "q"
  walk_at "sq"
  by_cases hb : (g.lookup b).isSome = true
  case neg =>
    rw [if_pos (fun h => hb h.2)] at hR
    exact at_dropX (bad b _ hR (by walk_at "ev") hb) (fun _ _ p => p.elim)
  apply at_drop (ok b _ (by walk_at "ev") hb)
  rw [if_neg (fun h => h ⟨ha, hb⟩)] at hR
  walk_at "q"
  walk_at "sq"
  apply at_if (b := decide (a = b))
  · walk_at "et"
  · intro h
    rw [if_pos (of_decide_eq_true h)] at hR
    exact at_raise (hX _ _ hR)
  intro h
  rw [if_neg (of_decide_eq_false h)] at hR
  walk_at "nx"
  walk_at "sq"
  apply at_if (b := !(decide ((1 : Int) ≤ m) && decide (m ≤ 1000000)) || !(decide ((0 : Int) ≤ t) && decide (t ≤ 1000000)))
  · walk_at "et"
  · intro h
    rw [if_pos (by simp at h; omega)] at hR
    exact at_raise (hX _ _ hR)
  intro h
  rw [if_neg (by simp at h; omega)] at hR
  walk_at "nx"
  walk_at "sq"
  apply at_if (b := decide ((200 : Int) ≤ ls.length))
  · apply et_test
    rw [show ((ls.length : Nat) : Int) = ((ls.map lineD).length : Nat) by rw [List.length_map]]
    apply ed_op
    · apply ed_cb
      · exact ea_cons fld ea_nil
      · exact u_lenL hL
    · walk_at "ev"
    · walk_at "op"
  · intro h
    rw [if_pos (by have := of_decide_eq_true h; omega)] at hR
    exact at_raise (hX _ _ hR)
  intro h3
  have h3' : ¬ (200 : Int) ≤ ls.length := of_decide_eq_false h3
  rw [if_neg (by omega)] at hR
  walk_at "nx"
  walk_at "sq"
  apply at_app j (d := lineD (a, b, m, t))
  · exact fld
  · exact hj
  · show EvD K _ _ _ (.tup [.str a, .str b, .int m, .int t])
    walk_at "ev"
  · rw [List.length_map]; omega
  walk_at "q"
  have e : ls.map lineD ++ [lineD (a, b, m, t)] = (ls ++ [(a, b, m, t)]).map lineD := by rw [List.map_append]; rfl
  rw [e]
  have hj2 : (M.set j (l, Ow.lst ((ls ++ [(a, b, m, t)]).map lineD)))[j]? = some (l, Ow.lst ((ls ++ [(a, b, m, t)]).map lineD)) := by
    rw [List.getElem?_set_self (by exact (List.getElem?_eq_some_iff.mp hj).1)]
  have hlen : (((ls ++ [(a, b, m, t)]).map lineD).length : Int) - 1 = ls.length := by simp
  rw [← hlen] at hR
  apply at_ret
  · apply ed_op
    · apply ed_cb
      · apply ea_cons
        · apply ed_fld
          · walk_at "ev"
          · exact cl_Net c
          · exact na_Net_lines c
          · rfl
        · exact ea_nil
      · exact u_lenL (.own hj2)
    · walk_at "ev"
    · walk_at "op"
  · exact hQ _ _ hR
theorem ok_Net_road (c : Cxt K mg) : FnG P w K mg base (He.ma K (He.ga K "Net") "road") ["self", "one", "other", "minutes", "toll"] 2 (Vl.spT K (T_Net_road K)) := by
  obtain ⟨fd, F⟩ := F_Net_road c
  exact ⟨⟨fd, okF_Net_road c F, F.bindsN fun _ _ _ _ _ _ us hl => match us, hl with | [_, _, _, _, _], _ => rfl⟩, F.kp⟩
end
def T_Net_need_road (K : PySem.W.Frag) : TmV := fun ds M R X => ∃ (x y z : Dt) (ls : List (Str × Str × Int × Int)) (i : Int), ds = [.inst (He.ga K "Net") (netF x y z), .int i] ∧ Lst M y (ls.map lineD) ∧ (if 0 ≤ i ∧ i < ls.length then R .non M else X (He.ga K "NoRoad") M)
def N_Net_need_road : List Str := ["self", "number"]
theorem sc_Net_need_road : FnScope N_Net_need_road ["self", "number"] (defScope s_Net_need_road) := ⟨rfl, rfl, rfl, by decide +kernel, rfl, by decide +kernel, by decide +kernel⟩
section
variable {P : Program} {w : World} {K : PySem.W.Frag} {mg : Str → Option Value} {base : Heap}
theorem okF_Net_need_road {fd : FuncData} (c : Cxt K mg) (F : FunD K "need_road" "Net.need_road" (defArgs s_Net_need_road) (defBody s_Net_need_road) (defScope s_Net_need_road) [] [] (He.ma K (He.ga K "Net") "need_road") fd) : FnOk P w K mg base (L2.CX P w) 1 (He.ma K (He.ga K "Net") "need_road") fd ["self", "number"] (Vl.spT K (T_Net_need_road K)) := by
  refine fnT F sc_Net_need_road (by decide) (fun ds M R X h => by obtain ⟨_, _, _, _, _, rfl, _⟩ := h; rfl) (fun cdv A outer s H E hr => ?_)
  have hu := hu_of hr
  have hu64 := hr.units
  refine ⟨_, (pss_one (ps_if (pt_not (pt_chain op_le (kltU K rfl hu64) pe_int (pv 1) (pe_callB (klenU K rfl) (by rfl) (n_len c) PySem.boot_len (pa_cons (kfld K rfl (pv 0) rfl) pa_nil)))) (pss_one (ps_raise rfl (takes_of rfl rfl rfl rfl) (pmk_own PySem.F.excBase_ValueError (x_NoRoad c).1 (g_NoRoad c) (x_NoRoad c).2.1 (raises_own (x_NoRoad c).2.2.1 (x_NoRoad c).2.2.2) rfl))) pss_nil)), ?_⟩
  intro B G ds M R X Q ht hQ hX
  obtain ⟨x, y, z, ls, i, rfl, hL, hR⟩ := ht
  change At K B G [some _, some _] M _
  apply at_if (b := !(decide ((0 : Int) ≤ i) && decide (i < ls.length)))
  · apply et_not
    rw [show ((ls.length : Nat) : Int) = ((ls.map lineD).length : Nat) by rw [List.length_map]]
    apply et_test
    apply ed_chain
    · walk_at "ev"
    · walk_at "ev"
    · walk_at "op"
    · intro _
      apply ed_cb
      · apply ea_cons
        · apply ed_fld
          · walk_at "ev"
          · exact cl_Net c
          · exact na_Net_lines c
          · rfl
        · exact ea_nil
      · exact u_lenL hL
    · intro _
      walk_at "op"
  · intro h
    rw [if_neg (by simp at h; omega)] at hR
    exact at_raise (hX _ _ hR)
  · intro h
    rw [if_pos (by simp at h; omega)] at hR
    apply at_next
    exact fun F σ H k => hQ _ _ hR .non F _ σ H k .non
theorem ok_Net_need_road (c : Cxt K mg) : FnG P w K mg base (He.ma K (He.ga K "Net") "need_road") ["self", "number"] 1 (Vl.spT K (T_Net_need_road K)) := by
  obtain ⟨fd, F⟩ := F_Net_need_road c
  exact ⟨⟨fd, okF_Net_need_road c F, F.bindsN fun _ _ _ _ _ _ us hl => match us, hl with | [_, _], _ => rfl⟩, F.kp⟩
end
def T_Net_close (K : PySem.W.Frag) : TmV := fun ds M R X => ∃ (x y : Dt) (d2 : Addr) (j : Nat) (ls : List (Str × Str × Int × Int)) (cl : List Int) (i : Int), ds = [.inst (He.ga K "Net") (netF x y (.ob d2)), .int i] ∧ Lst M y (ls.map lineD) ∧ M[j]? = some (d2, .dct (closedK cl)) ∧ cl.length < 1000000 ∧
  (if ¬(0 ≤ i ∧ i < ls.length) then X (He.ga K "NoRoad") M else if i ∈ cl then X (He.ga K "Already") M else R .non (M.set j (d2, .dct (closedK (cl ++ [i])))))
def N_Net_close : List Str := ["self", "number"]
theorem sc_Net_close : FnScope N_Net_close ["self", "number"] (defScope s_Net_close) := ⟨rfl, rfl, rfl, by decide +kernel, rfl, by decide +kernel, by decide +kernel⟩
section
variable {P : Program} {w : World} {K : PySem.W.Frag} {mg : Str → Option Value} {base : Heap}
theorem okF_Net_close {fd : FuncData} (c : Cxt K mg) (F : FunD K "close" "Net.close" (defArgs s_Net_close) (defBody s_Net_close) (defScope s_Net_close) [] [] (He.ma K (He.ga K "Net") "close") fd) : FnOk P w K mg base (L2.CX P w) 2 (He.ma K (He.ga K "Net") "close") fd ["self", "number"] (Vl.spT K (T_Net_close K)) := by
  obtain ⟨⟨fd_Net_need_road, G_Net_need_road, b_Net_need_road⟩, k_Net_need_road⟩ := ok_Net_need_road (P := P) (w := w) (base := base) c
  refine fnT F sc_Net_close (by decide) (fun ds M R X h => by obtain ⟨_, _, _, _, _, _, _, rfl, _⟩ := h; rfl) (fun cdv A outer s H E hr => ?_)
  have hu := hu_of hr
  have hu64 := hr.units
  refine ⟨_, (pss_cons (ps_expr (pe_meth (pv 0) (cl_Net c) (m_Net_need_road c) G_Net_need_road (hr.mono (by decide)) b_Net_need_road .nil (passes_call (takes_of rfl rfl rfl rfl) (fun _ _ _ _ h => h)) (pa_cons (pv 1) pa_nil)))
      (pss_cons (ps_if (pt_cmpR (kinU K rfl hu) (pv 1) (kfld K rfl (pv 0) rfl) (by rfl)) (pss_one (ps_raise rfl (takes_of rfl rfl rfl rfl) (pmk_own PySem.F.excBase_ValueError (x_Already c).1 (g_Already c) (x_Already c).2.1 (raises_own (x_Already c).2.2.1 (x_Already c).2.2.2) rfl))) pss_nil)
      (pss_one (ps_asg pe_bl (pg_sub (kfld K rfl (pv 0) rfl) (pv 1) (set_U hu)))))), ?_⟩
  intro B G ds M R X Q ht hQ hX
  obtain ⟨x, y, d2, j, ls, cl, i, rfl, hL, hj, hcl, hR⟩ := ht
  change At K B G [some _, some _] M _
  have fld : EvD K [some (.inst (He.ga K "Net") (netF x y (.ob d2))), some (Dt.int i)] M (tFld K (tVar 0) "closed") (.ob d2) := by
    apply ed_fld
    · walk_at "ev"
    · exact cl_Net c
    · exact na_Net_closed c
    · rfl
  have hD : Dct M (.ob d2) (closedK cl) := .own hj
  walk_at "sq"
  by_cases hi : 0 ≤ i ∧ i < ls.length
  · rw [if_neg (by simpa using hi)] at hR
    apply at_drop
    · apply evd_meth
      · walk_at "ev"
      · rfl
      · walk_at "ea"
      · exact ⟨_, _, _, ls, i, rfl, hL, by rw [if_pos hi]; exact ⟨rfl, rfl⟩⟩
    walk_at "sq"
    apply at_if (b := decide (i ∈ cl))
    · apply et_test
      rw [← val_closed]
      apply ed_op
      · walk_at "ev"
      · exact fld
      · exact u_inD hD rfl
    · intro h
      rw [if_pos (of_decide_eq_true h)] at hR
      exact at_raise (hX _ _ hR)
    intro h2
    have h2' := of_decide_eq_false h2
    rw [if_neg h2'] at hR
    walk_at "nx"
    apply at_setD j (key := Sum.inl i) (d := .bl true)
    · walk_at "ev"
    · exact fld
    · exact hj
    · walk_at "ev"
    · rfl
    · unfold closedK; rw [List.length_map]; omega
    rw [put_closed h2']
    exact fun F σ H k => hQ _ _ hR .non F _ σ H k .non
  · rw [if_pos hi] at hR
    apply at_dropX (P := fun _ _ => False)
    · apply evx_meth (PX := fun C M' => C = He.ga K "NoRoad" ∧ M' = M)
      · walk_at "ev"
      · rfl
      · walk_at "ea"
      · exact ⟨_, _, _, ls, i, rfl, hL, by rw [if_neg hi]; exact ⟨rfl, rfl⟩⟩
      · rintro C M' ⟨rfl, rfl⟩
        exact hX _ _ hR
    · exact fun _ _ p => p.elim
theorem ok_Net_close (c : Cxt K mg) : FnG P w K mg base (He.ma K (He.ga K "Net") "close") ["self", "number"] 2 (Vl.spT K (T_Net_close K)) := by
  obtain ⟨fd, F⟩ := F_Net_close c
  exact ⟨⟨fd, okF_Net_close c F, F.bindsN fun _ _ _ _ _ _ us hl => match us, hl with | [_, _], _ => rfl⟩, F.kp⟩
end
def T_L_net (K : PySem.W.Frag) : TmV := fun ds M R _ => ∃ (gA lA : Addr) (jg jl : Nat) (GG : OG) (L : OL) (_ : M[jg]? = some (gA, .lst (obG GG)) ∧ M[jl]? = some (lA, .lst (obL L)) ∧ (∀ e ∈ GG, gCell e ∈ M) ∧ ∀ e ∈ L, lCell e ∈ M), ds = [.ob gA, .ob lA] ∧ WdOk (gsO GG) (lsO L) 1 ∧ ∀ d1 l d2, R (.inst (He.ga K "Net") (netF (.ob d1) (.ob l) (.ob d2))) ((d2, Ow.dct (closedK (closedOf (lsO L)))) :: (l, Ow.lst (((lsO L).map lineQ).map lineD)) :: (d1, Ow.dct (sightK (gsO GG))) :: M)
theorem clo_take (ls : List LineT) (k : Nat) (h : k < ls.length) : closedOf (ls.take (k + 1)) = closedOf (ls.take k) ++ (if (ls.getD k default).o = true then [] else [(k : Int)]) := by
  have e : ∀ j, j ≤ ls.length → closedOf (ls.take j) = ((List.range j).filter fun i => !(ls.getD i default).o).map fun i : Nat => (i : Int) := fun j hj => by
    unfold closedOf
    rw [List.length_take, Nat.min_eq_left hj]
    congr 1
    apply List.filter_congr
    intro i hi
    have := List.mem_range.mp hi
    rw [List.getD_eq_getElem?_getD, List.getElem?_take_of_lt this, ← List.getD_eq_getElem?_getD]
  rw [e _ h, e _ (by omega), List.range_succ, List.filter_append, List.map_append]
  by_cases hq : (ls.getD k default).o = true
  · rw [if_pos hq, List.filter_cons, if_neg (by rw [hq]; exact Bool.noConfusion)]; rfl
  · have hq' : (ls.getD k default).o = false := by simpa using hq
    rw [if_neg hq, List.filter_cons, if_pos (by rw [hq']; rfl)]; rfl
theorem clo_lt (ls : List LineT) : ∀ i ∈ closedOf ls, 0 ≤ i ∧ i < ls.length := by
  intro i hi
  unfold closedOf at hi
  obtain ⟨k, hk, rfl⟩ := List.mem_map.mp hi
  have := List.mem_range.mp (List.mem_filter.mp hk).1
  omega
theorem clo_len (ls : List LineT) : (closedOf ls).length ≤ ls.length := by
  unfold closedOf
  rw [List.length_map]
  refine Nat.le_trans (List.length_filter_le _ _) ?_
  rw [List.length_range]; exact Nat.le_refl _
def N_L_net : List Str := ["_law_gates_here", "_law_lines_here", "_law_net_here", "_law_gate", "_law_line_here", "_law_number"]
theorem sc_L_net : FnScope N_L_net ["_law_gates_here", "_law_lines_here"] (defScope s_L_net) := ⟨rfl, rfl, rfl, by decide +kernel, rfl, by decide +kernel, by decide +kernel⟩
section
variable {P : Program} {w : World} {K : PySem.W.Frag} {mg : Str → Option Value} {base : Heap}
theorem okF_L_net {fd : FuncData} (c : Cxt K mg) (F : FunD K "_law_net" "_law_net" (defArgs s_L_net) (defBody s_L_net) (defScope s_L_net) [] [] (He.ga K "_law_net") fd) : FnOk P w K mg base (L2.CX P w) 3 (He.ga K "_law_net") fd ["_law_gates_here", "_law_lines_here"] (Vl.spT K (T_L_net K)) := by
  obtain ⟨⟨fd_Net___init__, G_Net___init__, b_Net___init__⟩, k_Net___init__⟩ := ok_Net___init__ (P := P) (w := w) (base := base) c
  obtain ⟨⟨fd_Net_gate, G_Net_gate, b_Net_gate⟩, k_Net_gate⟩ := ok_Net_gate (P := P) (w := w) (base := base) c
  obtain ⟨⟨fd_Net_road, G_Net_road, b_Net_road⟩, k_Net_road⟩ := ok_Net_road (P := P) (w := w) (base := base) c
  obtain ⟨⟨fd_Net_close, G_Net_close, b_Net_close⟩, k_Net_close⟩ := ok_Net_close (P := P) (w := w) (base := base) c
  refine fnT F sc_L_net (by decide) (fun ds M R X h => by obtain ⟨_, _, _, _, _, _, _, rfl, _⟩ := h; rfl) (fun cdv A outer s H E hr => ?_)
  have hu := hu_of hr
  have hu64 := hr.units
  refine ⟨_, PSs.nox (pss_cons (ps_set (i := 2) sc_L_net.nd rfl (Or.inl rfl) (pe_make0 (M_Net c) G_Net___init__ (hr.mono (by decide)) (by rfl) (g_Net c) b_Net___init__ .nil passL))
      (pss_cons (ps_for PassesOwn.never rfl (kseqU K rfl (pv 0)) (pg_name (i := 3) sc_L_net.nd rfl (Or.inl rfl)) (pss_one (ps_expr (pe_meth (pv 2) (cl_Net c) (m_Net_gate c) G_Net_gate (hr.mono (by decide)) b_Net_gate .nil passL (pa_cons (pe_ix (kixU K rfl hu) (pv 3) pe_int (fun _ _ => rfl)) (pa_cons (pe_ix (kixU K rfl hu) (pv 3) pe_int (fun _ _ => rfl)) pa_nil))))))
      (pss_cons (ps_for PassesOwn.never rfl (kseqU K rfl (pv 1)) (pg_name (i := 4) sc_L_net.nd rfl (Or.inl rfl)) (pss_cons (ps_set (i := 5) sc_L_net.nd rfl (Or.inl rfl) (pe_meth (pv 2) (cl_Net c) (m_Net_road c) G_Net_road (hr.mono (by decide)) b_Net_road .nil passL (pa_cons (pe_ix (kixU K rfl hu) (pv 4) pe_int (fun _ _ => rfl)) (pa_cons (pe_ix (kixU K rfl hu) (pv 4) pe_int (fun _ _ => rfl)) (pa_cons (pe_ix (kixU K rfl hu) (pv 4) pe_int (fun _ _ => rfl)) (pa_cons (pe_ix (kixU K rfl hu) (pv 4) pe_int (fun _ _ => rfl)) pa_nil))))))
      (pss_one (ps_if (pt_not (pt_val (pe_ix (kixU K rfl hu) (pv 4) pe_int (fun _ _ => rfl)))) (pss_one (ps_expr (pe_meth (pv 2) (cl_Net c) (m_Net_close c) G_Net_close (hr.mono (by decide)) b_Net_close .nil passL (pa_cons (pv 5) pa_nil)))) pss_nil))))
      (pss_one (ps_ret (pv 2)))))), ?_⟩
  intro B G ds M R X Q ht hQ hX
  obtain ⟨gA, lA, jg, jl, GG, L, ⟨hjg, hjl, hcg, hcl⟩, rfl, hW, hR⟩ := ht
  change At K B G [some _, some _, none, none, none, none] M _
  obtain ⟨gs, hgs⟩ : ∃ gs, gs = gsO GG := ⟨_, rfl⟩
  obtain ⟨ls, hls⟩ : ∃ ls, ls = lsO L := ⟨_, rfl⟩
  rw [← hgs, ← hls] at hW hR
  have hgl : gs.length = GG.length := by rw [hgs]; unfold gsO; rw [List.length_map]
  have hlsl : ls.length = L.length := by rw [hls]; unfold lsO; rw [List.length_map]
  have hobl : (obG GG).length = gs.length := by rw [hgl]; unfold obG; rw [List.length_map]
  have hobL : (obL L).length = ls.length := by rw [hlsl]; unfold obL; rw [List.length_map]
  walk_at "sq"
  apply at_asgX
  · apply evx_mkNet (cl_Net c)
    rintro f (rfl | rfl | rfl)
    · exact na_Net_sight c
    · exact na_Net_lines c
    · exact na_Net_closed c
  rintro d M' ⟨d1, l, d2, rfl, rfl⟩
  walk_at "q"
  walk_at "sq"
  apply at_forG (ds := obG GG) (I := fun i Γ' M' => ∃ z1 z2 z3, Γ' = [some (.ob gA), some (.ob lA), some (.inst (He.ga K "Net") (netF (.ob d1) (.ob l) (.ob d2))), z1, z2, z3] ∧
      M' = (d2, Ow.dct []) :: (l, Ow.lst []) :: (d1, Ow.dct (sightK (gs.take i))) :: M)
  · exact ed_var rfl
  · exact .own (j := jg + 3) hjg
  · exact ⟨_, _, _, rfl, rfl⟩
  · rintro i Γ' M' ⟨z1, z2, z3, rfl, rfl⟩
    exact .own (j := jg + 3) hjg
  · rintro G' hle i d Γ' M' hd ⟨z1, z2, z3, rfl, rfl⟩
    unfold obG at hd
    rw [List.getElem?_map] at hd
    obtain ⟨⟨p, g⟩, hpg, rfl⟩ := Option.map_eq_some_iff.mp hd
    have hg : gs[i]? = some g := by rw [hgs]; unfold gsO; rw [List.getElem?_map, hpg]; rfl
    obtain ⟨j, hj⟩ := List.getElem?_of_mem (hcg _ (List.mem_of_getElem? hpg))
    have cE : ∀ (x : Int) (d : Dt) {Γ : Gm} {m1 m2 m3 : Addr × Ow}, Γ[3]? = some (some (.ob p)) → atI [Dt.str g.1, .bl g.2] x = some d → EvD K Γ (m1 :: m2 :: m3 :: M) (tOp (rIxU K) (tVar 3) (tC (.int x))) d := fun x d {Γ m1 m2 m3} h h2 => ed_op (ed_var h) ed_int (u_ixL (.own (j := j + 3) hj) h2)
    have hil := (List.getElem?_eq_some_iff.mp hg).1
    have hgm := List.mem_of_getElem? hg
    have hnm := hW.nm g hgm
    have hnl : g.1.length ≤ 10000000 := by
      unfold isNm at hnm
      rw [Bool.and_eq_true_iff, Bool.and_eq_true_iff, Bool.and_eq_true_iff] at hnm
      have := of_decide_eq_true hnm.1.1.2
      omega
    have hnew : (gs.take i).lookup g.1 = none := by
      rw [List.lookup_eq_none_iff]
      intro p hp
      obtain ⟨j, hj, e⟩ := List.getElem_of_mem hp
      rw [List.length_take] at hj
      rw [List.getElem_take] at e
      have := List.pairwise_iff_getElem.mp hW.nd j i (by rw [List.length_map]; omega) (by rw [List.length_map]; exact hil) (by omega)
      rw [List.getElem_map, List.getElem_map, e] at this
      have e2 : gs[i] = g := (List.getElem?_eq_some_iff.mp hg).2
      rw [e2] at this
      simpa using fun z => this z.symm
    apply atg_name
    walk_at "q"
    have htk : gs.take (i + 1) = gs.take i ++ [g] := by rw [List.take_add_one, hg]; rfl
    apply at_dropX (P := fun d' M' => M' = (d2, Ow.dct []) :: (l, Ow.lst []) :: (d1, Ow.dct (sightK (gs.take (i + 1)))) :: M)
    · apply evx_meth (PX := fun _ _ => False)
      · walk_at "ev"
      · rfl
      · apply ea_cons (x := .str g.1)
        · exact cE 0 _ rfl rfl
        apply ea_cons (x := .bl g.2)
        · exact cE 1 _ rfl rfl
        exact ea_nil
      · refine ⟨d1, _, _, 2, gs.take i, g.1, g.2, hnl, rfl, rfl, ?_⟩
        rw [if_neg (by rw [hnm]; exact Bool.noConfusion), if_neg (by rw [hnew]; exact Bool.noConfusion), if_neg (by rw [List.length_take]; have := hW.g60; omega), htk]
        rfl
      · exact fun _ _ z => z.elim
    · rintro d' M' rfl
      exact up_of ⟨_, _, _, rfl, rfl⟩
  rintro Γ' M' ⟨z1, z2, z3, rfl, rfl⟩
  rw [hobl, List.take_length]
  walk_at "q"
  walk_at "sq"
  apply at_forG (ds := obL L) (I := fun i Γ' M' => ∃ z1 z2 z3, Γ' = [some (.ob gA), some (.ob lA), some (.inst (He.ga K "Net") (netF (.ob d1) (.ob l) (.ob d2))), z1, z2, z3] ∧
      M' = (d2, Ow.dct (closedK (closedOf (ls.take i)))) :: (l, Ow.lst (((ls.take i).map lineQ).map lineD)) :: (d1, Ow.dct (sightK gs)) :: M)
  · exact ed_var rfl
  · exact .own (j := jl + 3) hjl
  · exact ⟨_, _, _, rfl, rfl⟩
  · rintro i Γ' M' ⟨z1, z2, z3, rfl, rfl⟩
    exact .own (j := jl + 3) hjl
  · rintro G' hle i d Γ' M' hd ⟨z1, z2, z3, rfl, rfl⟩
    unfold obL at hd
    rw [List.getElem?_map] at hd
    obtain ⟨⟨p, g⟩, hpg, rfl⟩ := Option.map_eq_some_iff.mp hd
    have hg : ls[i]? = some g := by rw [hls]; unfold lsO; rw [List.getElem?_map, hpg]; rfl
    obtain ⟨j, hj⟩ := List.getElem?_of_mem (hcl _ (List.mem_of_getElem? hpg))
    have cE : ∀ (x : Int) (d : Dt) {Γ : Gm} {m1 m2 m3 : Addr × Ow}, Γ[4]? = some (some (.ob p)) → atI (llDs g) x = some d → EvD K Γ (m1 :: m2 :: m3 :: M) (tOp (rIxU K) (tVar 4) (tC (.int x))) d := fun x d {Γ m1 m2 m3} h h2 => ed_op (ed_var h) ed_int (u_ixL (.own (j := j + 3) hj) h2)
    have hil := (List.getElem?_eq_some_iff.mp hg).1
    have hll := hW.ll
    have lk := hW.lk g (List.mem_of_getElem? hg)
    have htk : ls.take (i + 1) = ls.take i ++ [g] := by rw [List.take_add_one, hg]; rfl
    have hgd : ls.getD i default = g := by rw [List.getD_eq_getElem?_getD, hg]; rfl
    have hct := clo_take ls i hil
    rw [hgd] at hct
    have look : ∀ s, s ∈ gs.map (·.1) → (gs.lookup s).isSome = true := fun s hs => by
      cases q : gs.lookup s with
      | some v => rfl
      | none =>
        rw [List.lookup_eq_none_iff] at q
        obtain ⟨p, hp, rfl⟩ := List.mem_map.mp hs
        have := q p hp
        simp at this
    have hlen : ((ls.take i).map lineQ).length = i := by rw [List.length_map, List.length_take]; omega
    have hu := hW.u1
    have hu2 := hW.u2
    apply atg_name
    walk_at "q"
    walk_at "sq"
    apply at_asgX (P := fun d' M' => d' = .int (i : Int) ∧ M' = (d2, Ow.dct (closedK (closedOf (ls.take i)))) :: (l, Ow.lst (((ls.take (i + 1)).map lineQ).map lineD)) :: (d1, Ow.dct (sightK gs)) :: M)
    · apply evx_meth (PX := fun _ _ => False)
      · walk_at "ev"
      · rfl
      · apply ea_cons (x := .str g.a)
        · exact cE 0 _ rfl rfl
        apply ea_cons (x := .str g.b)
        · exact cE 1 _ rfl rfl
        apply ea_cons (x := .int g.m)
        · exact cE 2 _ rfl rfl
        apply ea_cons (x := .int g.t)
        · exact cE 3 _ rfl rfl
        exact ea_nil
      · refine ⟨_, _, l, 1, gs, (ls.take i).map lineQ, g.a, g.b, g.m, g.t, by omega, rfl, Dct.own (j := 2) rfl, rfl, ?_⟩
        have h1 := lk.lo
        have h2 := lk.hi
        have h3 := lk.t0
        have h4 := lk.t1
        rw [if_neg (fun z => z ⟨look _ lk.a, look _ lk.b⟩), if_neg lk.ne, if_neg (fun z => z ⟨⟨by omega, by omega⟩, h3, h4⟩), if_neg (by omega), hlen, htk, List.map_append]
        exact ⟨rfl, rfl⟩
      · exact fun _ _ z => z.elim
    rintro d' M' ⟨rfl, rfl⟩
    walk_at "q"
    have hlen2 : ((ls.take (i + 1)).map lineQ).length = i + 1 := by rw [List.length_map, List.length_take]; omega
    apply at_if (b := !g.o)
    · apply et_not
      apply et_B
      exact cE 4 _ rfl rfl
    · intro ho
      have ho' : g.o = false := by simpa using ho
      rw [if_neg (by rw [ho']; exact Bool.noConfusion)] at hct
      apply at_dropX (P := fun d' M' => M' = (d2, Ow.dct (closedK (closedOf (ls.take (i + 1))))) :: (l, Ow.lst (((ls.take (i + 1)).map lineQ).map lineD)) :: (d1, Ow.dct (sightK gs)) :: M)
      · apply evx_meth (PX := fun _ _ => False)
        · walk_at "ev"
        · rfl
        · walk_at "ea"
        · refine ⟨_, _, d2, 0, (ls.take (i + 1)).map lineQ, closedOf (ls.take i), i, rfl, Lst.own (j := 1) rfl, rfl, ?_, ?_⟩
          · have := clo_len (ls.take i)
            rw [List.length_take] at this
            omega
          · rw [if_neg (fun z => z ⟨by omega, by omega⟩), if_neg (fun z => by have := clo_lt _ _ z; rw [List.length_take] at this; omega), hct]
            rfl
        · exact fun _ _ z => z.elim
      · rintro d' M' rfl
        exact up_of ⟨_, _, _, rfl, rfl⟩
    · intro ho
      have ho' : g.o = true := by simpa using ho
      rw [if_pos ho', List.append_nil] at hct
      walk_at "nx"
      rw [← hct]
      exact up_of ⟨_, _, _, rfl, rfl⟩
  rintro Γ' M' ⟨z1, z2, z3, rfl, rfl⟩
  rw [hobL, List.take_length]
  walk_at "q"
  apply at_ret
  · walk_at "ev"
  · exact hQ _ _ (hR _ _ _)
theorem ok_L_net (c : Cxt K mg) : FnG P w K mg base (He.ga K "_law_net") ["_law_gates_here", "_law_lines_here"] 3 (Vl.spT K (T_L_net K)) := by
  obtain ⟨fd, F⟩ := F_L_net c
  exact ⟨⟨fd, okF_L_net c F, F.bindsN fun _ _ _ _ _ _ us hl => match us, hl with | [_, _], _ => rfl⟩, F.kp⟩
end

def N_Watch___init__ : List Str := ["self", "net"]
theorem sc_Watch___init__ : FnScope N_Watch___init__ ["self", "net"] (defScope s_Watch___init__) := ⟨rfl, rfl, rfl, by decide +kernel, rfl, by decide +kernel, by decide +kernel⟩
section
variable {P : Program} {w : World} {K : PySem.W.Frag} {mg : Str → Option Value} {base : Heap}
theorem okF_Watch___init__ {fd : FuncData} (c : Cxt K mg) (F : FunD K "__init__" "Watch.__init__" (defArgs s_Watch___init__) (defBody s_Watch___init__) (defScope s_Watch___init__) [] [] (He.ma K (He.ga K "Watch") "__init__") fd) : FnOk P w K mg base (L2.CX P w) 1 (He.ma K (He.ga K "Watch") "__init__") fd ["self", "net"] (spInitW K) := by
  refine F.ok sc_Watch___init__ (fun vs H Q E h => by obtain ⟨_, _, rfl, _⟩ := h; rfl) (fun cdv A outer s H vs Q E hr h => ?_)
  have hu := hu_of hr
  have hu64 := hr.units
  refine ⟨_, PSs.nox (pss_cons (ps_fld (pv 0) (pv 1) rfl)
      (pss_one (ps_fld (pv 0) pe_dnewK rfl))), ?_⟩
  obtain ⟨a, v, rfl, _, C, dx, ha, hc, hn, hq⟩ := h
  have ne : ∀ {H' : Hp} {p : Addr}, H' p = none → H' a ≠ none → a ≠ p := fun h1 h2 e => h2 (e ▸ h1)
  refine ⟨_, rfl, _, rfl, a, C, dx, [], rfl, ha, hc, hn _ (.inl rfl), by decide, ?_⟩
  intro d1 h1
  have l1 : d1 ≠ a := fun e => by rw [e, upd_same] at h1; cases h1
  rw [upd_ne l1] at h1
  refine ⟨_, rfl, a, C, dx, _, rfl, (upd_ne (fun e => l1 e.symm)).trans upd_same, hc, hn _ (.inr rfl), Nat.le_of_ble_eq_true rfl, ?_⟩
  have := hq d1 h1
  have e : upd (upd (upd H a (.ins C dx (putF "net" v []))) d1 (.dK [])) a (.ins C dx (putF "kept" (.ref d1) (putF "net" v []))) = watchH H a C dx d1 v := by
    funext b
    unfold watchH
    by_cases b0 : b = a
    · subst b0; rw [upd_same, upd_same]; rfl
    · rw [upd_ne b0, upd_ne b0]
      by_cases b1 : b = d1
      · subst b1; rw [upd_same, upd_same]
      · rw [upd_ne b1, upd_ne b1, upd_ne b0]
  exact e ▸ this
theorem ok_Watch___init__ (c : Cxt K mg) : FnG P w K mg base (He.ma K (He.ga K "Watch") "__init__") ["self", "net"] 1 (spInitW K) := by
  obtain ⟨fd, F⟩ := F_Watch___init__ c
  exact ⟨⟨fd, okF_Watch___init__ c F, F.bindsN fun _ _ _ _ _ _ us hl => match us, hl with | [_, _], _ => rfl⟩, F.kp⟩
end
def T_L_kept_well : TmV := fun ds M R _ => ∃ (x : Dt) (KP : List (List Dt)) (_ : ∀ A ∈ KP, ShD 12 (.lst A)), ds = [x] ∧ Lst M x (KP.map pairA) ∧ R (.bl true) M
def N_L_kept_well : List Str := ["_law_kept", "_law_pair"]
theorem sc_L_kept_well : FnScope N_L_kept_well ["_law_kept"] (defScope s_L_kept_well) := ⟨rfl, rfl, rfl, by decide +kernel, rfl, by decide +kernel, by decide +kernel⟩
section
variable {P : Program} {w : World} {K : PySem.W.Frag} {mg : Str → Option Value} {base : Heap}
theorem okF_L_kept_well {fd : FuncData} (c : Cxt K mg) (F : FunD K "_law_kept_well" "_law_kept_well" (defArgs s_L_kept_well) (defBody s_L_kept_well) (defScope s_L_kept_well) [] [] (He.ga K "_law_kept_well") fd) : FnOk P w K mg base (L2.CX P w) 1 (He.ga K "_law_kept_well") fd ["_law_kept"] (Vl.spT K T_L_kept_well) := by
  refine fnT F sc_L_kept_well (by decide) (fun ds M R X h => by obtain ⟨_, _, _, rfl, _⟩ := h; rfl) (fun cdv A outer s H E hr => ?_)
  have hu := hu_of hr
  have hu64 := hr.units
  refine ⟨_, PSs.nox (pss_cons (ps_for PassesOwn.never rfl (kseqU K rfl (pv 0)) (pg_name (i := 1) sc_L_kept_well.nd rfl (Or.inl rfl)) (pss_one (ps_if (pt_cmpR (kneU K rfl hu64) (pe_ix (kixU K rfl hu) (pv 1) pe_int (fun _ _ => rfl)) (pe_ix (kixU K rfl hu) (pv 1) pe_int (fun _ _ => rfl)) (nomark _)) (pss_one (ps_ret pe_bl)) pss_nil)))
      (pss_one (ps_ret pe_bl))), ?_⟩
  intro B G ds M R X Q ht hQ hX
  obtain ⟨x, KP, hKP, rfl, hl, hR⟩ := ht
  change At K B G [some _, none] M _
  walk_at "sq"
  apply at_forG (ds := KP.map pairA) (I := fun i Γ' M' => ∃ z, Γ' = [some x, z] ∧ M = M')
  · exact ed_var rfl
  · exact hl
  · exact ⟨_, rfl, rfl⟩
  · rintro i Γ' M' ⟨z, rfl, rfl⟩
    exact hl
  · rintro G' hle i d Γ' M' hd ⟨z, rfl, rfl⟩
    rw [List.getElem?_map] at hd
    obtain ⟨A, hA, rfl⟩ := Option.map_eq_some_iff.mp hd
    have hsh := hKP A (List.mem_of_getElem? hA)
    have hp : ∀ {Γ : Gm} {M' : Sto} {i : Nat}, Γ[i]? = some (some (pairA A)) → EvD K Γ M' (tVar i) (.lst [.lst A, .lst A]) := fun h => ed_var h
    apply atg_name
    walk_at "q"
    apply at_if (b := false)
    · apply et_test
      apply ed_op
      · exact ed_op (hp rfl) ed_int (u_ixL Lst.frz rfl)
      · exact ed_op (hp rfl) ed_int (u_ixL Lst.frz rfl)
      · exact u_neSame Sees.rfl Sees.rfl (hsh.mono (by decide))
    · intro h; cases h
    intro _
    walk_at "nx"
    apply up_of
    exact ⟨_, rfl, rfl⟩
  rintro Γ' M' ⟨z, rfl, rfl⟩
  walk_at "q"
  apply at_ret
  · walk_at "ev"
  · exact hQ _ _ hR
theorem ok_L_kept_well (c : Cxt K mg) : FnG P w K mg base (He.ga K "_law_kept_well") ["_law_kept"] 1 (Vl.spT K T_L_kept_well) := by
  obtain ⟨fd, F⟩ := F_L_kept_well c
  exact ⟨⟨fd, okF_L_kept_well c F, F.bindsN fun _ _ _ _ _ _ us hl => match us, hl with | [_], _ => rfl⟩, F.kp⟩
end
def T_L_line : TmV := fun ds M R _ => ∃ (num : Int) (gs : List (Str × Bool)) (u : Int), ds = [.int num, .lst (gs.map gateD), .int u] ∧ (2 ≤ gs.length ∧ gs.length ≤ 1000 ∧ 1 ≤ u ∧ u ≤ 1000000) ∧ ∀ a, R (.ob a) ((a, .lst (llDs (lineOf num gs u))) :: M)
def N_L_line : List Str := ["_law_number", "_law_gates_here", "_law_unit_here", "_law_one", "_law_other", "_law_way", "_law_toll", "_law_minutes"]
theorem sc_L_line : FnScope N_L_line ["_law_number", "_law_gates_here", "_law_unit_here"] (defScope s_L_line) := ⟨rfl, rfl, rfl, by decide +kernel, rfl, by decide +kernel, by decide +kernel⟩
section
variable {P : Program} {w : World} {K : PySem.W.Frag} {mg : Str → Option Value} {base : Heap}
theorem okF_L_line {fd : FuncData} (c : Cxt K mg) (F : FunD K "_law_line" "_law_line" (defArgs s_L_line) (defBody s_L_line) (defScope s_L_line) [] [] (He.ga K "_law_line") fd) : FnOk P w K mg base (L2.CX P w) 1 (He.ga K "_law_line") fd ["_law_number", "_law_gates_here", "_law_unit_here"] (Vl.spT K T_L_line) := by
  refine fnT F sc_L_line (by decide) (fun ds M R X h => by obtain ⟨_, _, _, rfl, _⟩ := h; rfl) (fun cdv A outer s H E hr => ?_)
  have hu := hu_of hr
  have hu64 := hr.units
  refine ⟨_, PSs.nox (pss_cons (ps_set (i := 3) sc_L_line.nd rfl (Or.inl rfl) (pe_op op_mod (pv 0) (pe_callB (klenU K rfl) (by rfl) (n_len c) PySem.boot_len (pa_cons (pv 1) pa_nil))))
      (pss_cons (ps_set (i := 4) sc_L_line.nd rfl (Or.inl rfl) (pe_op op_mod (pe_op (kaddU K rfl) (pe_op (kaddU K rfl) (pv 3) pe_int) (pe_op op_mod (pe_op op_fdiv (pv 0) pe_int) (pe_op op_sub (pe_callB (klenU K rfl) (by rfl) (n_len c) PySem.boot_len (pa_cons (pv 1) pa_nil)) pe_int))) (pe_callB (klenU K rfl) (by rfl) (n_len c) PySem.boot_len (pa_cons (pv 1) pa_nil))))
      (pss_cons (ps_set (i := 5) sc_L_line.nd rfl (Or.inl rfl) (pe_op op_mod (pe_op op_fdiv (pv 0) pe_int) pe_int))
      (pss_cons (ps_set (i := 6) sc_L_line.nd rfl (Or.inl rfl) (pe_op op_mod (pe_op op_fdiv (pv 0) pe_int) pe_int))
      (pss_cons (ps_if (pt_cmpR op_gt (pv 5) pe_int (nomark _)) (pss_one (ps_set (i := 6) sc_L_line.nd rfl (Or.inl rfl) (pe_op op_mod (pe_op op_fdiv (pv 0) pe_int) pe_int))) pss_nil)
      (pss_cons (ps_if (pt_cmpR (keqU K rfl hu64) (pv 5) pe_int (nomark _)) (pss_one (ps_set (i := 6) sc_L_line.nd rfl (Or.inl rfl) (pe_op op_mod (pe_op op_fdiv (pv 0) pe_int) pe_int))) pss_nil)
      (pss_cons (ps_set (i := 7) sc_L_line.nd rfl (Or.inl rfl) (pe_op (kaddU K rfl) pe_int (pe_op op_mod (pe_op op_fdiv (pv 0) pe_int) pe_int)))
      (pss_one (ps_ret (pe_lst (pa_cons (pe_ix (kixU K rfl hu) (pe_ix (kixU K rfl hu) (pv 1) (pv 3) (fun _ _ => rfl)) pe_int (fun _ _ => rfl)) (pa_cons (pe_ix (kixU K rfl hu) (pe_ix (kixU K rfl hu) (pv 1) (pv 4) (fun _ _ => rfl)) pe_int (fun _ _ => rfl)) (pa_cons (pe_op op_mulU (pv 2) (pv 7)) (pa_cons (pv 6) (pa_cons (pe_cmpR op_gt (pe_op op_mod (pe_op op_fdiv (pv 0) pe_int) pe_int) pe_int (nomark _)) pa_nil))))))))))))))), ?_⟩
  intro B G ds M R X Q ht hQ hX
  obtain ⟨num, gs, u, rfl, ⟨hg, hg2, hu1, hu2⟩, hR⟩ := ht
  change At K B G [some _, some _, some _, none, none, none, none, none] M _
  have hl : ((gs.map gateD).length : Int) = gs.length := by rw [List.length_map]
  obtain ⟨a0, a1⟩ := one_ok (num := num) hg
  obtain ⟨b0, b1, _⟩ := other_ok (num := num) hg
  have at1 : ∀ i : Int, 0 ≤ i → i < gs.length → atI (gs.map gateD) i = some (gateD (gs.getD i.toNat default)) := fun i h0 h1 => atI_mapD h0 h1
  walk_at "sq"
  apply at_asg (d := .int (oneOf num gs))
  · unfold oneOf
    rw [← hl]
    walk_at "ev"
  walk_at "q"
  walk_at "sq"
  apply at_asg (d := .int (otherOf num gs))
  · unfold otherOf
    rw [← hl]
    walk_at "ev"
  walk_at "q"
  walk_at "asg"
  walk_at "asg"
  walk_at "sq"
  apply at_ifI (x := num / 1009 % 100)
  · walk_at "et"
  · rfl
  · intro _; walk_at "ev"
  walk_at "q"
  walk_at "sq"
  apply at_ifI (x := num / 1009 % 1000001)
  · walk_at "et"
  · rfl
  · intro _; walk_at "ev"
  have ht : (if decide (num / 169 % 9 = 8) = true then num / 1009 % 1000001 else if decide (4 < num / 169 % 9) = true then num / 1009 % 100 else num / 1009 % 5) = tollOf num := by
    unfold tollOf
    by_cases h : num / 169 % 9 = 8
    · rw [if_pos (decide_eq_true h), if_pos h]
    · rw [if_neg (by simpa using h), if_neg h]
      by_cases h2 : 4 < num / 169 % 9
      · rw [if_pos (decide_eq_true h2), if_pos h2]
      · rw [if_neg (by simpa using h2), if_neg h2]
  rw [ht]
  walk_at "q"
  walk_at "asg"
  apply at_retNw
  · apply en_lst (xs := llDs (lineOf num gs u))
    · show EvA K _ _ _ [.str (gs.getD (oneOf num gs).toNat default).1, .str (gs.getD (otherOf num gs).toNat default).1, .int (u * (1 + num / 10007 % 6)), .int (tollOf num), .bl (decide (num / 70001 % 8 > 0))]
      have m0 := Int.emod_nonneg (num / 10007) (show (6 : Int) ≠ 0 by decide)
      have m1 := Int.emod_lt_of_pos (num / 10007) (show (0 : Int) < 6 by decide)
      apply ea_cons
      · apply ed_op
        · apply ed_op
          · walk_at "ev"
          · walk_at "ev"
          · exact u_ixL Lst.frz (at1 _ a0 a1)
        · walk_at "ev"
        · exact u_ixL Lst.frz rfl
      apply ea_cons
      · apply ed_op
        · apply ed_op
          · walk_at "ev"
          · walk_at "ev"
          · exact u_ixL Lst.frz (at1 _ b0 b1)
        · walk_at "ev"
        · exact u_ixL Lst.frz rfl
      apply ea_cons
      · apply ed_op
        · walk_at "ev"
        · walk_at "ev"
        · exact u_mulI (Or.inl ⟨by omega, by omega⟩)
      walk_at "ea"
    · exact Nat.le_of_ble_eq_true rfl
  · exact fun a => hQ _ _ (hR a)
theorem ok_L_line (c : Cxt K mg) : FnG P w K mg base (He.ga K "_law_line") ["_law_number", "_law_gates_here", "_law_unit_here"] 1 (Vl.spT K T_L_line) := by
  obtain ⟨fd, F⟩ := F_L_line c
  exact ⟨⟨fd, okF_L_line c F, F.bindsN fun _ _ _ _ _ _ us hl => match us, hl with | [_, _, _], _ => rfl⟩, F.kp⟩
end
def T_L_name : TmV := fun ds M R _ => ∃ (b t : Int), ds = [.int b, .int t] ∧ (0 ≤ b ∧ b < 2 ^ 40 ∧ 0 ≤ t ∧ t < 1000) ∧ R (.str (nameOf b t)) M
def N_L_name : List Str := ["_law_base", "_law_turn", "_law_some", "_law_signs", "_law_k", "_law_size", "_law_at"]
theorem sc_L_name : FnScope N_L_name ["_law_base", "_law_turn"] (defScope s_L_name) := ⟨rfl, rfl, rfl, by decide +kernel, rfl, by decide +kernel, by decide +kernel⟩
section
variable {P : Program} {w : World} {K : PySem.W.Frag} {mg : Str → Option Value} {base : Heap}
theorem okF_L_name {fd : FuncData} (c : Cxt K mg) (F : FunD K "_law_name" "_law_name" (defArgs s_L_name) (defBody s_L_name) (defScope s_L_name) [] [] (He.ga K "_law_name") fd) : FnOk P w K mg base (L2.CX P w) 1 (He.ga K "_law_name") fd ["_law_base", "_law_turn"] (Vl.spT K T_L_name) := by
  refine fnT F sc_L_name (by decide) (fun ds M R X h => by obtain ⟨_, _, rfl, _⟩ := h; rfl) (fun cdv A outer s H E hr => ?_)
  have hu := hu_of hr
  have hu64 := hr.units
  refine ⟨_, PSs.nox (pss_cons (ps_set (i := 2) sc_L_name.nd rfl (Or.inr rfl) pe_str)
      (pss_cons (ps_setLc (i := 3) (own := [("_law_k", 4)]) (g := gName 4) (tt := tYes) rfl sc_L_name.nd rfl rfl (sw_true rfl rfl rfl (by decide +kernel)) (pi_range1 (by rfl) (n_range c) (pa_cons pe_int pa_nil)) (blkOk_by (own := [("_law_k", 4)]) (N := N_L_name) (sc := defScope s_L_name) (by decide +kernel)) (fun _ _ _ _ _ => pg_name (i := 4) sc_L_name.nd rfl (Or.inl rfl)) (fun _ _ _ _ _ => pts_nil) (fun _ _ _ _ _ => (pe_ix (kixU K rfl hu) (pv 2) (pe_op op_mod (pe_op (kaddU K rfl) (pe_op (kaddU K rfl) (pe_op op_fdiv (pv 0) pe_int) (pe_op op_mulU pe_int (pv 4))) (pe_op op_mulU (pe_op op_fdiv (pv 0) pe_int) (pv 4))) pe_int) (fun _ _ => rfl))))
      (pss_cons (ps_asg (pe_ix (kixU K rfl hu) (pv 2) (pe_op op_mod (pe_op op_fdiv (pv 0) pe_int) pe_int) (fun _ _ => rfl)) (pg_sub (pv 3) pe_int (set_U hu)))
      (pss_cons (ps_if (PW.pt (pw_and (pt_cmpR (keqU K rfl hu64) (pe_op op_mod (pv 0) pe_int) pe_int (nomark _)) (pw_and1 (pt_cmpR (kltU K rfl hu64) (pv 1) pe_int (nomark _))))) (pss_one (ps_ret (pe_m1 PySem.F.slot_str_join PySem.F.type_str_join (kjoin K rfl) pe_str (pe_slice (kslU K rfl) (pv 3) po_none (po_some (pe_op (kaddU K rfl) pe_int (pv 1))))))) pss_nil)
      (pss_cons (ps_if (PW.pt (pw_or (pt_cmpR (kltU K rfl hu64) (pe_op op_mod (pv 0) pe_int) pe_int (nomark _)) (pw_or1 (pt_cmpR op_gt (pv 1) pe_int (nomark _))))) (pss_one (ps_ret (pe_op (kaddU K rfl) (pe_m1 PySem.F.slot_str_join PySem.F.type_str_join (kjoin K rfl) pe_str (pe_slice (kslU K rfl) (pv 3) po_none (po_some (pe_op (kaddU K rfl) pe_int (pe_op op_mod (pe_op op_fdiv (pv 0) pe_int) pe_int))))) (pe_callTy call_strI (by rfl) (n_str c) (by decide +kernel) (pa_cons (pv 1) pa_nil))))) pss_nil)
      (pss_cons (ps_set (i := 5) sc_L_name.nd rfl (Or.inl rfl) (pe_op (kaddU K rfl) pe_int (pe_op op_mod (pe_op op_fdiv (pv 0) pe_int) pe_int)))
      (pss_cons (ps_set (i := 6) sc_L_name.nd rfl (Or.inl rfl) (pe_op op_mod (pe_op op_fdiv (pv 0) pe_int) (pv 5)))
      (pss_cons (ps_asg (pe_ix (kixU K rfl hu) (pv 2) (pe_op op_mod (pe_op (kaddU K rfl) (pe_op op_fdiv (pv 0) pe_int) (pv 1)) (pe_ix (kixU K rfl hu) (pe_lst (pa_cons pe_int (pa_cons pe_int pa_nil))) (pe_callTy call_intU (by rfl) (n_int c) (by decide +kernel) (pa_cons (pe_cmpR (keqU K rfl hu64) (pv 6) pe_int (nomark _)) pa_nil)) (fun _ _ => rfl))) (fun _ _ => rfl)) (pg_sub (pv 3) (pv 6) (set_U hu)))
      (pss_one (ps_ret (pe_m1 PySem.F.slot_str_join PySem.F.type_str_join (kjoin K rfl) pe_str (pe_slice (kslU K rfl) (pv 3) po_none (po_some (pv 5)))))))))))))), ?_⟩
  intro B G ds M R X Q ht hQ hX
  obtain ⟨b, t, rfl, ⟨hb0, hb1, ht0, ht1⟩, hR⟩ := ht
  change At K B G [some _, some _, none, none, none, none, none] M _
  walk_at "asg"
  -- the signs
  apply at_seq
  apply at_asgN
  · exact (en_lcR (fun _ => true) (fun k => sD (sgAt ((b / 64 + 7 * (k : Int) + b / 99991 * (k : Int)) % 36))) (n := 8) (by walk_at "ea") (by decide) (by decide) fun i hi => ⟨by walk_at "et", fun _ => by
      have hm1 : 0 ≤ (b / 64 + 7 * (i : Int) + b / 99991 * (i : Int)) % 36 := Int.emod_nonneg _ (by decide)
      have hm2 : (b / 64 + 7 * (i : Int) + b / 99991 * (i : Int)) % 36 < 36 := Int.emod_lt_of_pos _ (by decide)
      have ha := at_sg hm1 hm2
      apply ed_op
      · walk_at "ev"
      · walk_at "ev"
      · apply u_ixS
        · decide +kernel
        · exact ha⟩)
  intro l
  walk_at "q"
  -- the first sign
  apply at_seq
  have hm3 : 0 ≤ b / 64 % 26 ∧ b / 64 % 26 < 26 := ⟨Int.emod_nonneg _ (by decide), Int.emod_lt_of_pos _ (by decide)⟩
  apply at_setL (j := 0) (n := 0) (d := sD (sgAt (b / 64 % 26)))
  · apply ed_op
    · walk_at "ev"
    · walk_at "ev"
    · apply u_ixS
      · decide +kernel
      · exact at_sg (by omega) (by omega)
  · walk_at "ev"
  · rfl
  · walk_at "ev"
  · rfl
  walk_at "q"
  have e1 : (outL (fun _ => true) (fun k => sD (sgAt ((b / 64 + 7 * ((k : Nat) : Int) + b / 99991 * (k : Int)) % 36))) (List.range (8 : Int).toNat)).set 0 (sD (sgAt (b / 64 % 26))) = (nsg b).map sD := by
    rw [outL_all, nsg, List.map_set, List.map_map]
    rfl
  rw [e1]
  have hl8 : ((nsg b).map sD).length = 8 := by rw [List.length_map, nsg_len]
  have hj : ∀ (n : Int), 0 ≤ n → EvD K [some (Dt.int b), some (Dt.int t), some (Dt.str "abcdefghijklmnopqrstuvwxyz0123456789"), some (Dt.ob l), none, none, none] [(l, Ow.lst ((nsg b).map sD))] (tC (.int n)) (.int n) := fun n _ => ed_int
  have joinT : ∀ (cs : List Nat) {Γ : Gm} {M : Sto} {t : TE}, cs.length ≤ 8 → EvD K Γ M t (.lst (cs.map sD)) → EvD K Γ M (tM1 (rJoin K) (tC (.str "")) t) (.str ⟨cs.toArray⟩) := fun cs Γ M t hc h => by
    have := ed_join (s := "") (ys := cs.map fun c => (⟨#[c]⟩ : Str)) (ta := tC (.str "")) ed_str h (by rw [List.map_map]; exact Lst.frz) (by rw [sum_signs]; show _ + _ * 0 ≤ _; omega)
    rw [show Txt.join ("" : Str) (cs.map fun c => (⟨#[c]⟩ : Str)) = ⟨cs.toArray⟩ from join_signs cs] at this
    exact this
  -- the beginnings
  apply at_seq; walk_at "if"
  · intro hc
    have hc' : b % 3 = 0 ∧ t < 8 := by simpa using hc
    have ht' : 0 ≤ 1 + t := by omega
    apply at_ret
    · apply joinT ((nsg b).take (1 + t).toNat)
      · rw [List.length_take, nsg_len]; omega
      · rw [List.map_take, ← cutD_to ht']
        walk_at "ev"
    · refine (hQ _ _ ?_).c1
      simpa [nameOf, hc'] using hR
  intro hc
  have hc1 : ¬ (b % 3 = 0 ∧ t < 8) := by simpa using hc
  walk_at "nx"
  -- a number behind
  apply at_seq; walk_at "if"
  · intro hd
    have hd' : b % 3 < 2 ∨ t > 25 := by simpa using hd
    have h5 : 0 ≤ b / 3 % 5 := Int.emod_nonneg _ (by decide)
    have h5' : 0 ≤ 1 + b / 3 % 5 := by omega
    have hlg := log2_small ht0 (by omega)
    have hsl := str_len t ht0 ht1
    have hll : ((nsg b).take (1 + b / 3 % 5).toNat).length ≤ 8 := by rw [List.length_take, nsg_len]; omega
    apply at_ret
    · apply ed_op
      · apply joinT ((nsg b).take (1 + b / 3 % 5).toNat) hll
        rw [List.map_take, ← cutD_to h5']
        walk_at "ev"
      · walk_at "ev"
      · apply u_addS
        show ((nsg b).take (1 + b / 3 % 5).toNat).toArray.size + _ ≤ _
        rw [List.size_toArray]
        omega
    · refine (hQ _ _ ?_).c1
      simpa [nameOf, hc1, hd'] using hR
  intro hd
  have hd1 : ¬ (b % 3 < 2 ∨ t > 25) := by simpa using hd
  walk_at "nx"
  -- a sign differs
  walk_at "asg"
  have h8 : 0 ≤ b / 3 % 8 ∧ b / 3 % 8 < 8 := ⟨Int.emod_nonneg _ (by decide), Int.emod_lt_of_pos _ (by decide)⟩
  have h9 : 0 < 1 + b / 3 % 8 := by omega
  walk_at "asg"
  have h10 : 0 ≤ b / 24 % (1 + b / 3 % 8) ∧ b / 24 % (1 + b / 3 % 8) < 1 + b / 3 % 8 := ⟨Int.emod_nonneg _ (by omega), Int.emod_lt_of_pos _ h9⟩
  generalize hat : b / 24 % (1 + b / 3 % 8) = p at h10
  have hmod : 0 < (if p = 0 then (26 : Int) else 36) := by split <;> decide
  have hmod2 : (if p = 0 then (26 : Int) else 36) ≤ 36 := by split <;> decide
  have hk1 := Int.emod_nonneg (b / 2311 + t) (show (if p = 0 then (26 : Int) else 36) ≠ 0 by omega)
  have hk2 := Int.emod_lt_of_pos (b / 2311 + t) hmod
  apply at_seq
  apply at_setL (j := 0) (n := p.toNat) (d := sD (sgAt ((b / 2311 + t) % (if p = 0 then 26 else 36))))
  · apply ed_op
    · walk_at "ev"
    · apply ed_op
      · walk_at "ev"
      · apply ed_op
        · walk_at "ev"
        · walk_at "ev"
        · apply u_ixL
          · walk_at "lst"
          · show atI [Dt.int 36, Dt.int 26] (if decide (p = 0) = true then 1 else 0) = some (Dt.int (if p = 0 then 26 else 36))
            by_cases hp : p = 0
            · simp [hp]; rfl
            · simp [hp]; rfl
      · apply op2_I; exact hmod
    · apply u_ixS
      · decide +kernel
      · exact at_sg hk1 (by omega)
  · walk_at "ev"
  · rfl
  · walk_at "ev"
  · rw [hl8]
    unfold ixN
    rw [if_pos h10.1, if_pos (by omega)]
  walk_at "q"
  have hll : (((nsg b).set p.toNat (sgAt ((b / 2311 + t) % (if p = 0 then 26 else 36)))).take (1 + b / 3 % 8).toNat).length ≤ 8 := by rw [List.length_take, List.length_set, nsg_len]; omega
  apply at_ret
  · apply joinT _ hll
    rw [List.map_take, List.map_set, ← cutD_to (by omega : 0 ≤ 1 + b / 3 % 8)]
    walk_at "ev"
  · refine (hQ _ _ ?_).c1
    simpa [nameOf, hc1, hd1, hat] using hR
theorem ok_L_name (c : Cxt K mg) : FnG P w K mg base (He.ga K "_law_name") ["_law_base", "_law_turn"] 1 (Vl.spT K T_L_name) := by
  obtain ⟨fd, F⟩ := F_L_name c
  exact ⟨⟨fd, okF_L_name c F, F.bindsN fun _ _ _ _ _ _ us hl => match us, hl with | [_, _], _ => rfl⟩, F.kp⟩
end
def T_Net_is_blind (K : PySem.W.Frag) : TmV := fun ds M R X => ∃ (x y z : Dt) (n : NetM) (s : Str), ds = [.inst (He.ga K "Net") (netF x y z), .str s] ∧ NetAt M x y z n ∧ (match n.sees s with | some b => R (.bl (!b)) M | none => X (He.ga K "NoGate") M)
def N_Net_is_blind : List Str := ["self", "name"]
theorem sc_Net_is_blind : FnScope N_Net_is_blind ["self", "name"] (defScope s_Net_is_blind) := ⟨rfl, rfl, rfl, by decide +kernel, rfl, by decide +kernel, by decide +kernel⟩
section
variable {P : Program} {w : World} {K : PySem.W.Frag} {mg : Str → Option Value} {base : Heap}
theorem okF_Net_is_blind {fd : FuncData} (c : Cxt K mg) (F : FunD K "is_blind" "Net.is_blind" (defArgs s_Net_is_blind) (defBody s_Net_is_blind) (defScope s_Net_is_blind) [] [] (He.ma K (He.ga K "Net") "is_blind") fd) : FnOk P w K mg base (L2.CX P w) 2 (He.ma K (He.ga K "Net") "is_blind") fd ["self", "name"] (Vl.spT K (T_Net_is_blind K)) := by
  obtain ⟨⟨fd_Net_need, G_Net_need, b_Net_need⟩, k_Net_need⟩ := ok_Net_need (P := P) (w := w) (base := base) c
  refine fnT F sc_Net_is_blind (by decide) (fun ds M R X h => by obtain ⟨_, _, _, _, _, rfl, _⟩ := h; rfl) (fun cdv A outer s H E hr => ?_)
  have hu := hu_of hr
  have hu64 := hr.units
  refine ⟨_, (pss_cons (ps_expr (pe_meth (pv 0) (cl_Net c) (m_Net_need c) G_Net_need (hr.mono (by decide)) b_Net_need .nil (passes_call (takes_of rfl rfl rfl rfl) (fun _ _ _ _ h => h)) (pa_cons (pv 1) pa_nil)))
      (pss_one (ps_ret (pe_not (pe_ix (kixU K rfl hu) (kfld K rfl (pv 0) rfl) (pv 1) (fun _ _ => rfl)))))), ?_⟩
  intro B G ds M R X Q ht hQ hX
  obtain ⟨x, y, z, n, s, rfl, hN, hR⟩ := ht
  change At K B G [some _, some _] M _
  walk_at "sq"
  cases hh : n.sees s with
  | some b =>
    rw [hh] at hR
    have h1 : n.has s = true := by unfold NetM.has; rw [hh]; rfl
    apply at_drop
    · apply evd_meth
      · walk_at "ev"
      · rfl
      · walk_at "ea"
      · exact ⟨x, y, z, n.sight, s, rfl, hN.s, by rw [if_pos (show (n.sight.lookup s).isSome = true from h1)]; exact ⟨rfl, rfl⟩⟩
    walk_at "q"
    apply at_ret
    · apply ed_notV
      apply ed_op
      · apply ed_fld
        · walk_at "ev"
        · exact cl_Net c
        · exact na_Net_sight c
        · rfl
      · walk_at "ev"
      · apply u_ixD hN.s (key := Sum.inr s) rfl
        rw [val_sight]
        show (n.sees s).map Dt.bl = _
        rw [hh]; rfl
    · exact hQ _ _ hR
  | none =>
    rw [hh] at hR
    have h1 : n.has s = false := by unfold NetM.has; rw [hh]; rfl
    apply at_dropX (P := fun _ _ => False)
    · apply evx_meth (PX := fun C M' => C = He.ga K "NoGate" ∧ M' = M)
      · walk_at "ev"
      · rfl
      · walk_at "ea"
      · exact ⟨x, y, z, n.sight, s, rfl, hN.s, by rw [if_neg (show ¬ (n.sight.lookup s).isSome = true from by rw [show (n.sight.lookup s).isSome = false from h1]; exact Bool.noConfusion)]; exact ⟨rfl, rfl⟩⟩
      · rintro C M' ⟨rfl, rfl⟩
        exact hX _ _ hR
    · exact fun _ _ p => p.elim
theorem ok_Net_is_blind (c : Cxt K mg) : FnG P w K mg base (He.ma K (He.ga K "Net") "is_blind") ["self", "name"] 2 (Vl.spT K (T_Net_is_blind K)) := by
  obtain ⟨fd, F⟩ := F_Net_is_blind c
  exact ⟨⟨fd, okF_Net_is_blind c F, F.bindsN fun _ _ _ _ _ _ us hl => match us, hl with | [_, _], _ => rfl⟩, F.kp⟩
end
def T_Watch_saw (K : PySem.W.Frag) : TmV := fun ds M R X => ∃ (x y z : Dt) (n : NetM) (kd : Addr) (W : WM) (j : Nat) (s g : Str) (t : Int) (_ : s.length ≤ 10000000 ∧ W.length ≤ 1000000) (_ : ∀ e, W.lookup s = some e → e.2.length ≤ 1000000 ∧ ∃ i : Nat, M[i]? = some (e.1, .lst (e.2.map isD))), ds = [.inst (He.ga K "Watch") (watchF (.inst (He.ga K "Net") (netF x y z)) kd), .str s, .str g, .int t] ∧ (M[j]? = some (kd, .dct (keptK W)) ∧ NetAt M x y z n) ∧
  (if isNm s = false then X (He.ga K "NoName") M else match n.sees g with
    | none => X (He.ga K "NoGate") M
    | some b => if b = false then X (He.ga K "Blind") M else if ¬ (0 ≤ t ∧ t ≤ 1000000000) then X (He.ga K "NoTime") M else match W.lookup s with
      | none => ∀ a, R (.bl true) ((a, .lst ([(t, g)].map isD)) :: M.set j (kd, .dct (keptK (W ++ [(s, a, [(t, g)])]))))
      | some e => if (t, g) ∈ e.2 then R (.bl false) M else ∀ i : Nat, M[i]? = some (e.1, .lst (e.2.map isD)) → R (.bl true) (M.set i (e.1, .lst ((e.2 ++ [(t, g)]).map isD))))
def N_Watch_saw : List Str := ["self", "car", "gate", "time"]
theorem sc_Watch_saw : FnScope N_Watch_saw ["self", "car", "gate", "time"] (defScope s_Watch_saw) := ⟨rfl, rfl, rfl, by decide +kernel, rfl, by decide +kernel, by decide +kernel⟩
section
variable {P : Program} {w : World} {K : PySem.W.Frag} {mg : Str → Option Value} {base : Heap}
theorem okF_Watch_saw {fd : FuncData} (c : Cxt K mg) (F : FunD K "saw" "Watch.saw" (defArgs s_Watch_saw) (defBody s_Watch_saw) (defScope s_Watch_saw) [] [] (He.ma K (He.ga K "Watch") "saw") fd) : FnOk P w K mg base (L2.CX P w) 3 (He.ma K (He.ga K "Watch") "saw") fd ["self", "car", "gate", "time"] (Vl.spT K (T_Watch_saw K)) := by
  obtain ⟨⟨fd_Net_need, G_Net_need, b_Net_need⟩, k_Net_need⟩ := ok_Net_need (P := P) (w := w) (base := base) c
  obtain ⟨⟨fd_Net_is_blind, G_Net_is_blind, b_Net_is_blind⟩, k_Net_is_blind⟩ := ok_Net_is_blind (P := P) (w := w) (base := base) c
  obtain ⟨⟨fd_is_name, G_is_name, b_is_name⟩, k_is_name⟩ := ok_is_name (P := P) (w := w) (base := base) c
  refine fnT F sc_Watch_saw (by decide) (fun ds M R X h => by obtain ⟨_, _, _, _, _, _, _, _, _, _, _, _, rfl, _⟩ := h; rfl) (fun cdv A outer s H E hr => ?_)
  have hu := hu_of hr
  have hu64 := hr.units
  refine ⟨_, (pss_cons (ps_if (pt_not (pt_val (pe_call G_is_name (hr.mono (by decide)) (by rfl) (g_is_name c) k_is_name b_is_name .nil passL (pa_cons (pv 1) pa_nil)))) (pss_one (ps_raise rfl (takes_of rfl rfl rfl rfl) (pmk_own PySem.F.excBase_ValueError (x_NoName c).1 (g_NoName c) (x_NoName c).2.1 (raises_own (x_NoName c).2.2.1 (x_NoName c).2.2.2) rfl))) pss_nil)
      (pss_cons (ps_expr (pe_meth (kfld K rfl (pv 0) rfl) (cl_Net c) (m_Net_need c) G_Net_need (hr.mono (by decide)) b_Net_need .nil (passes_call (takes_of rfl rfl rfl rfl) (fun _ _ _ _ h => h)) (pa_cons (pv 2) pa_nil)))
      (pss_cons (ps_if (pt_val (pe_meth (kfld K rfl (pv 0) rfl) (cl_Net c) (m_Net_is_blind c) G_Net_is_blind (hr.mono (by decide)) b_Net_is_blind .nil (passes_call (takes_of rfl rfl rfl rfl) (fun _ _ _ _ h => h)) (pa_cons (pv 2) pa_nil))) (pss_one (ps_raise rfl (takes_of rfl rfl rfl rfl) (pmk_own PySem.F.excBase_ValueError (x_Blind c).1 (g_Blind c) (x_Blind c).2.1 (raises_own (x_Blind c).2.2.1 (x_Blind c).2.2.2) rfl))) pss_nil)
      (pss_cons (ps_if (pt_not (pt_chain op_le op_le pe_int (pv 3) (pe_glI (c_MOST_TIME c) (by rfl)))) (pss_one (ps_raise rfl (takes_of rfl rfl rfl rfl) (pmk_own PySem.F.excBase_ValueError (x_NoTime c).1 (g_NoTime c) (x_NoTime c).2.1 (raises_own (x_NoTime c).2.2.1 (x_NoTime c).2.2.2) rfl))) pss_nil)
      (pss_cons (ps_if (pt_cmpR (kniU K rfl hu) (pv 1) (kfld K rfl (pv 0) rfl) (by rfl)) (pss_one (ps_asg (pe_lst pa_nil) (pg_sub (kfld K rfl (pv 0) rfl) (pv 1) (set_U hu)))) pss_nil)
      (pss_cons (ps_if (pt_cmpR (kinData K rfl hu64) (pe_tup (pa_cons (pv 3) (pa_cons (pv 2) pa_nil))) (pe_ix (kixU K rfl hu) (kfld K rfl (pv 0) rfl) (pv 1) (fun _ _ => rfl)) (by rfl)) (pss_one (ps_ret pe_bl)) pss_nil)
      (pss_cons (ps_expr (kbm K rfl PySem.F.plainAttrs_list PySem.F.slot_list_append PySem.F.type_list_append (mt_append) (pe_ix (kixU K rfl hu) (kfld K rfl (pv 0) rfl) (pv 1) (fun _ _ => rfl)) (pa_cons (pe_tup (pa_cons (pv 3) (pa_cons (pv 2) pa_nil))) pa_nil)))
      (pss_one (ps_ret pe_bl))))))))), ?_⟩
  intro B G ds M R X Q ht hQ hX
  obtain ⟨x, y, z, n, kd, W, j, s, g, t, ⟨hs, hWl⟩, hc, rfl, ⟨hj, hN⟩, hR⟩ := ht
  change At K B G [some _, some _, some _, some _] M _
  have fldN : ∀ {Γ : Gm} {M' : Sto}, Γ[0]? = some (some (.inst (He.ga K "Watch") (watchF (.inst (He.ga K "Net") (netF x y z)) kd))) → EvD K Γ M' (tFld K (tVar 0) "net") (.inst (He.ga K "Net") (netF x y z)) := fun h => by
    apply ed_fld
    · exact ed_var h
    · exact cl_Watch c
    · exact na_Watch_net c
    · rfl
  have fld : ∀ {Γ : Gm} {M' : Sto}, Γ[0]? = some (some (.inst (He.ga K "Watch") (watchF (.inst (He.ga K "Net") (netF x y z)) kd))) → EvD K Γ M' (tFld K (tVar 0) "kept") (.ob kd) := fun h => by
    apply ed_fld
    · exact ed_var h
    · exact cl_Watch c
    · exact na_Watch_kept c
    · rfl
  walk_at "sq"
  apply at_if (b := !isNm s)
  · apply et_not
    apply et_B
    apply evd_call
    · walk_at "ea"
    · exact ⟨s, rfl, hs, rfl, rfl⟩
  · intro h
    rw [if_pos (by simpa using h)] at hR
    exact at_raise (hX _ _ hR)
  intro h
  rw [if_neg (by simpa using h)] at hR
  walk_at "nx"
  walk_at "sq"
  cases hh : n.sees g with
  | none =>
    rw [hh] at hR
    apply at_dropX (P := fun _ _ => False)
    · apply evx_meth (PX := fun C M' => C = He.ga K "NoGate" ∧ M' = M)
      · exact fldN rfl
      · rfl
      · walk_at "ea"
      · exact ⟨x, y, z, n.sight, g, rfl, hN.s, by rw [if_neg (by rw [show n.sight.lookup g = none from hh]; exact Bool.noConfusion)]; exact ⟨rfl, rfl⟩⟩
      · rintro C M' ⟨rfl, rfl⟩
        exact hX _ _ hR
    · exact fun _ _ p => p.elim
  | some b =>
    rw [hh] at hR
    dsimp only at hR
    apply at_drop
    · apply evd_meth
      · exact fldN rfl
      · rfl
      · walk_at "ea"
      · exact ⟨x, y, z, n.sight, g, rfl, hN.s, by rw [if_pos (by rw [show n.sight.lookup g = some b from hh]; rfl)]; exact ⟨rfl, rfl⟩⟩
    walk_at "q"
    walk_at "sq"
    apply at_if (b := !b)
    · apply et_B
      apply evd_meth
      · exact fldN rfl
      · rfl
      · walk_at "ea"
      · exact ⟨x, y, z, n, g, rfl, hN, by rw [hh]; exact ⟨rfl, rfl⟩⟩
    · intro h
      rw [if_pos (by simpa using h)] at hR
      exact at_raise (hX _ _ hR)
    intro h
    rw [if_neg (by simpa using h)] at hR
    walk_at "nx"
    walk_at "sq"
    apply at_if (b := !(decide ((0 : Int) ≤ t) && decide (t ≤ 1000000000)))
    · walk_at "et"
    · intro h
      rw [if_pos (by
        rintro ⟨h1, h2⟩
        rw [decide_eq_true h1, decide_eq_true h2] at h
        cases h)] at hR
      exact at_raise (hX _ _ hR)
    intro h
    rw [if_neg (fun z => z (by
      rw [Bool.not_eq_false', Bool.and_eq_true_iff] at h
      exact ⟨of_decide_eq_true h.1, of_decide_eq_true h.2⟩))] at hR
    walk_at "nx"
    cases hl : W.lookup s with
    | none =>
      rw [hl] at hR
      dsimp only at hR
      walk_at "sq"
      apply at_if (b := !(W.lookup s).isSome)
      · apply et_test
        rw [← kept_some]
        apply ed_op
        · walk_at "ev"
        · exact fld rfl
        · exact u_niD (.own hj) rfl
      · intro _
        apply at_setDN j (key := Sum.inr s) (o := .lst [])
        · apply en_lst
          · exact ea_nil
          · exact Nat.zero_le _
        · intro p; exact fld rfl
        · exact hj
        · intro p; walk_at "ev"
        · rfl
        · unfold keptK; rw [List.length_map]; omega
        intro p
        rw [put_kept (l := [(t, g)]) hl]
        have hj2 : ∀ o : Ow, ((p, o) :: M.set j (kd, .dct (keptK (W ++ [(s, p, [(t, g)])]))))[j + 1]? = some (kd, .dct (keptK (W ++ [(s, p, [(t, g)])]))) := fun o => by
          rw [List.getElem?_cons_succ, List.getElem?_set, if_pos rfl, if_pos (List.getElem?_eq_some_iff.mp hj).1]
        have hlk : (W ++ [(s, p, [(t, g)])]).lookup s = some (p, [(t, g)]) := by
          rw [List.lookup_append, hl, List.lookup_cons_self]; rfl
        have elm : ∀ {Γ : Gm} {o : Ow}, Γ[0]? = some (some (.inst (He.ga K "Watch") (watchF (.inst (He.ga K "Net") (netF x y z)) kd))) → Γ[1]? = some (some (.str s)) → EvD K Γ ((p, o) :: M.set j (kd, .dct (keptK (W ++ [(s, p, [(t, g)])])))) (tOp (rIxU K) (tFld K (tVar 0) "kept") (tVar 1)) (.ob p) := fun {Γ o} h0 h1 => by
          apply ed_op
          · exact fld h0
          · exact ed_var h1
          · apply u_ixD (.own (j := j + 1) (hj2 o)) (key := Sum.inr s) (z := .ob p) rfl
            rw [val_kept, hlk]; rfl
        walk_at "q"
        walk_at "sq"
        apply at_if (b := decide ((t, g) ∈ ([] : List (Int × Str))))
        · apply et_test
          apply ed_op (x := isD (t, g)) (y := .ob p)
          · show EvD K _ _ _ (.tup [.int t, .str g])
            apply ed_tup
            · walk_at "ea"
            · walk_at "side"
          · exact elm rfl rfl
          · exact u_inDat (.own (j := 0) rfl)
        · intro h; cases h
        intro _
        walk_at "nx"
        walk_at "sq"
        apply at_app 0
        · exact elm rfl rfl
        · rfl
        · show EvD K _ _ _ (.tup [.int t, .str g])
          apply ed_tup
          · walk_at "ea"
          · walk_at "side"
        · show (0 : Nat) < 10000000; omega
        walk_at "q"
        apply at_ret
        · walk_at "ev"
        · exact hQ _ _ (hR p)
      · intro h; rw [hl] at h; cases h
    | some e =>
      rw [hl] at hR
      dsimp only at hR
      obtain ⟨hel, i, hi⟩ := hc e hl
      have elm : ∀ {Γ : Gm}, Γ[0]? = some (some (.inst (He.ga K "Watch") (watchF (.inst (He.ga K "Net") (netF x y z)) kd))) → Γ[1]? = some (some (.str s)) → EvD K Γ M (tOp (rIxU K) (tFld K (tVar 0) "kept") (tVar 1)) (.ob e.1) := fun {Γ} h0 h1 => by
        apply ed_op
        · exact fld h0
        · exact ed_var h1
        · apply u_ixD (.own hj) (key := Sum.inr s) (z := .ob e.1) rfl
          rw [val_kept, hl]; rfl
      walk_at "sq"
      apply at_if (b := !(W.lookup s).isSome)
      · apply et_test
        rw [← kept_some]
        apply ed_op
        · walk_at "ev"
        · exact fld rfl
        · exact u_niD (.own hj) rfl
      · intro h; rw [hl] at h; cases h
      intro _
      walk_at "nx"
      walk_at "sq"
      apply at_if (b := decide ((t, g) ∈ e.2))
      · apply et_test
        apply ed_op (x := isD (t, g)) (y := .ob e.1)
        · show EvD K _ _ _ (.tup [.int t, .str g])
          apply ed_tup
          · walk_at "ea"
          · walk_at "side"
        · exact elm rfl rfl
        · exact u_inDat (.own hi)
      · intro h
        rw [if_pos (of_decide_eq_true h)] at hR
        apply at_ret
        · walk_at "ev"
        · exact hQ _ _ hR
      intro h
      rw [if_neg (of_decide_eq_false h)] at hR
      walk_at "nx"
      walk_at "sq"
      apply at_app i
      · exact elm rfl rfl
      · exact hi
      · show EvD K _ _ _ (.tup [.int t, .str g])
        apply ed_tup
        · walk_at "ea"
        · walk_at "side"
      · rw [List.length_map]; omega
      walk_at "q"
      apply at_ret
      · walk_at "ev"
      · have := hR i hi
        rw [List.map_append] at this
        exact hQ _ _ this
theorem ok_Watch_saw (c : Cxt K mg) : FnG P w K mg base (He.ma K (He.ga K "Watch") "saw") ["self", "car", "gate", "time"] 3 (Vl.spT K (T_Watch_saw K)) := by
  obtain ⟨fd, F⟩ := F_Watch_saw c
  exact ⟨⟨fd, okF_Watch_saw c F, F.bindsN fun _ _ _ _ _ _ us hl => match us, hl with | [_, _, _, _], _ => rfl⟩, F.kp⟩
end
def T_L_sighted (K : PySem.W.Frag) : TmV := fun ds M R _ => ∃ (a : A12) (KP : List (List Dt)) (GG : OG) (L : OL) (W : WM) (cl : List Int) (i : Nat) (num lag : Int) (s : Str) (_ : I12 GG L W cl i ∧ i ≤ 20 ∧ (0 ≤ num ∧ 0 ≤ lag ∧ lag ≤ 8) ∧ isNm s = true), ds = [watX (He.ga K "Net") (He.ga K "Watch") a, .ob a.o, .str s, .ob a.gA, .int num, .int lag] ∧ M = st12 a KP GG L W cl ∧
  ∀ d W', I12 GG L W' cl (i + 1) → R d (st12 a KP GG L W' cl)
def N_L_sighted : List Str := ["_law_watch", "_law_own", "_law_car", "_law_gates_here", "_law_number", "_law_lag", "_law_gate", "_law_time", "_law_pair"]
theorem sc_L_sighted : FnScope N_L_sighted ["_law_watch", "_law_own", "_law_car", "_law_gates_here", "_law_number", "_law_lag"] (defScope s_L_sighted) := ⟨rfl, rfl, rfl, by decide +kernel, rfl, by decide +kernel, by decide +kernel⟩
section
variable {P : Program} {w : World} {K : PySem.W.Frag} {mg : Str → Option Value} {base : Heap}
theorem okF_L_sighted {fd : FuncData} (c : Cxt K mg) (F : FunD K "_law_sighted" "_law_sighted" (defArgs s_L_sighted) (defBody s_L_sighted) (defScope s_L_sighted) [] [] (He.ga K "_law_sighted") fd) : FnOk P w K mg base (L2.CX P w) 4 (He.ga K "_law_sighted") fd ["_law_watch", "_law_own", "_law_car", "_law_gates_here", "_law_number", "_law_lag"] (Vl.spT K (T_L_sighted K)) := by
  obtain ⟨⟨fd_Watch_saw, G_Watch_saw, b_Watch_saw⟩, k_Watch_saw⟩ := ok_Watch_saw (P := P) (w := w) (base := base) c
  refine fnT F sc_L_sighted (by decide) (fun ds M R X h => by obtain ⟨_, _, _, _, _, _, _, _, _, _, _, rfl, _⟩ := h; rfl) (fun cdv A outer s H E hr => ?_)
  have hu := hu_of hr
  have hu64 := hr.units
  refine ⟨_, PSs.nox (pss_cons (ps_set (i := 6) sc_L_sighted.nd rfl (Or.inl rfl) (pe_ix (kixU K rfl hu) (pv 3) (pe_op op_mod (pv 4) (pe_callB (klenU K rfl) (by rfl) (n_len c) PySem.boot_len (pa_cons (pv 3) pa_nil))) (fun _ _ => rfl)))
      (pss_cons (ps_if (PW.pt (pw_and (pt_val (pe_ix (kixU K rfl hu) (pv 6) pe_int (fun _ _ => rfl))) (pw_and1 (pt_cmpR (kltU K rfl hu64) (pe_callB (klenU K rfl) (by rfl) (n_len c) PySem.boot_len (pa_cons (pe_dget2 hu (pv 1) (pv 2) (pe_lst pa_nil) ⟨rfl, rfl, rfl, rfl⟩) pa_nil)) pe_int (nomark _))))) (pss_cons (ps_set (i := 7) sc_L_sighted.nd rfl (Or.inl rfl) (pv 5))
      (pss_cons (ps_if (pt_cmpR (kinU K rfl hu) (pv 2) (pv 1) (by rfl)) (pss_one (ps_set (i := 7) sc_L_sighted.nd rfl (Or.inl rfl) (pe_op (kaddU K rfl) (pe_callB (kmaxI K rfl rfl) (by rfl) (n_max c) (by decide +kernel) (pa_cons (pe_lc (own := [("_law_pair", 8)]) (g := gName 8) (tt := tYes) rfl sc_L_sighted.nd (kseqU K rfl (pe_ix (kixU K rfl hu) (pv 1) (pv 2) (fun _ _ => rfl))) (blkOk_by (own := [("_law_pair", 8)]) (N := N_L_sighted) (sc := defScope s_L_sighted) (by decide +kernel)) (fun _ _ _ _ _ => pg_name (i := 8) sc_L_sighted.nd rfl (Or.inl rfl)) (fun _ _ _ _ _ => pts_nil) (fun _ _ _ _ _ => (pe_ix (kixU K rfl hu) (pv 8) pe_int (fun _ _ => rfl)))) pa_nil)) (pv 5)))) pss_nil)
      (pss_cons (ps_expr (pe_meth (pv 0) (cl_Watch c) (m_Watch_saw c) G_Watch_saw (hr.mono (by decide)) b_Watch_saw .nil passL (pa_cons (pv 2) (pa_cons (pe_ix (kixU K rfl hu) (pv 6) pe_int (fun _ _ => rfl)) (pa_cons (pv 7) pa_nil)))))
      (pss_one (ps_if (pt_cmpR (kniData K rfl hu64) (pe_tup (pa_cons (pv 7) (pa_cons (pe_ix (kixU K rfl hu) (pv 6) pe_int (fun _ _ => rfl)) pa_nil))) (pe_dget2 hu (pv 1) (pv 2) (pe_lst pa_nil) ⟨rfl, rfl, rfl, rfl⟩) (by rfl)) (pss_one (ps_asg (pe_op (kaddU K rfl) (pe_dget2 hu (pv 1) (pv 2) (pe_lst pa_nil) ⟨rfl, rfl, rfl, rfl⟩) (pe_lst (pa_cons (pe_tup (pa_cons (pv 7) (pa_cons (pe_ix (kixU K rfl hu) (pv 6) pe_int (fun _ _ => rfl)) pa_nil))) pa_nil))) (pg_sub (pv 1) (pv 2) (set_U hu)))) pss_nil))))) pss_nil)
      (pss_one (ps_ret (pv 6))))), ?_⟩
  intro B G ds M R X Q ht hQ hX
  obtain ⟨a, KP, GG, L, W, cl, i0, num, lag, s, ⟨I, hi0, ⟨hnum, hlag0, hlag8⟩, hs⟩, rfl, hM, hR⟩ := ht
  change At K B G [some _, some _, some _, some _, some _, some _, none, none, none] M _
  subst hM
  apply at_nd
  intro nd
  have hWd := I.wd
  have hg2 := hWd.g2
  have hGl := I.g6
  have hWl : W.length ≤ 20 := by have := I.w; omega
  have hglen : (gsO GG).length = GG.length := by unfold gsO; rw [List.length_map]
  have hobl : ((obG GG).length : Int) = (GG.length : Int) := by unfold obG; rw [List.length_map]
  have hslen : s.length ≤ 10000000 := by have := nm_len hs; omega
  have hk0 := Int.emod_nonneg num (show (GG.length : Int) ≠ 0 by omega)
  have hk1 := Int.emod_lt_of_pos num (show (0 : Int) < GG.length by omega)
  obtain ⟨k, hk⟩ : ∃ k : Nat, num % (GG.length : Int) = (k : Int) := ⟨(num % (GG.length : Int)).toNat, by omega⟩
  have hkl : k < GG.length := by omega
  obtain ⟨⟨p, n, v⟩, he⟩ : ∃ e, GG[k]? = some e := ⟨_, List.getElem?_eq_getElem hkl⟩
  have hem := List.mem_of_getElem? he
  have hgm : n ∈ (gsO GG).map (·.1) := List.mem_map.mpr ⟨(n, v), List.mem_map.mpr ⟨_, hem, rfl⟩, rfl⟩
  obtain ⟨j, hj⟩ := List.getElem?_of_mem (mem_g (a := a) (KP := KP) (L := L) (W := W) (cl := cl) hem)
  have hat : atI (obG GG) (k : Int) = some (.ob p) := atI_map (f := fun e : Addr × Str × Bool => Dt.ob e.1) (n := k) he rfl
  have hlk : (gsO GG).lookup n = some v := by
    have hm : (n, v) ∈ gsO GG := List.mem_map.mpr ⟨_, hem, rfl⟩
    cases q : (gsO GG).lookup n with
    | none => exact absurd rfl (lookup_none q _ hm)
    | some w =>
      have hm2 : (n, w) ∈ gsO GG := by
        rw [List.lookup_eq_some_iff] at q
        obtain ⟨l1, l2, e1, _⟩ := q
        rw [e1]; exact List.mem_append_right _ List.mem_cons_self
      exact congrArg some (congrArg Prod.snd (nodup_inj hWd.nd hm2 hm rfl))
  walk_at "sq"
  apply at_asg (d := .ob p)
  · apply ed_op (x := .ob a.gA) (y := .int (k : Int))
    · exact ed_var rfl
    · rw [← hk, ← hobl]
      apply ed_op
      · exact ed_var rfl
      · exact ed_cb (ea_cons (ed_var rfl) ea_nil) (u_lenL (.own (j := 2) rfl))
      · apply op2_I
        show (0 : Int) < _
        omega
    · exact u_ixL (.own (j := 2) rfl) hat
  walk_at "q"
  walk_at "sq"
  have gE : ∀ (x : Int) (d : Dt) {Γ : Gm} {M' : Sto} {jj : Nat}, M'[jj]? = some (p, .lst [.str n, .bl v]) → Γ[6]? = some (some (.ob p)) → atI [Dt.str n, .bl v] x = some d → EvD K Γ M' (tOp (rIxU K) (tVar 6) (tC (.int x))) d := fun x d {Γ M' jj} h0 h h2 => ed_op (ed_var h) ed_int (u_ixL (.own h0) h2)
  have ownv : ∀ {Γ : Gm} {M1 : Sto} {j : Nat}, Γ[1]? = some (some (.ob a.o)) → Γ[2]? = some (some (.str s)) → M1[j]? = some (a.o, .dct (ownK W)) → EvD K Γ M1 (tDGet2 (tVar 1) (tVar 2) (tLst tNil)) (.lst ((slOf W s).map isD)) := fun {Γ M1 j} h1 h6 hj => by
    have e : Dt.lst ((slOf W s).map isD) = (valD (ownK W) (Sum.inr s)).getD (.lst []) := by
      unfold slOf
      rw [val_own]; cases W.lookup s <;> rfl
    rw [e]
    apply ed_get2 (key := Sum.inr s)
    · exact ed_var h1
    · exact .own hj
    · exact ed_var h6
    · rfl
    · apply EvN.toD
      apply en_lst ea_nil (Nat.zero_le _)
  have pairE : ∀ (t : Int) {Γ : Gm} {M1 : Sto} {jj : Nat}, M1[jj]? = some (p, .lst [.str n, .bl v]) → Γ[7]? = some (some (.int t)) → Γ[6]? = some (some (.ob p)) → EvD K Γ M1 (tTup (tCons (tVar 7) (tCons (tOp (rIxU K) (tVar 6) (tC (.int 0))) tNil))) (isD (t, n)) := fun t {Γ M1 jj} h0 h8 h7 => by
    show EvD K _ _ _ (.tup [.int t, .str n])
    exact ed_tup (ea_cons (ed_var h8) (ea_cons (gE 0 _ h0 h7 rfl) ea_nil)) (by walk_at "side")
  apply at_if (b := v && decide (((slOf W s).length : Int) < 4))
  · apply et_and
    · exact et_B (gE 1 _ hj rfl rfl)
    · intro _
      apply et_test
      rw [show ((slOf W s).length : Int) = (((slOf W s).map isD).length : Int) by rw [List.length_map]]
      apply ed_op
      · exact ed_cb (ea_cons (ownv (j := 3) rfl rfl rfl) ea_nil) (u_lenL .frz)
      · exact ed_int
      · exact u_ltI
  rotate_left
  · intro _
    walk_at "nx"
    apply at_ret (ed_var rfl)
    exact hQ _ _ (hR _ _ (i_more I (Nat.le_succ _)))
  intro h
  rw [Bool.and_eq_true_iff] at h
  obtain ⟨hv, h4⟩ := h
  have h4 := of_decide_eq_true h4
  walk_at "sq"
  apply at_asg (d := .int lag) (ed_var rfl)
  walk_at "q"
  walk_at "sq"
  have hlkv : (netOf (gsO GG) (lsO L)).sees n = some true := by rw [← hv]; exact hlk
  cases hl : W.lookup s with
  | none =>
    have hsl0 : slOf W s = [] := by unfold slOf; rw [hl]; rfl
    apply at_if (b := (W.lookup s).isSome)
    · apply et_test
      rw [← own_some]
      exact ed_op (ed_var rfl) (ed_var rfl) (u_inD (.own (j := 3) rfl) rfl)
    · intro z; rw [hl] at z; cases z
    intro _
    walk_at "nx"
    walk_at "sq"
    apply at_dropX (P := fun d M' => ∃ c, M' = (c, Ow.lst ([(lag, n)].map isD)) :: (st12 a KP GG L W cl).set 4 (a.kd, .dct (keptK (W ++ [(s, c, [(lag, n)])]))))
    · apply evx_meth (PX := fun _ _ => False)
      · exact ed_var rfl
      · rfl
      · exact ea_cons (ed_var rfl) (ea_cons (gE 0 _ hj rfl rfl) (ea_cons (ed_var rfl) ea_nil))
      · refine ⟨.ob a.d1, .ob a.l, .ob a.d2, netOf (gsO GG) (lsO L), a.kd, W, 4, s, n, lag, ⟨hslen, by omega⟩, fun e h => (by rw [hl] at h; cases h), rfl, ⟨rfl, net12 I.clo⟩, ?_⟩
        rw [if_neg (by rw [hs]; exact Bool.noConfusion), hlkv]
        dsimp only
        rw [if_neg Bool.noConfusion, if_neg (fun z => z ⟨hlag0, by omega⟩), hl]
        exact fun c => ⟨c, rfl⟩
      · exact fun _ _ z => z.elim
    rintro d M' ⟨c, rfl⟩
    walk_at "q"
    have hkp : a.kd ≠ p := fun z => by
      have := at_uniq nd (i := 4) (j := j) rfl hj z
      subst this
      have e1 : (st12 a KP GG L W cl)[4]? = some (a.kd, .dct (keptK W)) := rfl
      rw [e1] at hj
      cases hj
    have hj2 : ((c, Ow.lst ([(lag, n)].map isD)) :: (st12 a KP GG L W cl).set 4 (a.kd, .dct (keptK (W ++ [(s, c, [(lag, n)])]))))[j + 1]? = some (p, .lst [.str n, .bl v]) := set_other hj (q := (a.kd, .dct (keptK W))) rfl (.inl fun z => hkp z.symm)
    apply at_if (b := true)
    · apply et_test
      apply EvD.is
      · apply ed_op
        · exact pairE lag hj2 rfl rfl
        · exact ownv (j := 4) rfl rfl rfl
        · exact u_niDat .frz
      · rw [hsl0]; rfl
    · intro _
      apply at_setD 4 (key := Sum.inr s) (d := .lst ([(lag, n)].map isD))
      · apply EvN.toD
        refine EvN.is (o := .lst ((slOf W s).map isD ++ [isD (lag, n)])) ?_ (by rw [hsl0]; rfl)
        apply en_op (x := .lst ((slOf W s).map isD)) (y := .lst [isD (lag, n)])
        · exact ownv (j := 4) rfl rfl rfl
        · apply EvN.toD
          apply en_lst
          · exact ea_cons (pairE lag hj2 rfl rfl) ea_nil
          · walk_at "side"
        · exact u_addL .frz .frz (by rw [hsl0]; show 0 + 1 ≤ _; decide)
      · exact ed_var rfl
      · rfl
      · exact ed_var rfl
      · rfl
      · unfold ownK; rw [List.length_map]; omega
      rw [put_ownN (a := c) hl, List.set_cons_succ]
      walk_at "q"
      apply at_nd
      intro nd3
      apply at_ret (ed_var rfl)
      have hne : a.kd ≠ a.o := fun z => by
        have := at_uniq nd (i := 4) (j := 3) (p := (a.kd, .dct (keptK W))) (q := (a.o, .dct (ownK W))) rfl rfl z
        cases this
      have hsame : (((st12 a KP GG L W cl).set 4 (a.kd, .dct (keptK (W ++ [(s, c, [(lag, n)])])))).set 3 (a.o, .dct (ownK (W ++ [(s, c, [(lag, n)])])))).map (·.1) = (st12 a KP GG L W cl).map (·.1) := by
        refine (map_set_self (l := (st12 a KP GG L W cl).set 4 (a.kd, .dct (keptK (W ++ [(s, c, [(lag, n)])])))) (k := 3) (f := fun e : Addr × Ow => e.1) (x := (a.o, .dct (ownK W))) (y := (a.o, .dct (ownK (W ++ [(s, c, [(lag, n)])])))) rfl rfl).trans ?_
        exact map_set_self (l := st12 a KP GG L W cl) (k := 4) (f := fun e : Addr × Ow => e.1) (x := (a.kd, .dct (keptK W))) (y := (a.kd, .dct (keptK (W ++ [(s, c, [(lag, n)])])))) rfl rfl
      have ndq : (c :: (st12 a KP GG L W cl).map (·.1)).Nodup := by
        rw [List.map_cons, hsame] at nd3
        exact nd3
      have ndN : ((st12 a KP GG L (W ++ [(s, c, [(lag, n)])]) cl).map (·.1)).Nodup := by
        rw [adrs] at ndq ⊢
        refine (List.Perm.nodup_iff ?_).mpr ndq
        rw [List.map_append]
        have p1 : (adr12 a ++ (GG.map (·.1) ++ (L.map (·.1) ++ (W.map (·.2.1) ++ [c])))).Perm (adr12 a ++ (c :: (GG.map (·.1) ++ (L.map (·.1) ++ W.map (·.2.1))))) := by
          apply List.Perm.append_left
          refine List.Perm.trans ?_ List.perm_middle
          apply List.Perm.append_left
          refine List.Perm.trans ?_ List.perm_middle
          apply List.Perm.append_left
          exact List.perm_append_comm
        exact p1.trans List.perm_middle
      refine rt_sub (M' := st12 a KP GG L (W ++ [(s, c, [(lag, n)])]) cl) (fun x hx => ?_) ndN (hQ _ _ (hR _ _ (i_new I hs hl hgm hlag0 hlag8)))
      refine new_sub2 (M := st12 a KP GG L W cl) (N := st12 a KP GG L (W ++ [(s, c, [(lag, n)])]) cl) (i := 4) (j := 3) (a := a.kd) (b := a.o) (q := c) (o := .dct (keptK W)) (w := .dct (ownK W)) rfl rfl hne ndN ?_ ?_ ?_ ?_ x hx
      · exact mem_w (List.mem_append_right _ List.mem_cons_self)
      · exact List.mem_of_getElem? (i := 4) rfl
      · exact List.mem_of_getElem? (i := 3) rfl
      · intro x hx
        rcases mem12 hx with hx | ⟨e, he', rfl⟩ | ⟨e, he', rfl⟩ | ⟨e, he', rfl⟩
        · unfold fix12 at hx
          simp only [List.mem_cons, List.not_mem_nil, or_false] at hx
          rcases hx with rfl | rfl | rfl | rfl | rfl | rfl | rfl | rfl
          · exact .inr (.inr (.inr (List.mem_of_getElem? (i := 0) rfl)))
          · exact .inr (.inr (.inr (List.mem_of_getElem? (i := 1) rfl)))
          · exact .inr (.inr (.inr (List.mem_of_getElem? (i := 2) rfl)))
          · exact .inr (.inr (.inl rfl))
          · exact .inr (.inl rfl)
          · exact .inr (.inr (.inr (List.mem_of_getElem? (i := 5) rfl)))
          · exact .inr (.inr (.inr (List.mem_of_getElem? (i := 6) rfl)))
          · exact .inr (.inr (.inr (List.mem_of_getElem? (i := 7) rfl)))
        · exact .inr (.inr (.inr (mem_g he')))
        · exact .inr (.inr (.inr (mem_l he')))
        · rcases List.mem_append.mp he' with h | h
          · exact .inr (.inr (.inr (mem_w h)))
          · rw [List.mem_singleton.mp h]; exact .inl rfl
    · intro z; cases z
  | some e =>
    have hsle : slOf W s = e.2 := slOf_some hl
    have hsl : SlOk ((gsO GG).map (·.1)) e.2 := (I.sl _ (lookup_mem hl)).2
    rw [hsle] at h4 ownv
    obtain ⟨m, hm⟩ : ∃ m, m = (e.2.map (·.1)).getLast?.getD 0 := ⟨_, rfl⟩
    have hm1 := ch_last hsl.ch
    have hm2 := ch_top hsl.ch
    rw [← hm] at hm1 hm2
    rw [List.length_map] at hm2
    have hmm : m ∈ e.2.map (·.1) := by rw [hm]; exact last_mem (fun z => hsl.ne (List.map_eq_nil_iff.mp z))
    obtain ⟨ie, hie⟩ := List.getElem?_of_mem (mem_w (a := a) (KP := KP) (G := GG) (L := L) (cl := cl) (lookup_mem hl))
    have hie : (st12 a KP GG L W cl)[ie]? = some (e.1, .lst (e.2.map isD)) := hie
    apply at_join (fun Γ' M' => M' = st12 a KP GG L W cl ∧ Γ' = [some (watX (He.ga K "Net") (He.ga K "Watch") a), some (.ob a.o), some (.str s), some (.ob a.gA), some (.int num), some (.int lag), some (.ob p), some (.int (m + lag)), none])
    · intro N hN
      apply at_if (b := (W.lookup s).isSome)
      · apply et_test
        rw [← own_some]
        exact ed_op (ed_var rfl) (ed_var rfl) (u_inD (.own (j := 3) rfl) rfl)
      · intro _
        apply at_asg (d := .int (m + lag))
        · apply ed_op
          · apply ed_cb (xs := [.lst ((e.2.map (·.1)).map Dt.int)])
            · apply ea_cons
              · apply EvN.toD
                have e0 : (e.2.map (·.1)).map Dt.int = outL (fun _ => true) (fun q : Int × Str => Dt.int q.1) e.2 := by rw [outL_all, List.map_map]; rfl
                rw [e0]
                apply en_lc e.2 isD (x0 := .lst (e.2.map isD))
                · apply ed_op (ed_var rfl) (ed_var rfl)
                  exact u_ixD (.own (j := 3) rfl) (key := Sum.inr s) rfl ((val_own W s).trans (by rw [hl]; rfl))
                · exact .inl .frz
                · have := hsl.l4; omega
                · intro i q hq
                  refine ⟨et_yes, fun _ => ?_⟩
                  walk_at "q"
                  exact ed_op (x := .tup [.int q.1, .str q.2]) (ed_var rfl) ed_int (u_ixT rfl)
              · exact ea_nil
            · exact c_maxI .frz hmm hm1.2
          · exact ed_var rfl
          · exact u_addI
        walk_at "q"
        apply hN
        exact ⟨rfl, rfl⟩
      · intro z; rw [hl] at z; cases z
    rintro Γ' M' ⟨rfl, rfl⟩
    walk_at "sq"
    have ht0 : 0 ≤ m + lag ∧ m + lag ≤ 1000000000 := by have := hm1.1; have := hsl.l4; omega
    apply at_dropX (P := fun d M' => ((m + lag, n) ∈ e.2 ∧ M' = st12 a KP GG L W cl) ∨ ((m + lag, n) ∉ e.2 ∧ M' = (st12 a KP GG L W cl).set ie (e.1, .lst ((e.2 ++ [(m + lag, n)]).map isD))))
    · apply evx_meth (PX := fun _ _ => False)
      · exact ed_var rfl
      · rfl
      · exact ea_cons (ed_var rfl) (ea_cons (gE 0 _ hj rfl rfl) (ea_cons (ed_var rfl) ea_nil))
      · refine ⟨.ob a.d1, .ob a.l, .ob a.d2, netOf (gsO GG) (lsO L), a.kd, W, 4, s, n, m + lag, ⟨hslen, by omega⟩, fun e' h => (by rw [hl] at h; cases h; exact ⟨by have := hsl.l4; omega, ie, hie⟩), rfl, ⟨rfl, net12 I.clo⟩, ?_⟩
        rw [if_neg (by rw [hs]; exact Bool.noConfusion), hlkv]
        dsimp only
        rw [if_neg Bool.noConfusion, if_neg (fun z => z ht0), hl]
        dsimp only
        by_cases q : (m + lag, n) ∈ e.2
        · rw [if_pos q]; exact .inl ⟨q, rfl⟩
        · rw [if_neg q]
          intro i hi
          have := at_uniq nd hi hie rfl
          subst this
          exact .inr ⟨q, rfl⟩
      · exact fun _ _ z => z.elim
    rintro d M' (⟨hin, rfl⟩ | ⟨hin, rfl⟩)
    · walk_at "q"
      apply at_if (b := false)
      · apply et_test
        apply EvD.is
        · apply ed_op
          · exact pairE (m + lag) hj rfl rfl
          · exact ownv (j := 3) rfl rfl rfl
          · exact u_niDat .frz
        · show Dt.bl (!decide ((m + lag, n) ∈ e.2)) = _
          rw [decide_eq_true hin]; rfl
      · intro z; cases z
      intro _
      walk_at "nx"
      apply at_ret (ed_var rfl)
      exact hQ _ _ (hR _ _ (i_more I (Nat.le_succ _)))
    · walk_at "q"
      have hep : e.1 ≠ p := fun z => by
        have := at_uniq nd hie hj z
        subst this
        rw [hie] at hj
        have h2 : Ow.lst (e.2.map isD) = .lst [.str n, .bl v] := congrArg Prod.snd (Option.some.inj hj)
        have h3 : e.2.map isD = [.str n, .bl v] := Ow.lst.inj h2
        cases q : e.2 with
        | nil => exact hsl.ne q
        | cons x r => rw [q, List.map_cons] at h3; cases h3
      have heo : e.1 ≠ a.o := fun z => by
        have := at_uniq nd (j := 3) hie (q := (a.o, .dct (ownK W))) rfl z
        subst this
        have e1 : (st12 a KP GG L W cl)[3]? = some (a.o, .dct (ownK W)) := rfl
        rw [e1] at hie
        exact nomatch (congrArg Prod.snd (Option.some.inj hie))
      have hj2 : ((st12 a KP GG L W cl).set ie (e.1, .lst ((e.2 ++ [(m + lag, n)]).map isD)))[j]? = some (p, .lst [.str n, .bl v]) := set_other hj hie (.inl fun z => hep z.symm)
      have ho2 : ((st12 a KP GG L W cl).set ie (e.1, .lst ((e.2 ++ [(m + lag, n)]).map isD)))[3]? = some (a.o, .dct (ownK W)) := set_other (p := (a.o, .dct (ownK W))) rfl hie (.inl fun z => heo z.symm)
      apply at_if (b := true)
      · apply et_test
        apply EvD.is
        · apply ed_op
          · exact pairE (m + lag) hj2 rfl rfl
          · exact ownv rfl rfl ho2
          · exact u_niDat .frz
        · show Dt.bl (!decide ((m + lag, n) ∈ e.2)) = _
          rw [decide_eq_false hin]; rfl
      · intro _
        apply at_setD 3 (key := Sum.inr s) (d := .lst ((e.2 ++ [(m + lag, n)]).map isD))
        · apply EvN.toD
          refine EvN.is (o := .lst (e.2.map isD ++ [isD (m + lag, n)])) ?_ (by rw [List.map_append]; rfl)
          apply en_op (x := .lst (e.2.map isD)) (y := .lst [isD (m + lag, n)])
          · exact ownv rfl rfl ho2
          · apply EvN.toD
            apply en_lst
            · exact ea_cons (pairE (m + lag) hj2 rfl rfl) ea_nil
            · walk_at "side"
          · exact u_addL .frz .frz (by rw [List.length_map]; show e.2.length + 1 ≤ _; omega)
        · exact ed_var rfl
        · exact ho2
        · exact ed_var rfl
        · rfl
        · unfold ownK; rw [List.length_map]; omega
        rw [put_ownS (by rw [hl]; rfl)]
        walk_at "q"
        apply at_ret (ed_var rfl)
        have ha2 : (st12 a KP GG L (putW W s (e.2 ++ [(m + lag, n)])) cl).map (·.1) = (st12 a KP GG L W cl).map (·.1) := by
          rw [adrs, adrs, put_adr]
        refine rt_sub (M' := st12 a KP GG L (putW W s (e.2 ++ [(m + lag, n)])) cl) ?_ (ha2 ▸ nd) (hQ _ _ (hR _ _ (i_put I hl (by omega) hgm (by omega) (by omega))))
        have hpm := put_mem (l := e.2 ++ [(m + lag, n)]) I.kw hl
        refine set_sub2 (o := .lst (e.2.map isD)) (w := .dct (ownK W)) hie rfl heo nd ha2 ?_ ?_ ?_
        · exact mem_w hpm.1
        · exact List.mem_of_getElem? (i := 3) rfl
        · intro x hx
          rcases mem12 hx with hx | ⟨e', he', rfl⟩ | ⟨e', he', rfl⟩ | ⟨e', he', rfl⟩
          · unfold fix12 at hx
            rw [kept_put] at hx
            simp only [List.mem_cons, List.not_mem_nil, or_false] at hx
            rcases hx with rfl | rfl | rfl | rfl | rfl | rfl | rfl | rfl
            · exact .inr (.inr (List.mem_of_getElem? (i := 0) rfl))
            · exact .inr (.inr (List.mem_of_getElem? (i := 1) rfl))
            · exact .inr (.inr (List.mem_of_getElem? (i := 2) rfl))
            · exact .inr (.inl rfl)
            · exact .inr (.inr (List.mem_of_getElem? (i := 4) rfl))
            · exact .inr (.inr (List.mem_of_getElem? (i := 5) rfl))
            · exact .inr (.inr (List.mem_of_getElem? (i := 6) rfl))
            · exact .inr (.inr (List.mem_of_getElem? (i := 7) rfl))
          · exact .inr (.inr (mem_g he'))
          · exact .inr (.inr (mem_l he'))
          · rcases hpm.2 e' he' with rfl | h
            · exact .inl rfl
            · exact .inr (.inr (mem_w h))
      · intro z; cases z
theorem ok_L_sighted (c : Cxt K mg) : FnG P w K mg base (He.ga K "_law_sighted") ["_law_watch", "_law_own", "_law_car", "_law_gates_here", "_law_number", "_law_lag"] 4 (Vl.spT K (T_L_sighted K)) := by
  obtain ⟨fd, F⟩ := F_L_sighted c
  exact ⟨⟨fd, okF_L_sighted c F, F.bindsN fun _ _ _ _ _ _ us hl => match us, hl with | [_, _, _, _, _, _], _ => rfl⟩, F.kp⟩
end
def T_look (K : PySem.W.Frag) : TmV := fun ds M R X => ∃ (x y z s : Dt) (n : NetM) (seen : List (Int × Str)), ds = [.inst (He.ga K "Net") (netF x y z), s] ∧ (NetAt M x y z n ∧ Lst M s (seen.map seenD)) ∧ (match lookOf n seen with | none => R .non M | some e => X (He.ga K e) M)
def N_look : List Str := ["net", "seen", "ahead", "time", "gate"]
theorem sc_look : FnScope N_look ["net", "seen"] (defScope s_look) := ⟨rfl, rfl, rfl, by decide +kernel, rfl, by decide +kernel, by decide +kernel⟩
section
variable {P : Program} {w : World} {K : PySem.W.Frag} {mg : Str → Option Value} {base : Heap}
theorem okF_look {fd : FuncData} (c : Cxt K mg) (F : FunD K "look" "look" (defArgs s_look) (defBody s_look) (defScope s_look) [] [] (He.ga K "look") fd) : FnOk P w K mg base (L2.CX P w) 2 (He.ga K "look") fd ["net", "seen"] (Vl.spT K (T_look K)) := by
  obtain ⟨⟨fd_Net_need, G_Net_need, b_Net_need⟩, k_Net_need⟩ := ok_Net_need (P := P) (w := w) (base := base) c
  refine fnT F sc_look (by decide) (fun ds M R X h => by obtain ⟨_, _, _, _, _, _, rfl, _⟩ := h; rfl) (fun cdv A outer s H E hr => ?_)
  have hu := hu_of hr
  have hu64 := hr.units
  refine ⟨_, (pss_cons (ps_if (pt_cmpR (keqU K rfl hu64) (pe_callB (klenU K rfl) (by rfl) (n_len c) PySem.boot_len (pa_cons (pv 1) pa_nil)) pe_int (nomark _)) (pss_one (ps_raise rfl (takes_of rfl rfl rfl rfl) (pmk_own PySem.F.excBase_ValueError (x_NoSight c).1 (g_NoSight c) (x_NoSight c).2.1 (raises_own (x_NoSight c).2.2.1 (x_NoSight c).2.2.2) rfl))) pss_nil)
      (pss_cons (ps_set (i := 2) sc_look.nd rfl (Or.inl rfl) pe_int)
      (pss_one (ps_for (passes_of rfl) rfl (kseqU K rfl (pv 1)) (ktup K rfl rfl (pgs_cons (pg_name (i := 3) sc_look.nd rfl (Or.inl rfl)) (pgs_cons (pg_name (i := 4) sc_look.nd rfl (Or.inl rfl)) pgs_nil))) (pss_cons (ps_expr (pe_meth (pv 0) (cl_Net c) (m_Net_need c) G_Net_need (hr.mono (by decide)) b_Net_need .nil (passes_call (takes_of rfl rfl rfl rfl) (fun _ _ _ _ h => h)) (pa_cons (pv 4) pa_nil)))
      (pss_cons (ps_if (pt_cmpR (kltU K rfl hu64) (pv 3) (pv 2) (nomark _)) (pss_one (ps_raise rfl (takes_of rfl rfl rfl rfl) (pmk_own PySem.F.excBase_ValueError (x_NoTime c).1 (g_NoTime c) (x_NoTime c).2.1 (raises_own (x_NoTime c).2.2.1 (x_NoTime c).2.2.2) rfl))) pss_nil)
      (pss_one (ps_set (i := 2) sc_look.nd rfl (Or.inl rfl) (pv 3))))))))), ?_⟩
  intro B G ds M R X Q ht hQ hX
  obtain ⟨x, y, z, s, n, seen, rfl, ⟨hN, hL⟩, hR⟩ := ht
  change At K B G [some _, some _, none, none, none] M _
  walk_at "sq"
  apply at_if (b := decide (((seen.map seenD).length : Int) = 0))
  · apply et_test
    apply ed_op
    · apply ed_cb
      · walk_at "ea"
      · exact u_lenL hL
    · walk_at "ev"
    · exact u_eqI
  · intro h
    have h' : seen = [] := by
      have := of_decide_eq_true h
      rw [List.length_map] at this
      exact List.length_eq_zero_iff.mp (by omega)
    subst h'
    exact at_raise (hX _ _ hR)
  intro h
  have h' : seen ≠ [] := fun e => by
    subst e
    exact of_decide_eq_false h rfl
  have hlk : lookOf n seen = lookGo n 0 seen := by unfold lookOf; rw [if_neg h']
  rw [hlk] at hR
  walk_at "nx"
  walk_at "asg"
  apply at_forG (x := s) (ds := seen.map seenD) (I := fun i Γ' M' => ∃ a z1 z2, Γ' = [some (.inst (He.ga K "Net") (netF x y z)), some s, some (Dt.int a), z1, z2] ∧ M' = M ∧ lookGo n a (seen.drop i) = lookGo n 0 seen)
  · walk_at "ev"
  · exact hL
  · exact ⟨_, _, _, rfl, rfl, rfl⟩
  · rintro i Γ' M' ⟨a, z1, z2, rfl, rfl, _⟩
    exact hL
  · rintro G' hle i d Γ' M' hd ⟨a, z1, z2, rfl, rfl, hgo⟩
    rw [List.getElem?_map] at hd
    obtain ⟨p, hp, rfl⟩ := Option.map_eq_some_iff.mp hd
    have hdr : seen.drop i = p :: seen.drop (i + 1) := by
      have hil := (List.getElem?_eq_some_iff.mp hp)
      rw [List.drop_eq_getElem_cons hil.1, hil.2]
    rw [hdr, lookGo] at hgo
    apply atg_tup2
    walk_at "q"
    walk_at "sq"
    by_cases hg : n.has p.2 = false
    · rw [if_pos hg] at hgo
      rw [← hgo] at hR
      apply at_dropX (P := fun _ _ => False)
      · apply evx_meth (PX := fun C M2 => C = He.ga K "NoGate" ∧ M2 = M')
        · walk_at "ev"
        · rfl
        · walk_at "ea"
        · exact ⟨x, y, z, n.sight, p.2, rfl, hN.s, by rw [if_neg (show ¬ (n.sight.lookup p.2).isSome = true from by rw [show (n.sight.lookup p.2).isSome = false from hg]; exact Bool.noConfusion)]; exact ⟨rfl, rfl⟩⟩
        · rintro C M2 ⟨rfl, rfl⟩
          exact (hX _ _ hR).le hle
      · exact fun _ _ p => p.elim
    · have hg' : n.has p.2 = true := by simpa using hg
      rw [if_neg hg] at hgo
      apply at_drop
      · apply evd_meth
        · walk_at "ev"
        · rfl
        · walk_at "ea"
        · exact ⟨x, y, z, n.sight, p.2, rfl, hN.s, by rw [if_pos (show (n.sight.lookup p.2).isSome = true from hg')]; exact ⟨rfl, rfl⟩⟩
      walk_at "q"
      walk_at "sq"
      walk_at "if"
      · intro hlt
        rw [if_pos (of_decide_eq_true hlt)] at hgo
        rw [← hgo] at hR
        exact at_raise ((hX _ _ hR).le hle)
      intro hlt
      rw [if_neg (of_decide_eq_false hlt)] at hgo
      walk_at "nx"
      apply at_asg
      · walk_at "ev"
      walk_at "q"
      exact up_of ⟨_, _, _, rfl, rfl, hgo⟩
  rintro Γ' M' ⟨a, z1, z2, rfl, rfl, hgo⟩
  rw [List.length_map, List.drop_length, lookGo] at hgo
  rw [← hgo] at hR
  walk_at "q"
  exact fun F σ H k => hQ _ _ hR .non F _ σ H k .non
theorem ok_look (c : Cxt K mg) : FnG P w K mg base (He.ga K "look") ["net", "seen"] 2 (Vl.spT K (T_look K)) := by
  obtain ⟨fd, F⟩ := F_look c
  exact ⟨⟨fd, okF_look c F, F.bindsN fun _ _ _ _ _ _ us hl => match us, hl with | [_, _], _ => rfl⟩, F.kp⟩
end
def T_Net_leaving (K : PySem.W.Frag) : TmV := fun ds M R X => ∃ (x y z : Dt) (n : NetM) (s : Str), ds = [.inst (He.ga K "Net") (netF x y z), .str s] ∧ (NetAt M x y z n ∧ n.lines.length ≤ 1000000) ∧ (if n.has s = true then ∀ a, R (.ob a) ((a, .lst ((n.out s).map fun k : Nat => Dt.int (k : Int))) :: M) else X (He.ga K "NoGate") M)
def N_Net_leaving : List Str := ["self", "name", "k"]
theorem sc_Net_leaving : FnScope N_Net_leaving ["self", "name"] (defScope s_Net_leaving) := ⟨rfl, rfl, rfl, by decide +kernel, rfl, by decide +kernel, by decide +kernel⟩
section
variable {P : Program} {w : World} {K : PySem.W.Frag} {mg : Str → Option Value} {base : Heap}
theorem okF_Net_leaving {fd : FuncData} (c : Cxt K mg) (F : FunD K "leaving" "Net.leaving" (defArgs s_Net_leaving) (defBody s_Net_leaving) (defScope s_Net_leaving) [] [] (He.ma K (He.ga K "Net") "leaving") fd) : FnOk P w K mg base (L2.CX P w) 2 (He.ma K (He.ga K "Net") "leaving") fd ["self", "name"] (Vl.spT K (T_Net_leaving K)) := by
  obtain ⟨⟨fd_Net_need, G_Net_need, b_Net_need⟩, k_Net_need⟩ := ok_Net_need (P := P) (w := w) (base := base) c
  refine fnT F sc_Net_leaving (by decide) (fun ds M R X h => by obtain ⟨_, _, _, _, _, rfl, _⟩ := h; rfl) (fun cdv A outer s H E hr => ?_)
  have hu := hu_of hr
  have hu64 := hr.units
  refine ⟨_, (pss_cons (ps_expr (pe_meth (pv 0) (cl_Net c) (m_Net_need c) G_Net_need (hr.mono (by decide)) b_Net_need .nil (passes_call (takes_of rfl rfl rfl rfl) (fun _ _ _ _ h => h)) (pa_cons (pv 1) pa_nil)))
      (pss_one (ps_ret (pe_lc (own := [("k", 2)]) (g := gName 2) rfl sc_Net_leaving.nd (pi_range1 (by rfl) (n_range c) (pa_cons (pe_callB (klenU K rfl) (by rfl) (n_len c) PySem.boot_len (pa_cons (kfld K rfl (pv 0) rfl) pa_nil)) pa_nil)) (blkOk_by (own := [("k", 2)]) (N := N_Net_leaving) (sc := defScope s_Net_leaving) (by decide +kernel)) (fun _ _ _ _ _ => pg_name (i := 2) sc_Net_leaving.nd rfl (Or.inl rfl)) (fun _ _ _ _ _ => (pts_one (PW.pt (pw_and (pt_cmpR (keqU K rfl hu64) (pe_ix (kixU K rfl hu) (pe_ix (kixU K rfl hu) (kfld K rfl (pv 0) rfl) (pv 2) (fun _ _ => rfl)) pe_int (fun _ _ => rfl)) (pv 1) (nomark _)) (pw_and1 (pt_cmpR (kniU K rfl hu) (pv 2) (kfld K rfl (pv 0) rfl) (by rfl))))))) (fun _ _ _ _ _ => (pv 2)))))), ?_⟩
  intro B G ds M R X Q ht hQ hX
  obtain ⟨x, y, z, n, s, rfl, ⟨hN, hl⟩, hR⟩ := ht
  obtain ⟨c2, hcd, hcm⟩ := hN.c.dct
  change At K B G [some _, some _, none] M _
  walk_at "sq"
  by_cases h1 : n.has s = true
  · rw [if_pos h1] at hR
    apply at_drop
    · apply evd_meth
      · walk_at "ev"
      · rfl
      · walk_at "ea"
      · exact ⟨x, y, z, n.sight, s, rfl, hN.s, by rw [if_pos (show (n.sight.lookup s).isSome = true from h1)]; exact ⟨rfl, rfl⟩⟩
    walk_at "q"
    apply at_retNw
    · apply en_lcR (n := n.lines.length) (n.goes s) (fun k => Dt.int (k : Int))
      · rw [show ((n.lines.length : Nat) : Int) = ((n.lines.map lineD).length : Nat) by rw [List.length_map]]
        apply ea_cons
        · apply ed_cb
          · apply ea_cons
            · apply ed_fld
              · walk_at "ev"
              · exact cl_Net c
              · exact na_Net_lines c
              · rfl
            · exact ea_nil
          · exact u_lenL hN.l
        · exact ea_nil
      · omega
      · omega
      · intro i hi
        walk_at "q"
        refine ⟨?_, fun _ => by walk_at "ev"⟩
        apply et_and
        · apply et_test
          apply ed_op
          · apply ed_op
            · apply ed_op
              · apply ed_fld
                · walk_at "ev"
                · exact cl_Net c
                · exact na_Net_lines c
                · rfl
              · walk_at "ev"
              · exact u_ixL hN.l (at_line (by omega) hi)
            · walk_at "ev"
            · exact u_ixT rfl
          · walk_at "ev"
          · walk_at "op"
        · intro _
          apply et_test
          rw [← decide_eq_decide.mpr (hcm _), ← val_closed]
          apply ed_op
          · walk_at "ev"
          · apply ed_fld
            · walk_at "ev"
            · exact cl_Net c
            · exact na_Net_closed c
            · rfl
          · exact u_niD hcd rfl
    · intro a
      have := hQ _ _ (hR a)
      unfold outL
      rw [Int.toNat_natCast]
      exact this
  · rw [if_neg h1] at hR
    apply at_dropX (P := fun _ _ => False)
    · apply evx_meth (PX := fun C M' => C = He.ga K "NoGate" ∧ M' = M)
      · walk_at "ev"
      · rfl
      · walk_at "ea"
      · exact ⟨x, y, z, n.sight, s, rfl, hN.s, by rw [if_neg (show ¬ (n.sight.lookup s).isSome = true from h1)]; exact ⟨rfl, rfl⟩⟩
      · rintro C M' ⟨rfl, rfl⟩
        exact hX _ _ hR
    · exact fun _ _ p => p.elim
theorem ok_Net_leaving (c : Cxt K mg) : FnG P w K mg base (He.ma K (He.ga K "Net") "leaving") ["self", "name"] 2 (Vl.spT K (T_Net_leaving K)) := by
  obtain ⟨fd, F⟩ := F_Net_leaving c
  exact ⟨⟨fd, okF_Net_leaving c F, F.bindsN fun _ _ _ _ _ _ us hl => match us, hl with | [_, _], _ => rfl⟩, F.kp⟩
end
def T_Net_line (K : PySem.W.Frag) : TmV := fun ds M R X => ∃ (x y z : Dt) (n : NetM) (i : Int), ds = [.inst (He.ga K "Net") (netF x y z), .int i] ∧ Lst M y (n.lines.map lineD) ∧ (0 ≤ i ∧ i < n.lines.length) ∧ R (lineD (n.line i.toNat)) M
def N_Net_line : List Str := ["self", "number"]
theorem sc_Net_line : FnScope N_Net_line ["self", "number"] (defScope s_Net_line) := ⟨rfl, rfl, rfl, by decide +kernel, rfl, by decide +kernel, by decide +kernel⟩
section
variable {P : Program} {w : World} {K : PySem.W.Frag} {mg : Str → Option Value} {base : Heap}
theorem okF_Net_line {fd : FuncData} (c : Cxt K mg) (F : FunD K "line" "Net.line" (defArgs s_Net_line) (defBody s_Net_line) (defScope s_Net_line) [] [] (He.ma K (He.ga K "Net") "line") fd) : FnOk P w K mg base (L2.CX P w) 1 (He.ma K (He.ga K "Net") "line") fd ["self", "number"] (Vl.spT K (T_Net_line K)) := by
  refine fnT F sc_Net_line (by decide) (fun ds M R X h => by obtain ⟨_, _, _, _, _, rfl, _⟩ := h; rfl) (fun cdv A outer s H E hr => ?_)
  have hu := hu_of hr
  have hu64 := hr.units
  refine ⟨_, PSs.nox (pss_one (ps_ret (pe_ix (kixU K rfl hu) (kfld K rfl (pv 0) rfl) (pv 1) (fun _ _ => rfl)))), ?_⟩
  intro B G ds M R X Q ht hQ hX
  obtain ⟨x, y, z, n, i, rfl, hL, ⟨h0, h1⟩, hR⟩ := ht
  change At K B G [some _, some _] M _
  apply at_ret
  · apply ed_op
    · apply ed_fld
      · walk_at "ev"
      · exact cl_Net c
      · exact na_Net_lines c
      · rfl
    · walk_at "ev"
    · exact u_ixL hL (at_line h0 h1)
  · exact hQ _ _ hR
theorem ok_Net_line (c : Cxt K mg) : FnG P w K mg base (He.ma K (He.ga K "Net") "line") ["self", "number"] 1 (Vl.spT K (T_Net_line K)) := by
  obtain ⟨fd, F⟩ := F_Net_line c
  exact ⟨⟨fd, okF_Net_line c F, F.bindsN fun _ _ _ _ _ _ us hl => match us, hl with | [_, _], _ => rfl⟩, F.kp⟩
end
def T_Net_place_of (K : PySem.W.Frag) : TmV := fun ds M R X => ∃ (x y z : Dt) (n : NetM) (s : Str) (p : Nat), ds = [.inst (He.ga K "Net") (netF x y z), .str s] ∧ Dct M x (sightK n.sight) ∧ n.place s = some p ∧ R (.int p) M
def N_Net_place_of : List Str := ["self", "name"]
theorem sc_Net_place_of : FnScope N_Net_place_of ["self", "name"] (defScope s_Net_place_of) := ⟨rfl, rfl, rfl, by decide +kernel, rfl, by decide +kernel, by decide +kernel⟩
section
variable {P : Program} {w : World} {K : PySem.W.Frag} {mg : Str → Option Value} {base : Heap}
theorem okF_Net_place_of {fd : FuncData} (c : Cxt K mg) (F : FunD K "place_of" "Net.place_of" (defArgs s_Net_place_of) (defBody s_Net_place_of) (defScope s_Net_place_of) [] [] (He.ma K (He.ga K "Net") "place_of") fd) : FnOk P w K mg base (L2.CX P w) 1 (He.ma K (He.ga K "Net") "place_of") fd ["self", "name"] (Vl.spT K (T_Net_place_of K)) := by
  refine fnT F sc_Net_place_of (by decide) (fun ds M R X h => by obtain ⟨_, _, _, _, _, _, rfl, _⟩ := h; rfl) (fun cdv A outer s H E hr => ?_)
  have hu := hu_of hr
  have hu64 := hr.units
  refine ⟨_, PSs.nox (pss_one (ps_ret (kbm K rfl PySem.F.plainAttrs_list PySem.F.slot_list_index PySem.F.type_list_index (kindex K rfl) (pe_callTy (call_listDk rfl) (by rfl) (n_list c) (by decide +kernel) (pa_cons (kfld K rfl (pv 0) rfl) pa_nil)) (pa_cons (pv 1) pa_nil)))), ?_⟩
  intro B G ds M R X Q ht hQ hX
  obtain ⟨x, y, z, n, s, p, rfl, hD, hp, hR⟩ := ht
  change At K B G [some _, some _] M _
  apply at_ret
  · apply ed_index (ss := n.sight.map (·.1)) (x := .lst ((n.sight.map (·.1)).map Dt.str))
    · rw [show (n.sight.map (·.1)).map Dt.str = (sightK n.sight).map (fun kv => kD kv.1) by unfold sightK; rw [List.map_map, List.map_map]; rfl]
      apply EvN.toD
      apply en_cb
      · apply ea_cons
        · apply ed_fld
          · walk_at "ev"
          · exact cl_Net c
          · exact na_Net_sight c
          · rfl
        · exact ea_nil
      · exact c_listDk hD
    · exact Lst.frz
    · walk_at "ev"
    · exact hp
  · exact hQ _ _ hR
theorem ok_Net_place_of (c : Cxt K mg) : FnG P w K mg base (He.ma K (He.ga K "Net") "place_of") ["self", "name"] 1 (Vl.spT K (T_Net_place_of K)) := by
  obtain ⟨fd, F⟩ := F_Net_place_of c
  exact ⟨⟨fd, okF_Net_place_of c F, F.bindsN fun _ _ _ _ _ _ us hl => match us, hl with | [_, _], _ => rfl⟩, F.kp⟩
end
def T_goes_on (K : PySem.W.Frag) : TmV := fun ds M R X => ∃ (x y z r : Dt) (n : NetM) (rows : List RowD) (back lim : Int), ds = [.inst (He.ga K "Net") (netF x y z), r, .int back, .int lim] ∧
  (NetAt M x y z n ∧ n.lines.length ≤ 1000000 ∧ n.Wf ∧ Lst M r (rows.map rowD) ∧ 0 ≤ back ∧ back < rows.length ∧ n.has (ra rows back.toNat).g = true) ∧ ∀ a, R (.ob a) ((a, .lst ((goesL n rows back.toNat lim).map tI)) :: M)
theorem has_place {n : NetM} {s : Str} (h : n.has s = true) : ∃ p, n.place s = some p ∧ n.place' s = p := by
  have hm := has_mem h
  unfold NetM.place' NetM.place
  cases q : (n.sight.map (·.1)).findIdx? (fun z => decide (z = s)) with
  | none =>
    exfalso
    have := List.findIdx?_eq_none_iff.mp q s hm
    simp at this
  | some p => exact ⟨p, rfl, rfl⟩
def N_goes_on : List Str := ["net", "rows", "back", "limit", "found", "number", "road", "minutes"]
theorem sc_goes_on : FnScope N_goes_on ["net", "rows", "back", "limit"] (defScope s_goes_on) := ⟨rfl, rfl, rfl, by decide +kernel, rfl, by decide +kernel, by decide +kernel⟩
section
variable {P : Program} {w : World} {K : PySem.W.Frag} {mg : Str → Option Value} {base : Heap}
theorem okF_goes_on {fd : FuncData} (c : Cxt K mg) (F : FunD K "goes_on" "goes_on" (defArgs s_goes_on) (defBody s_goes_on) (defScope s_goes_on) [] [] (He.ga K "goes_on") fd) : FnOk P w K mg base (L2.CX P w) 3 (He.ga K "goes_on") fd ["net", "rows", "back", "limit"] (Vl.spT K (T_goes_on K)) := by
  obtain ⟨⟨fd_Net_leaving, G_Net_leaving, b_Net_leaving⟩, k_Net_leaving⟩ := ok_Net_leaving (P := P) (w := w) (base := base) c
  obtain ⟨⟨fd_Net_line, G_Net_line, b_Net_line⟩, k_Net_line⟩ := ok_Net_line (P := P) (w := w) (base := base) c
  obtain ⟨⟨fd_Net_place_of, G_Net_place_of, b_Net_place_of⟩, k_Net_place_of⟩ := ok_Net_place_of (P := P) (w := w) (base := base) c
  refine fnT F sc_goes_on (by decide) (fun ds M R X h => by obtain ⟨_, _, _, _, _, _, _, _, rfl, _⟩ := h; rfl) (fun cdv A outer s H E hr => ?_)
  have hu := hu_of hr
  have hu64 := hr.units
  refine ⟨_, (pss_cons (ps_set (i := 4) sc_goes_on.nd rfl (Or.inl rfl) (pe_lst pa_nil))
      (pss_cons (ps_for (passes_of rfl) rfl (kseqU K rfl (pe_meth (pv 0) (cl_Net c) (m_Net_leaving c) G_Net_leaving (hr.mono (by decide)) b_Net_leaving .nil (passes_call (takes_of rfl rfl rfl rfl) (fun _ _ _ _ h => h)) (pa_cons (pe_ix (kixU K rfl hu) (pe_ix (kixU K rfl hu) (pv 1) (pv 2) (fun _ _ => rfl)) pe_int (fun _ _ => rfl)) pa_nil))) (pg_name (i := 5) sc_goes_on.nd rfl (Or.inl rfl)) (pss_cons (ps_set (i := 6) sc_goes_on.nd rfl (Or.inl rfl) (pe_meth (pv 0) (cl_Net c) (m_Net_line c) G_Net_line (hr.mono (by decide)) b_Net_line .nil passL (pa_cons (pv 5) pa_nil)))
      (pss_cons (ps_set (i := 7) sc_goes_on.nd rfl (Or.inl rfl) (pe_op (kaddU K rfl) (pe_ix (kixU K rfl hu) (pe_ix (kixU K rfl hu) (pv 1) (pv 2) (fun _ _ => rfl)) pe_int (fun _ _ => rfl)) (pe_ix (kixU K rfl hu) (pv 6) pe_int (fun _ _ => rfl))))
      (pss_one (ps_if (pt_cmpR op_le (pv 7) (pv 3) (nomark _)) (pss_one (ps_expr (kbm K rfl PySem.F.plainAttrs_list PySem.F.slot_list_append PySem.F.type_list_append (mt_append) (pv 4) (pa_cons (pe_tup (pa_cons (pe_op (kaddU K rfl) (pe_ix (kixU K rfl hu) (pe_ix (kixU K rfl hu) (pv 1) (pv 2) (fun _ _ => rfl)) pe_int (fun _ _ => rfl)) (pe_ix (kixU K rfl hu) (pv 6) pe_int (fun _ _ => rfl))) (pa_cons (pv 7) (pa_cons (pe_meth (pv 0) (cl_Net c) (m_Net_place_of c) G_Net_place_of (hr.mono (by decide)) b_Net_place_of .nil passL (pa_cons (pe_ix (kixU K rfl hu) (pv 6) pe_int (fun _ _ => rfl)) pa_nil)) (pa_cons (pv 5) (pa_cons (pv 2) pa_nil)))))) pa_nil)))) pss_nil)))))
      (pss_one (ps_ret (pv 4))))), ?_⟩
  intro B G ds M R X Q ht hQ hX
  obtain ⟨x, y, z, r, n, rows, back, lim, rfl, ⟨hN, hl, W, hr, hb0, hb1, hh⟩, hR⟩ := ht
  change At K B G [some _, some _, some _, some _, none, none, none, none] M _
  have hat : atI (rows.map rowD) back = some (rowD (ra rows back.toNat)) := atI_mapD hb0 hb1
  walk_at "sq"
  apply at_asgN (o := .lst [])
  · walk_at "en"
  intro a
  walk_at "q"
  walk_at "sq"
  have hat2 : Lst ((a, Ow.lst []) :: M) r (rows.map rowD) := hr.push
  apply at_forL (ds := (n.out (ra rows back.toNat).g).map fun k : Nat => Dt.int (k : Int)) (I := fun i Γ' M' => ∃ z1 z2 z3, Γ' = [some (.inst (He.ga K "Net") (netF x y z)), some r, some (Dt.int back), some (Dt.int lim), some (Dt.ob a), z1, z2, z3] ∧
      M' = (a, Ow.lst (((((n.out (ra rows back.toNat).g).take i).filter fun k => decide ((ra rows back.toNat).m + lmin (n.line k) ≤ lim)).map (extW n (ra rows back.toNat) back.toNat)).map tI)) :: M)
  · apply EvN.toD
    apply evn_meth
    · walk_at "ev"
    · rfl
    · apply ea_cons
      · apply ed_op
        · apply ed_op
          · walk_at "ev"
          · walk_at "ev"
          · exact u_ixL hat2 hat
        · walk_at "ev"
        · exact u_ixT rfl
      · exact ea_nil
    · refine ⟨x, y, z, n, (ra rows back.toNat).g, rfl, ⟨hN.push, hl⟩, ?_⟩
      rw [if_pos hh]
      exact fun a => ⟨a, rfl, rfl⟩
  · exact ⟨_, _, _, rfl, rfl⟩
  · rintro G' hle i d Γ' M' hd ⟨z1, z2, z3, rfl, rfl⟩
    rw [List.getElem?_map] at hd
    obtain ⟨k, hk, rfl⟩ := Option.map_eq_some_iff.mp hd
    have hkm := mem_out (List.mem_of_getElem? hk)
    have he := W.ends k hkm.1
    have htk : (n.out (ra rows back.toNat).g).take (i + 1) = (n.out (ra rows back.toNat).g).take i ++ [k] := by
      rw [List.take_add_one, hk]; rfl
    generalize hA : ((((n.out (ra rows back.toNat).g).take i).filter fun k => decide ((ra rows back.toNat).m + lmin (n.line k) ≤ lim)).map (extW n (ra rows back.toNat) back.toNat)).map tI = A
    have hN2 : NetAt ((a, Ow.lst A) :: M) x y z n := hN.push
    have hr2 : Lst ((a, Ow.lst A) :: M) r (rows.map rowD) := hr.push
    have hlenA : A.length ≤ i := by
      rw [← hA, List.length_map, List.length_map]
      exact Nat.le_trans (List.length_filter_le _ _) (by rw [List.length_take]; omega)
    have hil : i < 1000000 := by
      have h1 := (List.getElem?_eq_some_iff.mp hk).1
      have h2 : (n.out (ra rows back.toNat).g).length ≤ n.lines.length := by
        unfold NetM.out
        refine Nat.le_trans (List.length_filter_le _ _) ?_
        rw [List.length_range]; exact Nat.le_refl _
      omega
    obtain ⟨p, hp, hp'⟩ := has_place he.2
    apply atg_name
    walk_at "q"
    walk_at "sq"
    apply at_asg (d := lineD (n.line k))
    · apply evd_meth
      · walk_at "ev"
      · rfl
      · walk_at "ea"
      · exact ⟨x, y, z, n, (k : Int), rfl, hN2.l, ⟨by omega, by omega⟩, by rw [Int.toNat_natCast]; exact ⟨rfl, rfl⟩⟩
    walk_at "q"
    walk_at "sq"
    apply at_asg (d := .int ((ra rows back.toNat).m + lmin (n.line k)))
    · apply ed_op
      · apply ed_op
        · apply ed_op
          · walk_at "ev"
          · walk_at "ev"
          · exact u_ixL hr2 hat
        · walk_at "ev"
        · exact u_ixT rfl
      · apply ed_op
        · walk_at "ev"
        · walk_at "ev"
        · exact u_ixT rfl
      · exact u_addI
    walk_at "q"
    apply at_if (b := decide ((ra rows back.toNat).m + lmin (n.line k) ≤ lim))
    · walk_at "et"
    · intro hc
      apply at_app (j := 0) (d := tI (extW n (ra rows back.toNat) back.toNat k))
      · walk_at "ev"
      · rfl
      · show EvD K _ _ _ (.tup [.int ((ra rows back.toNat).t + ltoll (n.line k)), .int ((ra rows back.toNat).m + lmin (n.line k)), .int (n.place' (n.line k).2.1), .int k, .int (back.toNat : Nat)])
        rw [Int.toNat_of_nonneg hb0, hp']
        apply ed_tup
        · apply ea_cons
          · apply ed_op
            · apply ed_op
              · apply ed_op
                · walk_at "ev"
                · walk_at "ev"
                · exact u_ixL hr2 hat
              · walk_at "ev"
              · exact u_ixT rfl
            · apply ed_op
              · walk_at "ev"
              · walk_at "ev"
              · exact u_ixT rfl
            · exact u_addI
          apply ea_cons
          · walk_at "ev"
          apply ea_cons
          · apply evd_meth
            · walk_at "ev"
            · rfl
            · apply ea_cons
              · apply ed_op
                · walk_at "ev"
                · walk_at "ev"
                · exact u_ixT rfl
              · exact ea_nil
            · exact ⟨x, y, z, n, (n.line k).2.1, p, rfl, hN2.s, hp, rfl, rfl⟩
          walk_at "ea"
        · walk_at "side"
      · omega
      walk_at "q"
      apply up_of
      refine ⟨some (.int k), some (lineD (n.line k)), some (.int ((ra rows back.toNat).m + lmin (n.line k))), rfl, ?_⟩
      rw [htk, List.filter_append, List.map_append, List.map_append, hA]
      rw [List.filter_cons, if_pos (by exact hc)]
      rfl
    · intro hc
      walk_at "nx"
      apply up_of
      refine ⟨some (.int k), some (lineD (n.line k)), some (.int ((ra rows back.toNat).m + lmin (n.line k))), rfl, ?_⟩
      rw [htk, List.filter_append, List.map_append, List.map_append, hA]
      rw [List.filter_cons, if_neg (by rw [hc]; exact Bool.noConfusion)]
      rw [List.filter_nil, List.map_nil, List.map_nil, List.append_nil]
  · rintro Γ' M' ⟨z1, z2, z3, rfl, rfl⟩
    walk_at "q"
    rw [List.length_map, List.take_length]
    apply at_ret
    · walk_at "ev"
    · exact hQ _ _ (hR a)
theorem ok_goes_on (c : Cxt K mg) : FnG P w K mg base (He.ga K "goes_on") ["net", "rows", "back", "limit"] 3 (Vl.spT K (T_goes_on K)) := by
  obtain ⟨fd, F⟩ := F_goes_on c
  exact ⟨⟨fd, okF_goes_on c F, F.bindsN fun _ _ _ _ _ _ us hl => match us, hl with | [_, _, _, _], _ => rfl⟩, F.kp⟩
end
def T_reached (K : PySem.W.Frag) : TmV := fun ds M R X => ∃ (x y z : Dt) (n : NetM) (gate : Str) (lim : Int) (_ : n.Wf ∧ n.lines.length ≤ 1000000), ds = [.inst (He.ga K "Net") (netF x y z), .str gate, .int lim] ∧ NetAt M x y z n ∧
  (n.has gate = false → X (He.ga K "NoGate") M) ∧ (n.has gate = true → lim < 0 → X (He.ga K "NoNumber") M) ∧ (n.has gate = true → 0 ≤ lim → (∃ u, Bnd n u lim) ∧ ∀ a, R (.ob a) ((a, .lst ((reachRows n gate lim).map rowD)) :: M))
def quickK (q : List (Str × Int)) : List (Key × Dt) := q.map fun p => (Sum.inr p.1, Dt.int p.2)
theorem val_quick (q : List (Str × Int)) (a : Str) : valD (quickK q) (Sum.inr a) = (q.lookup a).map Dt.int := by
  induction q with
  | nil => rfl
  | cons p r ih =>
    obtain ⟨q, b⟩ := p
    by_cases h : q = a
    · subst h
      rw [show quickK ((q, b) :: r) = (Sum.inr q, Dt.int b) :: quickK r from rfl, valD_pos rfl, List.lookup_cons_self]; rfl
    · rw [show quickK ((q, b) :: r) = (Sum.inr q, Dt.int b) :: quickK r from rfl, valD_neg (by simpa using h), ih, List.lookup_cons, show (a == q) = false by simpa using fun e => h e.symm]
theorem put_quick (q : List (Str × Int)) (a : Str) (m : Int) : putD (quickK q) (Sum.inr a) (.int m) = quickK (putq q a m) := by
  unfold putD putq
  have e : (quickK q).any (fun kv => decide (kv.1 = Sum.inr a)) = q.any (fun p => decide (p.1 = a)) := by
    unfold quickK
    rw [List.any_map]
    congr 1
    funext p
    simp
  rw [e]
  split
  · unfold quickK
    rw [List.map_map, List.map_map]
    apply List.map_congr_left
    intro p _
    by_cases h : p.1 = a
    · simp [h]
    · simp [h]
  · unfold quickK
    rw [List.map_append]; rfl
def N_reached : List Str := ["net", "gate", "limit", "rows", "quickest", "waiting", "best", "name"]
theorem sc_reached : FnScope N_reached ["net", "gate", "limit"] (defScope s_reached) := ⟨rfl, rfl, rfl, by decide +kernel, rfl, by decide +kernel, by decide +kernel⟩
section
variable {P : Program} {w : World} {K : PySem.W.Frag} {mg : Str → Option Value} {base : Heap}
theorem okF_reached {fd : FuncData} (c : Cxt K mg) (F : FunD K "reached" "reached" (defArgs s_reached) (defBody s_reached) (defScope s_reached) [] [] (He.ga K "reached") fd) : FnOk P w K mg base (L2.CX P w) 4 (He.ga K "reached") fd ["net", "gate", "limit"] (Vl.spT K (T_reached K)) := by
  obtain ⟨⟨fd_Net_need, G_Net_need, b_Net_need⟩, k_Net_need⟩ := ok_Net_need (P := P) (w := w) (base := base) c
  obtain ⟨⟨fd_goes_on, G_goes_on, b_goes_on⟩, k_goes_on⟩ := ok_goes_on (P := P) (w := w) (base := base) c
  obtain ⟨⟨fd_Net_line, G_Net_line, b_Net_line⟩, k_Net_line⟩ := ok_Net_line (P := P) (w := w) (base := base) c
  obtain ⟨⟨fd_Net_is_blind, G_Net_is_blind, b_Net_is_blind⟩, k_Net_is_blind⟩ := ok_Net_is_blind (P := P) (w := w) (base := base) c
  refine fnT F sc_reached (by decide) (fun ds M R X h => by obtain ⟨_, _, _, _, _, _, _, rfl, _⟩ := h; rfl) (fun cdv A outer s H E hr => ?_)
  have hu := hu_of hr
  have hu64 := hr.units
  refine ⟨_, (pss_cons (ps_expr (pe_meth (pv 0) (cl_Net c) (m_Net_need c) G_Net_need (hr.mono (by decide)) b_Net_need .nil (passes_call (takes_of rfl rfl rfl rfl) (fun _ _ _ _ h => h)) (pa_cons (pv 1) pa_nil)))
      (pss_cons (ps_if (pt_cmpR (kltU K rfl hu64) (pv 2) pe_int (nomark _)) (pss_one (ps_raise rfl (takes_of rfl rfl rfl rfl) (pmk_own PySem.F.excBase_ValueError (x_NoNumber c).1 (g_NoNumber c) (x_NoNumber c).2.1 (raises_own (x_NoNumber c).2.2.1 (x_NoNumber c).2.2.2) rfl))) pss_nil)
      (pss_cons (ps_set (i := 3) sc_reached.nd rfl (Or.inl rfl) (pe_lst (pa_cons (pe_tup (pa_cons (pv 1) (pa_cons pe_int (pa_cons pe_int (pa_cons (pe_un un_neg pe_int) (pa_cons (pe_un un_neg pe_int) pa_nil)))))) pa_nil)))
      (pss_cons (ps_set (i := 4) sc_reached.nd rfl (Or.inl rfl) pe_dnewK)
      (pss_cons (ps_set (i := 5) sc_reached.nd rfl (Or.inl rfl) (pe_call G_goes_on (hr.mono (by decide)) (by rfl) (g_goes_on c) k_goes_on b_goes_on .nil (passes_call (takes_of rfl rfl rfl rfl) (fun _ _ _ _ h => h)) (pa_cons (pv 0) (pa_cons (pv 3) (pa_cons pe_int (pa_cons (pv 2) pa_nil))))))
      (pss_cons (ps_while (passes_of rfl) (pt_cmpR op_gt (pe_callB (klenU K rfl) (by rfl) (n_len c) PySem.boot_len (pa_cons (pv 5) pa_nil)) pe_int (nomark _)) (pss_cons (ps_set (i := 6) sc_reached.nd rfl (Or.inl rfl) (pe_callB (kminT K rfl rfl hu64) (by rfl) (n_min c) (by decide +kernel) (pa_cons (pv 5) pa_nil)))
      (pss_cons (ps_expr (kbm K rfl PySem.F.plainAttrs_list PySem.F.slot_list_remove PySem.F.type_list_remove (kremT K rfl hu64) (pv 5) (pa_cons (pv 6) pa_nil)))
      (pss_cons (ps_set (i := 7) sc_reached.nd rfl (Or.inl rfl) (pe_ix (kixU K rfl hu) (pe_meth (pv 0) (cl_Net c) (m_Net_line c) G_Net_line (hr.mono (by decide)) b_Net_line .nil passL (pa_cons (pe_ix (kixU K rfl hu) (pv 6) pe_int (fun _ _ => rfl)) pa_nil)) pe_int (fun _ _ => rfl)))
      (pss_one (ps_if (pt_cmpR (kltU K rfl hu64) (pe_ix (kixU K rfl hu) (pv 6) pe_int (fun _ _ => rfl)) (pe_dget2 hu (pv 4) (pv 7) (pe_op (kaddU K rfl) (pe_ix (kixU K rfl hu) (pv 6) pe_int (fun _ _ => rfl)) pe_int) ⟨rfl, rfl, rfl, rfl⟩) (nomark _)) (pss_cons (ps_asg (pe_ix (kixU K rfl hu) (pv 6) pe_int (fun _ _ => rfl)) (pg_sub (pv 4) (pv 7) (set_U hu)))
      (pss_cons (ps_expr (kbm K rfl PySem.F.plainAttrs_list PySem.F.slot_list_append PySem.F.type_list_append (mt_append) (pv 3) (pa_cons (pe_tup (pa_cons (pv 7) (pa_cons (pe_ix (kixU K rfl hu) (pv 6) pe_int (fun _ _ => rfl)) (pa_cons (pe_ix (kixU K rfl hu) (pv 6) pe_int (fun _ _ => rfl)) (pa_cons (pe_ix (kixU K rfl hu) (pv 6) pe_int (fun _ _ => rfl)) (pa_cons (pe_ix (kixU K rfl hu) (pv 6) pe_int (fun _ _ => rfl)) pa_nil)))))) pa_nil)))
      (pss_one (ps_if (pt_val (pe_meth (pv 0) (cl_Net c) (m_Net_is_blind c) G_Net_is_blind (hr.mono (by decide)) b_Net_is_blind .nil (passes_call (takes_of rfl rfl rfl rfl) (fun _ _ _ _ h => h)) (pa_cons (pv 7) pa_nil))) (pss_one (ps_expr (kbm K rfl PySem.F.plainAttrs_list PySem.F.slot_list_extend PySem.F.type_list_extend (mt_extend) (pv 5) (pa_cons (pe_call G_goes_on (hr.mono (by decide)) (by rfl) (g_goes_on c) k_goes_on b_goes_on .nil (passes_call (takes_of rfl rfl rfl rfl) (fun _ _ _ _ h => h)) (pa_cons (pv 0) (pa_cons (pv 3) (pa_cons (pe_op op_sub (pe_callB (klenU K rfl) (by rfl) (n_len c) PySem.boot_len (pa_cons (pv 3) pa_nil)) pe_int) (pa_cons (pv 2) pa_nil))))) pa_nil)))) pss_nil)))) pss_nil))))))
      (pss_one (ps_ret (pv 3))))))))), ?_⟩
  intro B G ds M R X Q ht hQ hX
  obtain ⟨x, y, z, n, gate, lim, ⟨W, hl⟩, rfl, hN, hR1, hR2, hR3⟩ := ht
  change At K B G [some _, some _, some _, none, none, none, none, none] M _
  walk_at "sq"
  cases hg : n.has gate with
  | false =>
    apply at_dropX (P := fun _ _ => False)
    · apply evx_meth (PX := fun C M' => C = He.ga K "NoGate" ∧ M' = M)
      · walk_at "ev"
      · rfl
      · walk_at "ea"
      · refine ⟨x, y, z, n.sight, gate, rfl, hN.s, ?_⟩
        rw [if_neg (show ¬ (n.sight.lookup gate).isSome = true from by rw [show (n.sight.lookup gate).isSome = false from hg]; exact Bool.noConfusion)]
        exact ⟨rfl, rfl⟩
      · rintro C M' ⟨rfl, rfl⟩
        exact hX _ _ (hR1 hg)
    · exact fun _ _ p => p.elim
  | true =>
  apply at_drop
  · apply evd_meth
    · walk_at "ev"
    · rfl
    · walk_at "ea"
    · refine ⟨x, y, z, n.sight, gate, rfl, hN.s, ?_⟩
      rw [if_pos (show (n.sight.lookup gate).isSome = true from hg)]
      exact ⟨rfl, rfl⟩
  walk_at "q"
  walk_at "sq"
  walk_at "if"
  · intro h
    exact at_raise (hX _ _ (hR2 hg (of_decide_eq_true h)))
  intro h
  have h0 : 0 ≤ lim := by have := of_decide_eq_false h; omega
  obtain ⟨⟨u, B0⟩, hR⟩ := hR3 hg h0
  walk_at "nx"
  walk_at "sq"
  apply at_asgN (o := .lst ([startRow gate].map rowD))
  · apply en_lst
    · apply ea_cons
      · show EvD K _ _ _ (.tup [.str gate, .int 0, .int 0, .int (-1), .int (-1)])
        walk_at "ev"
      · exact ea_nil
    · walk_at "side"
  intro rA
  walk_at "q"
  walk_at "sq"
  apply at_asgN (o := .dct [])
  · exact en_dnew
  intro qA
  walk_at "q"
  walk_at "sq"
  have hN2 : NetAt ((qA, Ow.dct []) :: (rA, Ow.lst ([startRow gate].map rowD)) :: M) x y z n := hN.push.push
  apply at_asgN (o := .lst ((goesL n [startRow gate] 0 lim).map tI))
  · apply evn_call
    · walk_at "ea"
    · exact ⟨x, y, z, .ob rA, n, [startRow gate], 0, lim, rfl, ⟨hN2, hl, W, .own (j := 1) rfl, Int.le_refl _, (show (0 : Int) < ((1 : Nat) : Int) by decide), hg⟩, fun a => ⟨a, rfl, rfl⟩⟩
  intro wA
  walk_at "q"
  walk_at "sq"
  apply at_while (m0 := mes n u lim (rstart n gate lim)) (I := fun m Γ' M' => ∃ (i : Nat) (s : RS) (z1 z2 : Option Dt), RAt n gate lim u i s ∧ m = mes n u lim s ∧ Γ' = [some (.inst (He.ga K "Net") (netF x y z)), some (Dt.str gate), some (Dt.int lim), some (Dt.ob rA), some (Dt.ob qA), some (Dt.ob wA), z1, z2] ∧
      M' = (wA, Ow.lst (s.wait.map tI)) :: (qA, Ow.dct (quickK s.quick)) :: (rA, Ow.lst (s.rows.map rowD)) :: M)
  · exact ⟨0, rstart n gate lim, none, none, RAt.start B0, rfl, rfl, rfl⟩
  · rintro m Γ' M' ⟨i, s, z1, z2, RA, rfl, rfl, rfl⟩
    refine ⟨decide ((0 : Int) < (s.wait.map tI).length), ?_, ?_, ?_⟩
    · walk_at "et"
    · intro hc
      have hne : s.wait ≠ [] := by
        intro e
        rw [e] at hc
        simp at hc
      obtain ⟨w, ws, hw⟩ := List.exists_cons_of_ne_nil hne
      have I := RA.inv W
      obtain ⟨hm1, hm2⟩ := minT_spec ws w
      obtain ⟨bb, kk, hbb, gb⟩ := I.wt (minT w ws) (hw ▸ hm1)
      have hkk := mem_out gb.gk
      have hst : rstep n lim s = (if (wRow n (minT w ws)).m < (s.quick.lookup (wRow n (minT w ws)).g).getD ((wRow n (minT w ws)).m + 1) then
          ⟨s.rows ++ [wRow n (minT w ws)], putq s.quick (wRow n (minT w ws)).g (wRow n (minT w ws)).m,
            (w :: ws).erase (minT w ws) ++ (if n.sees (wRow n (minT w ws)).g = some false then goesL n (s.rows ++ [wRow n (minT w ws)]) s.rows.length lim else [])⟩
        else ⟨s.rows, s.quick, (w :: ws).erase (minT w ws)⟩) := by
        conv => lhs; unfold rstep
        rw [hw]
      obtain ⟨RA2, hlt⟩ := RA.step W B0 hne
      obtain ⟨e1, he1, he2⟩ := erase_find (w :: ws) (minT w ws) hm1
      have hrl := RA.rl
      have hml : s.wait.length ≤ 1000000 := by have := RA.ms; unfold mes at this; omega
      have hml2 := RA2.ms
      have hgl := gb.ge
      have hql : s.quick.length ≤ 1000001 := by
        have := quick_len n gate lim i
        rw [← RA.it] at this
        omega
      have hst' := hst
      rw [hw] at hml ⊢
      walk_at "q"
      walk_at "sq"
      apply at_asg (d := tI (minT w ws))
      · apply ed_cb
        · walk_at "ea"
        · exact c_minT (.own (j := 0) rfl)
      walk_at "q"
      walk_at "sq"
      apply at_remT (j := 0) (ks := w :: ws) (kk := minT w ws)
      · walk_at "ev"
      · rfl
      · walk_at "ev"
      · exact he1
      rw [he2]
      walk_at "q"
      have hel : ((w :: ws).erase (minT w ws)).length ≤ 1000000 := Nat.le_trans (List.length_erase_le) hml
      generalize hbest : minT w ws = best at *
      generalize (w :: ws).erase best = wait1 at *
      have hbd : tI best = .tup [.int (wRow n best).t, .int (wRow n best).m, .int (n.place' (wRow n best).g), .int (wRow n best).r, .int (wRow n best).b] := by
        rw [hgl, wRow_ext]; rfl
      have hr : (wRow n best).r = (kk : Int) := by rw [hgl, wRow_ext]
      have hgg : (wRow n best).g = (n.line kk).2.1 := by rw [hgl, wRow_ext]
      have hhas : n.has (wRow n best).g = true := by rw [hgg]; exact (W.ends kk hkk.1).2
      generalize wRow n best = row at *
      rw [hbd]
      have hN3 : NetAt ((wA, Ow.lst (wait1.map tI)) :: (qA, Ow.dct (quickK s.quick)) :: (rA, Ow.lst (s.rows.map rowD)) :: M) x y z n := hN.push.push.push
      walk_at "sq"
      apply at_asg (d := .str row.g)
      · apply ed_op (x := lineD (n.line kk))
        · apply evd_meth
          · walk_at "ev"
          · rfl
          · apply ea_cons
            · apply ed_op
              · walk_at "ev"
              · walk_at "ev"
              · exact u_ixT rfl
            · exact ea_nil
          · refine ⟨x, y, z, n, row.r, rfl, hN3.l, ⟨by omega, by omega⟩, ?_⟩
            rw [hr, Int.toNat_natCast]
            exact ⟨rfl, rfl⟩
        · walk_at "ev"
        · rw [hgg]; exact u_ixT rfl
      walk_at "q"
      have hget : (valD (quickK s.quick) (Sum.inr row.g)).getD (.int (row.m + 1)) = .int ((s.quick.lookup row.g).getD (row.m + 1)) := by
        rw [val_quick]; cases s.quick.lookup row.g <;> rfl
      apply at_if (b := decide (row.m < (s.quick.lookup row.g).getD (row.m + 1)))
      · apply et_test
        apply ed_op
        · apply ed_op
          · walk_at "ev"
          · walk_at "ev"
          · exact u_ixT rfl
        · apply EvD.is
          · apply ed_get2 (key := Sum.inr row.g)
            · walk_at "ev"
            · exact Dct.own (j := 1) rfl
            · walk_at "ev"
            · rfl
            · apply ed_op
              · apply ed_op
                · walk_at "ev"
                · walk_at "ev"
                · exact u_ixT rfl
              · walk_at "ev"
              · exact u_addI
          · exact hget
        · exact u_ltI
      · intro ht
        rw [if_pos (of_decide_eq_true ht)] at hst
        walk_at "sq"
        apply at_setD (j := 1) (key := Sum.inr row.g) (d := .int row.m)
        · apply ed_op
          · walk_at "ev"
          · walk_at "ev"
          · exact u_ixT rfl
        · walk_at "ev"
        · rfl
        · walk_at "ev"
        · rfl
        · unfold quickK; rw [List.length_map]; omega
        rw [put_quick]
        walk_at "q"
        walk_at "sq"
        apply at_app (j := 2) (d := rowD row)
        · walk_at "ev"
        · rfl
        · show EvD K _ _ _ (.tup [.str row.g, .int row.m, .int row.t, .int row.r, .int row.b])
          apply ed_tup
          · apply ea_cons
            · walk_at "ev"
            apply ea_cons
            · apply ed_op
              · walk_at "ev"
              · walk_at "ev"
              · exact u_ixT rfl
            apply ea_cons
            · apply ed_op
              · walk_at "ev"
              · walk_at "ev"
              · exact u_ixT rfl
            apply ea_cons
            · apply ed_op
              · walk_at "ev"
              · walk_at "ev"
              · exact u_ixT rfl
            apply ea_cons
            · apply ed_op
              · walk_at "ev"
              · walk_at "ev"
              · exact u_ixT rfl
            exact ea_nil
          · walk_at "side"
        · rw [List.length_map]; omega
        rw [show s.rows.map rowD ++ [rowD row] = (s.rows ++ [row]).map rowD by rw [List.map_append]; rfl]
        walk_at "q"
        have hN4 : NetAt ((wA, Ow.lst (wait1.map tI)) :: (qA, Ow.dct (quickK (putq s.quick row.g row.m))) :: (rA, Ow.lst ((s.rows ++ [row]).map rowD)) :: M) x y z n := hN.push.push.push
        have hlen : (((s.rows ++ [row]).map rowD).length : Int) - 1 = (s.rows.length : Int) := by simp
        obtain ⟨sb, hsb⟩ : ∃ sb, n.sees row.g = some sb := by
          unfold NetM.has at hhas
          exact Option.isSome_iff_exists.mp hhas
        rw [hsb] at hst
        apply at_if (b := !sb)
        · apply et_B
          apply evd_meth
          · walk_at "ev"
          · rfl
          · walk_at "ea"
          · refine ⟨x, y, z, n, row.g, rfl, hN4, ?_⟩
            rw [hsb]
            exact ⟨rfl, rfl⟩
        · intro hb
          have hb' : sb = false := by simpa using hb
          subst hb'
          rw [if_pos rfl] at hst
          have hg3 := goesL_len (n := n) (lim := lim) (s.rows ++ [row]) s.rows.length
          apply at_ext (j := 0) (y := .lst ((goesL n (s.rows ++ [row]) s.rows.length lim).map tI)) (es := (goesL n (s.rows ++ [row]) s.rows.length lim).map tI)
          · walk_at "ev"
          · rfl
          · apply EvN.toD
            apply evn_call
            · apply ea_cons
              · walk_at "ev"
              apply ea_cons
              · walk_at "ev"
              apply ea_cons (x := .int (s.rows.length : Int))
              · rw [← hlen]
                walk_at "ev"
              walk_at "ea"
            · refine ⟨x, y, z, .ob rA, n, s.rows ++ [row], (s.rows.length : Int), lim, rfl, ⟨hN4, hl, W, .own (j := 2) rfl, by omega, by simp; omega, ?_⟩, fun a => ⟨a, ?_, rfl⟩⟩
              · rw [Int.toNat_natCast, ra_eq]; exact hhas
              · rfl
          · exact Lst.frz
          · rw [List.length_map, List.length_map]; omega
          rw [show wait1.map tI ++ (goesL n (s.rows ++ [row]) s.rows.length lim).map tI = (wait1 ++ goesL n (s.rows ++ [row]) s.rows.length lim).map tI by rw [List.map_append]]
          walk_at "q"
          apply up_of
          exact ⟨_, hlt, i + 1, rstep n lim s, _, _, RA2, rfl, rfl, by rw [hst]⟩
        · intro hb
          have hb' : sb = true := by simpa using hb
          subst hb'
          rw [if_neg (fun z => nomatch z), List.append_nil] at hst
          walk_at "nx"
          apply up_of
          exact ⟨_, hlt, i + 1, rstep n lim s, _, _, RA2, rfl, rfl, by rw [hst]⟩
      · intro ht
        rw [if_neg (of_decide_eq_false ht)] at hst
        walk_at "nx"
        apply up_of
        exact ⟨_, hlt, i + 1, rstep n lim s, _, _, RA2, rfl, rfl, by rw [hst]⟩
    · intro hc
      have hnil : s.wait = [] := by
        cases hw : s.wait with
        | nil => rfl
        | cons w ws => rw [hw] at hc; simp at hc
      walk_at "q"
      apply at_ret
      · walk_at "ev"
      · have := hQ _ _ (hR rA)
        rw [← RA.done hnil] at this
        exact this.cells ((List.sublist_cons_self _ _).trans (List.sublist_cons_self _ _))
theorem ok_reached (c : Cxt K mg) : FnG P w K mg base (He.ga K "reached") ["net", "gate", "limit"] 4 (Vl.spT K (T_reached K)) := by
  obtain ⟨fd, F⟩ := F_reached c
  exact ⟨⟨fd, okF_reached c F, F.bindsN fun _ _ _ _ _ _ us hl => match us, hl with | [_, _, _], _ => rfl⟩, F.kp⟩
end

def N_least : List Str := ["rows", "name", "found", "k"]
theorem sc_least : FnScope N_least ["rows", "name"] (defScope s_least) := ⟨rfl, rfl, rfl, by decide +kernel, rfl, by decide +kernel, by decide +kernel⟩
section
variable {P : Program} {w : World} {K : PySem.W.Frag} {mg : Str → Option Value} {base : Heap}
theorem okF_least {fd : FuncData} (c : Cxt K mg) (F : FunD K "least" "least" (defArgs s_least) (defBody s_least) (defScope s_least) [] [] (He.ga K "least") fd) : FnOk P w K mg base (L2.CX P w) 1 (He.ga K "least") fd ["rows", "name"] (Vl.spT K T_least) := by
  refine fnT F sc_least (by decide) (fun ds M R X h => by obtain ⟨_, _, rfl, _⟩ := h; rfl) (fun cdv A outer s H E hr => ?_)
  have hu := hu_of hr
  have hu64 := hr.units
  refine ⟨_, PSs.nox (pss_cons (ps_set (i := 2) sc_least.nd rfl (Or.inl rfl) pe_non)
      (pss_cons (ps_for PassesOwn.never rfl (pi_range2 (by rfl) (n_range c) (pa_cons pe_int (pa_cons (pe_callB (klenU K rfl) (by rfl) (n_len c) PySem.boot_len (pa_cons (pv 0) pa_nil)) pa_nil))) (pg_name (i := 3) sc_least.nd rfl (Or.inl rfl)) (pss_one (ps_if (PW.pt (pw_and (pt_cmpR (keqU K rfl hu64) (pe_ix (kixU K rfl hu) (pe_ix (kixU K rfl hu) (pv 0) (pv 3) (fun _ _ => rfl)) pe_int (fun _ _ => rfl)) (pv 1) (nomark _)) (pw_and1 (PW.pt (pw_or (pt_cmp (pc_isN (pv 2)) rfl) (pw_or1 (pt_cmpR (kltU K rfl hu64) (pe_ix (kixU K rfl hu) (pe_ix (kixU K rfl hu) (pv 0) (pv 3) (fun _ _ => rfl)) pe_int (fun _ _ => rfl)) (pe_ix (kixU K rfl hu) (pe_ix (kixU K rfl hu) (pv 0) (pv 2) (fun _ _ => rfl)) pe_int (fun _ _ => rfl)) (nomark _)))))))) (pss_one (ps_set (i := 2) sc_least.nd rfl (Or.inl rfl) (pv 3))) pss_nil)))
      (pss_one (ps_ret (pv 2))))), ?_⟩
  intro B G ds M R X Q ht hQ hX
  obtain ⟨rs, x, rfl, hn, hR⟩ := ht
  change At K B G [some _, some _, none, none] M _
  walk_at "asg"
  apply at_seq
  have hl : ((rs.map rowD).length : Int) = rs.length := by rw [List.length_map]
  apply at_forR2 (lo := 1) (n := rs.length) (I := fun i Γ' M' => ∃ z, Γ' = [some (Dt.lst (rs.map rowD)), some (Dt.str x), some (optD (leastN rs x (i + 1))), z] ∧ M' = M)
  · rw [← hl]; walk_at "ea"
  · omega
  · exact ⟨_, rfl, rfl⟩
  · rintro i Γ' M' hi ⟨z, rfl, rfl⟩
    apply atg_name
    walk_at "q"
    obtain ⟨r, hr⟩ : ∃ r, rs[i + 1]? = some r := ⟨rs[i + 1]'(by omega), List.getElem?_eq_getElem _⟩
    have ha : atI (rs.map rowD) (1 + (i : Int)) = some (rowD r) := atI_map hr (by omega)
    have hstep : leastN rs x (i + 1 + 1) = if (decide (r.g = x) && ((optD (leastN rs x (i + 1))).isNon || decide (r.t < (rs.getD ((leastN rs x (i + 1)).getD 0) default).t))) = true then some (i + 1) else leastN rs x (i + 1) := by
      show (if i + 1 = 0 then none else _) = _
      rw [if_neg (by omega), hr]
      cases hf : leastN rs x (i + 1) with
      | none => simp [optD, Dt.isNon]
      | some f => simp [optD, Dt.isNon]
    apply at_if (b := (decide (r.g = x) && ((optD (leastN rs x (i + 1))).isNon || decide (r.t < (rs.getD ((leastN rs x (i + 1)).getD 0) default).t))))
    · apply et_and
      · apply et_test
        apply ed_op
        · apply ed_op
          · apply ed_op
            · walk_at "ev"
            · walk_at "ev"
            · exact u_ixL Lst.frz ha
          · walk_at "ev"
          · exact u_ixT rfl
        · walk_at "ev"
        · walk_at "op"
      · intro _
        apply et_or
        · apply et_B
          apply ed_isN
          walk_at "ev"
        · intro hnn
          cases hf : leastN rs x (i + 1) with
          | none => rw [hf] at hnn; cases hnn
          | some f =>
            obtain ⟨f1, f2, f3⟩ := leastN_lt hf
            have ha2 : atI (rs.map rowD) ((f : Nat) : Int) = some (rowD (rs.getD f default)) := atI_map (n := f) (by rw [List.getD_eq_getElem?_getD, List.getElem?_eq_getElem f3]; rfl) rfl
            apply et_test
            apply ed_op
            · apply ed_op
              · apply ed_op
                · walk_at "ev"
                · walk_at "ev"
                · exact u_ixL Lst.frz ha
              · walk_at "ev"
              · exact u_ixT rfl
            · apply ed_op
              · apply ed_op
                · walk_at "ev"
                · exact ed_var (d := .int f) rfl
                · exact u_ixL Lst.frz ha2
              · walk_at "ev"
              · exact u_ixT rfl
            · exact u_ltI
    · intro hb
      rw [hb, if_pos rfl] at hstep
      apply at_asg
      · walk_at "ev"
      · walk_at "q"
        apply up_of
        refine ⟨some (Dt.int (1 + (i : Int))), ?_, rfl⟩
        rw [hstep, show optD (some (i + 1)) = Dt.int (1 + (i : Int)) from by show Dt.int ((i + 1 : Nat) : Int) = _; congr 1; omega]
    · intro hb
      rw [hb] at hstep
      simp only [Bool.false_eq_true, if_false] at hstep
      walk_at "nx"
      apply up_of
      refine ⟨some (Dt.int (1 + (i : Int))), ?_, rfl⟩
      rw [hstep]
  · rintro Γ' M' ⟨z, rfl, rfl⟩
    walk_at "q"
    apply at_ret
    · walk_at "ev"
    · refine hQ _ _ ?_
      have e : leastN rs x ((((rs.length : Int) - 1).toNat) + 1) = leastOf rs x := by
        unfold leastOf
        by_cases h0 : rs.length = 0
        · rw [h0]; rfl
        · congr 1; omega
      rw [e]
      exact hR
theorem ok_least (c : Cxt K mg) : FnG P w K mg base (He.ga K "least") ["rows", "name"] 1 (Vl.spT K T_least) := by
  obtain ⟨fd, F⟩ := F_least c
  exact ⟨⟨fd, okF_least c F, F.bindsN fun _ _ _ _ _ _ us hl => match us, hl with | [_, _], _ => rfl⟩, F.kp⟩
end

def N_roads_to : List Str := ["rows", "place", "found"]
theorem sc_roads_to : FnScope N_roads_to ["rows", "place"] (defScope s_roads_to) := ⟨rfl, rfl, rfl, by decide +kernel, rfl, by decide +kernel, by decide +kernel⟩
section
variable {P : Program} {w : World} {K : PySem.W.Frag} {mg : Str → Option Value} {base : Heap}
theorem okF_roads_to {fd : FuncData} (c : Cxt K mg) (F : FunD K "roads_to" "roads_to" (defArgs s_roads_to) (defBody s_roads_to) (defScope s_roads_to) [] [] (He.ga K "roads_to") fd) : FnOk P w K mg base (L2.CX P w) 1 (He.ga K "roads_to") fd ["rows", "place"] (Vl.spT K T_roads_to) := by
  refine fnT F sc_roads_to (by decide) (fun ds M R X h => by obtain ⟨_, _, rfl, _⟩ := h; rfl) (fun cdv A outer s H E hr => ?_)
  have hu := hu_of hr
  have hu64 := hr.units
  refine ⟨_, PSs.nox (pss_cons (ps_set (i := 2) sc_roads_to.nd rfl (Or.inl rfl) (pe_lst pa_nil))
      (pss_cons (ps_while PassesOwn.never (pt_cmpR op_ge (pe_ix (kixU K rfl hu) (pe_ix (kixU K rfl hu) (pv 0) (pv 1) (fun _ _ => rfl)) pe_int (fun _ _ => rfl)) pe_int (nomark _)) (pss_cons (ps_expr (kbm K rfl PySem.F.plainAttrs_list PySem.F.slot_list_append PySem.F.type_list_append (mt_append) (pv 2) (pa_cons (pe_ix (kixU K rfl hu) (pe_ix (kixU K rfl hu) (pv 0) (pv 1) (fun _ _ => rfl)) pe_int (fun _ _ => rfl)) pa_nil)))
      (pss_one (ps_set (i := 1) sc_roads_to.nd rfl (Or.inl rfl) (pe_ix (kixU K rfl hu) (pe_ix (kixU K rfl hu) (pv 0) (pv 1) (fun _ _ => rfl)) pe_int (fun _ _ => rfl))))))
      (pss_one (ps_ret (krevL K rfl (pv 2)))))), ?_⟩
  intro B G ds M R X Q ht hQ hX
  obtain ⟨rs, p, rfl, ⟨hb, hp, hn⟩, hR⟩ := ht
  change At K B G [some _, some _, none] M _
  walk_at "sq"
  apply at_asgN
  · walk_at "en"
  intro l
  walk_at "q"
  walk_at "sq"
  have hlen := backRoads_len rs p p
  -- behind some turns: the roads so far, and where the way back stands
  apply at_while (I := fun m Γ' M' => ∃ (q : Nat) (fs : List Int), m = q ∧ q < rs.length ∧ backRoads rs p p = fs ++ backRoads rs q q ∧ Γ' = [some (Dt.lst (rs.map rowD)), some (Dt.int q), some (Dt.ob l)] ∧ M' = (l, Ow.lst (fs.map Dt.int)) :: M) (m0 := p)
  · exact ⟨p, [], rfl, hp, rfl, rfl, rfl⟩
  · rintro m Γ' M' ⟨q, fs, rfl, hq, hs, rfl, rfl⟩
    have e : rs.getD m default = rs[m] := by rw [List.getD_eq_getElem?_getD, List.getElem?_eq_getElem hq]; rfl
    have ha : atI (rs.map rowD) ((m : Nat) : Int) = some (rowD (rs.getD m default)) := atI_map (n := m) (by rw [e, List.getElem?_eq_getElem hq]) rfl
    have hb' := hb m hq
    refine ⟨decide (0 ≤ (rs.getD m default).b), ?_, ?_, ?_⟩
    · apply et_test
      apply ed_op
      · apply ed_op
        · apply ed_op
          · walk_at "ev"
          · walk_at "ev"
          · exact u_ixL Lst.frz ha
        · walk_at "ev"
        · exact u_ixT rfl
      · walk_at "ev"
      · exact op2_IB
    · intro h
      have h' : 0 ≤ (rs.getD m default).b := of_decide_eq_true h
      have h0 : ¬ m = 0 := fun z => by
        rw [if_pos z] at hb'
        rw [e] at h'
        omega
      rw [if_neg h0, ← e] at hb'
      have hfl : fs.length ≤ p := by
        have := congrArg List.length hs
        rw [List.length_append] at this
        omega
      have hm : backRoads rs m m = (rs.getD m default).r :: backRoads rs (rs.getD m default).b.toNat (rs.getD m default).b.toNat := by
        obtain ⟨m', rfl⟩ : ∃ m', m = m' + 1 := ⟨m - 1, by omega⟩
        show (if m' + 1 = 0 then [] else _) = _
        rw [if_neg (by omega), backRoads_enough hb (by omega) m' (by omega)]
      walk_at "sq"
      apply at_app (j := 0) (d := .int (rs.getD m default).r)
      · walk_at "ev"
      · rfl
      · apply ed_op
        · apply ed_op
          · walk_at "ev"
          · walk_at "ev"
          · exact u_ixL Lst.frz ha
        · walk_at "ev"
        · exact u_ixT rfl
      · rw [List.length_map]; omega
      walk_at "q"
      apply at_asg (d := .int (rs.getD m default).b)
      · apply ed_op
        · apply ed_op
          · walk_at "ev"
          · walk_at "ev"
          · exact u_ixL Lst.frz ha
        · walk_at "ev"
        · exact u_ixT rfl
      walk_at "q"
      apply up_of
      refine ⟨(rs.getD m default).b.toNat, by omega, (rs.getD m default).b.toNat, fs ++ [(rs.getD m default).r], rfl, by omega, ?_, ?_, ?_⟩
      · rw [hs, hm]; simp
      · rw [Int.toNat_of_nonneg hb'.1]
      · rw [List.map_append]; rfl
    · intro h
      have h' : ¬ 0 ≤ (rs.getD m default).b := of_decide_eq_false h
      have h0 : m = 0 := by
        by_cases z : m = 0
        · exact z
        · rw [if_neg z, ← e] at hb'; omega
      subst h0
      walk_at "q"
      apply at_retNw
      · walk_at "en"
      · intro a
        have hR' := hR a
        unfold roadsOf at hR'
        have hs' : backRoads rs p p = fs := by rw [hs]; simp [backRoads]
        rw [backRoads_enough hb hp rs.length (by omega), hs', List.map_reverse] at hR'
        refine (hQ _ _ hR').cells ?_
        exact (List.sublist_cons_self _ _).cons_cons _
theorem ok_roads_to (c : Cxt K mg) : FnG P w K mg base (He.ga K "roads_to") ["rows", "place"] 1 (Vl.spT K T_roads_to) := by
  obtain ⟨fd, F⟩ := F_roads_to c
  exact ⟨⟨fd, okF_roads_to c F, F.bindsN fun _ _ _ _ _ _ us hl => match us, hl with | [_, _], _ => rfl⟩, F.kp⟩
end
def T_leg (K : PySem.W.Frag) : TmV := fun ds M R _ => ∃ (x y z : Dt) (n : NetM) (one other : Str) (lim : Int), ds = [.inst (He.ga K "Net") (netF x y z), .str one, .str other, .int lim] ∧ (NetAt M x y z n ∧ Fit n lim ∧ n.has one = true ∧ n.has other = true) ∧ R (legD (legOf n one other lim)) M
def N_leg : List Str := ["net", "one", "other", "limit", "rows", "place"]
theorem sc_leg : FnScope N_leg ["net", "one", "other", "limit"] (defScope s_leg) := ⟨rfl, rfl, rfl, by decide +kernel, rfl, by decide +kernel, by decide +kernel⟩
section
variable {P : Program} {w : World} {K : PySem.W.Frag} {mg : Str → Option Value} {base : Heap}
theorem okF_leg {fd : FuncData} (c : Cxt K mg) (F : FunD K "leg" "leg" (defArgs s_leg) (defBody s_leg) (defScope s_leg) [] [] (He.ga K "leg") fd) : FnOk P w K mg base (L2.CX P w) 5 (He.ga K "leg") fd ["net", "one", "other", "limit"] (Vl.spT K (T_leg K)) := by
  obtain ⟨⟨fd_Net_need, G_Net_need, b_Net_need⟩, k_Net_need⟩ := ok_Net_need (P := P) (w := w) (base := base) c
  obtain ⟨⟨fd_reached, G_reached, b_reached⟩, k_reached⟩ := ok_reached (P := P) (w := w) (base := base) c
  obtain ⟨⟨fd_least, G_least, b_least⟩, k_least⟩ := ok_least (P := P) (w := w) (base := base) c
  obtain ⟨⟨fd_roads_to, G_roads_to, b_roads_to⟩, k_roads_to⟩ := ok_roads_to (P := P) (w := w) (base := base) c
  refine fnT F sc_leg (by decide) (fun ds M R X h => by obtain ⟨_, _, _, _, _, _, _, rfl, _⟩ := h; rfl) (fun cdv A outer s H E hr => ?_)
  have hu := hu_of hr
  have hu64 := hr.units
  refine ⟨_, PSs.nox (pss_cons (ps_expr (pe_meth (pv 0) (cl_Net c) (m_Net_need c) G_Net_need (hr.mono (by decide)) b_Net_need .nil passL (pa_cons (pv 1) pa_nil)))
      (pss_cons (ps_expr (pe_meth (pv 0) (cl_Net c) (m_Net_need c) G_Net_need (hr.mono (by decide)) b_Net_need .nil passL (pa_cons (pv 2) pa_nil)))
      (pss_cons (ps_set (i := 4) sc_leg.nd rfl (Or.inl rfl) (pe_call G_reached (hr.mono (by decide)) (by rfl) (g_reached c) k_reached b_reached .nil passL (pa_cons (pv 0) (pa_cons (pv 1) (pa_cons (pv 3) pa_nil)))))
      (pss_cons (ps_set (i := 5) sc_leg.nd rfl (Or.inl rfl) (pe_call G_least (hr.mono (by decide)) (by rfl) (g_least c) k_least b_least .nil passL (pa_cons (pv 4) (pa_cons (pv 2) pa_nil))))
      (pss_cons (ps_if (pt_cmp (pc_isN (pv 5)) rfl) (pss_one (ps_ret pe_non)) pss_nil)
      (pss_one (ps_ret (pe_tup (pa_cons (pe_ix (kixU K rfl hu) (pe_ix (kixU K rfl hu) (pv 4) (pv 5) (fun _ _ => rfl)) pe_int (fun _ _ => rfl)) (pa_cons (pe_ix (kixU K rfl hu) (pe_ix (kixU K rfl hu) (pv 4) (pv 5) (fun _ _ => rfl)) pe_int (fun _ _ => rfl)) (pa_cons (pe_call G_roads_to (hr.mono (by decide)) (by rfl) (g_roads_to c) k_roads_to b_roads_to .nil passL (pa_cons (pv 4) (pa_cons (pv 5) pa_nil))) pa_nil))))))))))), ?_⟩
  intro B G ds M R X Q ht hQ hX
  obtain ⟨x, y, z, n, one, other, lim, rfl, ⟨hN, hF, h1, h2⟩, hR⟩ := ht
  change At K B G [some _, some _, some _, some _, none, none] M _
  obtain ⟨u, hB⟩ := hF.bd
  have need : ∀ (s : Str) {Γ : Gm} {t1 t2 : TE}, n.has s = true → EvD K Γ M t1 (.inst (He.ga K "Net") (netF x y z)) → EvD K Γ M t2 (.str s) → EvD K Γ M (tMeth (He.ga K "Net") "need" (Vl.spT K (T_Net_need K)) [] E0 t1 (tCons t2 tNil)) .non := fun s Γ t1 t2 hs e1 e2 => by
    apply evd_meth e1 rfl (ea_cons e2 ea_nil)
    exact ⟨_, _, _, n.sight, s, rfl, hN.s, by rw [if_pos (show (n.sight.lookup s).isSome = true from hs)]; exact ⟨rfl, rfl⟩⟩
  walk_at "sq"
  apply at_drop
  · apply need one h1
    · walk_at "ev"
    · walk_at "ev"
  walk_at "q"
  walk_at "sq"
  apply at_drop
  · apply need other h2
    · walk_at "ev"
    · walk_at "ev"
  walk_at "q"
  walk_at "sq"
  apply at_asg (d := .lst ((reachRows n one lim).map rowD))
  · apply EvN.toD
    apply evn_call
    · walk_at "ea"
    · refine ⟨x, y, z, n, one, lim, ⟨hF.wf, hF.ll⟩, rfl, hN, fun h => ?_, fun _ h => ?_, fun _ _ => ⟨⟨u, hB⟩, fun a => ⟨a, rfl, rfl⟩⟩⟩
      · rw [h1] at h; cases h
      · have := hB.l0; omega
  walk_at "q"
  have hbk := reach_back (gate := one) hF.wf hB
  obtain ⟨s, I, hnil, es, hl⟩ := reach_props (gate := one) hF.wf hB
  rw [es] at hl
  have hlg : legOf n one other lim = (leastOf (reachRows n one lim) other).map fun p => ((ra (reachRows n one lim) p).t, (ra (reachRows n one lim) p).m, roadsOf (reachRows n one lim) p) := rfl
  rw [hlg] at hR
  generalize reachRows n one lim = rs at hbk hl hR
  walk_at "sq"
  apply at_asg (d := optD (leastOf rs other))
  · apply evd_call
    · walk_at "ea"
    · exact ⟨rs, other, rfl, by omega, rfl, rfl⟩
  cases hp : leastOf rs other with
  | none =>
    rw [hp] at hR
    walk_at "q"
    walk_at "sq"
    apply at_if (b := (optD (none : Option Nat)).isNon)
    · apply et_B
      apply ed_isN
      walk_at "ev"
    · intro _
      apply at_ret
      · walk_at "ev"
      · exact hQ _ _ hR
    · intro h; cases h
  | some p =>
    rw [hp] at hR
    have hlt : p < rs.length := (leastN_lt hp).2.2
    have ha : atI (rs.map rowD) (p : Int) = some (rowD (ra rs p)) := by
      have := atI_mapD (f := rowD) (xs := rs) (i := (p : Int)) (by omega) (by omega)
      rwa [Int.toNat_natCast] at this
    have hv : ∀ {Γ : Gm} {M' : Sto} {i : Nat}, Γ[i]? = some (some (optD (some p))) → EvD K Γ M' (tVar i) (.int (p : Nat)) := fun h => ed_var h
    walk_at "q"
    walk_at "sq"
    apply at_if (b := (Dt.int (p : Int)).isNon)
    · apply et_B
      apply ed_isN
      exact hv rfl
    · intro h; cases h
    intro _
    walk_at "nx"
    apply at_ret
    · show EvD K _ _ _ (.tup [.int (ra rs p).t, .int (ra rs p).m, .lst ((roadsOf rs p).map Dt.int)])
      apply ed_tup
      · apply ea_cons
        · apply ed_op
          · apply ed_op
            · walk_at "ev"
            · exact hv rfl
            · exact u_ixL Lst.frz ha
          · walk_at "ev"
          · exact u_ixT rfl
        apply ea_cons
        · apply ed_op
          · apply ed_op
            · walk_at "ev"
            · exact hv rfl
            · exact u_ixL Lst.frz ha
          · walk_at "ev"
          · exact u_ixT rfl
        apply ea_cons
        · apply EvN.toD
          apply evn_call
          · apply ea_cons
            · walk_at "ev"
            apply ea_cons
            · exact hv rfl
            exact ea_nil
          · exact ⟨rs, p, rfl, ⟨hbk, hlt, by omega⟩, fun a => ⟨a, rfl, rfl⟩⟩
        exact ea_nil
      · walk_at "side"
    · exact hQ _ _ hR
theorem ok_leg (c : Cxt K mg) : FnG P w K mg base (He.ga K "leg") ["net", "one", "other", "limit"] 5 (Vl.spT K (T_leg K)) := by
  obtain ⟨fd, F⟩ := F_leg c
  exact ⟨⟨fd, okF_leg c F, F.bindsN fun _ _ _ _ _ _ us hl => match us, hl with | [_, _, _, _], _ => rfl⟩, F.kp⟩
end
def T_gates_passed (K : PySem.W.Frag) : TmV := fun ds M R X => ∃ (x y z : Dt) (n : NetM) (rs : List Int) (t e : Int), ds = [.inst (He.ga K "Net") (netF x y z), .lst (rs.map Dt.int), .int t, .int e] ∧ (NetAt M x y z n ∧ rs ≠ [] ∧ rs.length ≤ 9000000 ∧ ∀ r ∈ rs, 0 ≤ r ∧ r < n.lines.length) ∧ ∀ a, R (.ob a) ((a, .lst ((passedOf n rs t e).map passD)) :: M)
def N_gates_passed : List Str := ["net", "roads", "time", "end", "found", "number", "road"]
theorem sc_gates_passed : FnScope N_gates_passed ["net", "roads", "time", "end"] (defScope s_gates_passed) := ⟨rfl, rfl, rfl, by decide +kernel, rfl, by decide +kernel, by decide +kernel⟩
section
variable {P : Program} {w : World} {K : PySem.W.Frag} {mg : Str → Option Value} {base : Heap}
theorem okF_gates_passed {fd : FuncData} (c : Cxt K mg) (F : FunD K "gates_passed" "gates_passed" (defArgs s_gates_passed) (defBody s_gates_passed) (defScope s_gates_passed) [] [] (He.ga K "gates_passed") fd) : FnOk P w K mg base (L2.CX P w) 2 (He.ga K "gates_passed") fd ["net", "roads", "time", "end"] (Vl.spT K (T_gates_passed K)) := by
  obtain ⟨⟨fd_Net_line, G_Net_line, b_Net_line⟩, k_Net_line⟩ := ok_Net_line (P := P) (w := w) (base := base) c
  refine fnT F sc_gates_passed (by decide) (fun ds M R X h => by obtain ⟨_, _, _, _, _, _, _, rfl, _⟩ := h; rfl) (fun cdv A outer s H E hr => ?_)
  have hu := hu_of hr
  have hu64 := hr.units
  refine ⟨_, PSs.nox (pss_cons (ps_set (i := 4) sc_gates_passed.nd rfl (Or.inl rfl) (pe_lst pa_nil))
      (pss_cons (ps_for PassesOwn.never rfl (kseqU K rfl (pv 1)) (pg_name (i := 5) sc_gates_passed.nd rfl (Or.inl rfl)) (pss_cons (ps_set (i := 6) sc_gates_passed.nd rfl (Or.inl rfl) (pe_meth (pv 0) (cl_Net c) (m_Net_line c) G_Net_line (hr.mono (by decide)) b_Net_line .nil passL (pa_cons (pv 5) pa_nil)))
      (pss_cons (ps_set (i := 2) sc_gates_passed.nd rfl (Or.inl rfl) (pe_op (kaddU K rfl) (pv 2) (pe_ix (kixU K rfl hu) (pv 6) pe_int (fun _ _ => rfl))))
      (pss_one (ps_expr (kbm K rfl PySem.F.plainAttrs_list PySem.F.slot_list_append PySem.F.type_list_append (mt_append) (pv 4) (pa_cons (pe_tup (pa_cons (pe_ix (kixU K rfl hu) (pv 6) pe_int (fun _ _ => rfl)) (pa_cons (pv 2) pa_nil))) pa_nil)))))))
      (pss_one (ps_ret (pe_op (kaddU K rfl) (pe_slice (kslU K rfl) (pv 4) po_none (po_some (pe_un un_neg pe_int))) (pe_lst (pa_cons (pe_tup (pa_cons (pe_ix (kixU K rfl hu) (pe_ix (kixU K rfl hu) (pv 4) (pe_un un_neg pe_int) (fun _ _ => rfl)) pe_int (fun _ _ => rfl)) (pa_cons (pv 3) pa_nil))) pa_nil))))))), ?_⟩
  intro B G ds M R X Q ht hQ hX
  obtain ⟨x, y, z, n, rs, t, e, rfl, ⟨hN, hne, hrl, hrs⟩, hR⟩ := ht
  change At K B G [some _, some _, some _, some _, none, none, none] M _
  walk_at "sq"
  apply at_asgN (o := .lst [])
  · walk_at "en"
  intro a
  walk_at "q"
  walk_at "sq"
  apply at_forL (ds := rs.map Dt.int) (I := fun i Γ' M' => ∃ z1 z2, Γ' = [some (.inst (He.ga K "Net") (netF x y z)), some (.lst (rs.map Dt.int)), some (Dt.int (timeL n t (rs.take i))), some (.int e), some (.ob a), z1, z2] ∧ M' = (a, Ow.lst ((passW n t (rs.take i)).map passD)) :: M)
  · walk_at "ev"
  · refine ⟨none, none, ?_, rfl⟩
    have : timeL n t (rs.take 0) = t := by simp [timeL]
    rw [this]
  · rintro G' hle i d Γ' M' hd ⟨z1, z2, rfl, rfl⟩
    rw [List.getElem?_map] at hd
    obtain ⟨r, hr, rfl⟩ := Option.map_eq_some_iff.mp hd
    have hr2 := hrs r (List.mem_of_getElem? hr)
    have hil := (List.getElem?_eq_some_iff.mp hr).1
    have htk : rs.take (i + 1) = rs.take i ++ [r] := by rw [List.take_add_one, hr]; rfl
    have htm : timeL n t (rs.take (i + 1)) = timeL n t (rs.take i) + lmin (n.line r.toNat) := by
      rw [htk]; unfold timeL
      rw [List.map_append, List.sum_append]
      simp [Int.add_assoc]
    have hpl := passW_len n t (rs.take i)
    rw [List.length_take] at hpl
    apply atg_name
    walk_at "q"
    walk_at "sq"
    apply at_asg (d := lineD (n.line r.toNat))
    · apply evd_meth
      · walk_at "ev"
      · rfl
      · walk_at "ea"
      · exact ⟨x, y, z, n, r, rfl, hN.push.l, hr2, rfl, rfl⟩
    walk_at "q"
    walk_at "sq"
    apply at_asg (d := .int (timeL n t (rs.take (i + 1))))
    · rw [htm]
      apply ed_op
      · walk_at "ev"
      · apply ed_op
        · walk_at "ev"
        · walk_at "ev"
        · exact u_ixT rfl
      · exact u_addI
    walk_at "q"
    apply at_app (j := 0) (d := passD ((n.line r.toNat).2.1, timeL n t (rs.take (i + 1))))
    · walk_at "ev"
    · rfl
    · show EvD K _ _ _ (.tup [.str (n.line r.toNat).2.1, .int (timeL n t (rs.take (i + 1)))])
      apply ed_tup
      · apply ea_cons
        · apply ed_op
          · walk_at "ev"
          · walk_at "ev"
          · exact u_ixT rfl
        walk_at "ea"
      · walk_at "side"
    · rw [List.length_map, hpl]; omega
    walk_at "q"
    apply up_of
    refine ⟨some (.int r), some (lineD (n.line r.toNat)), rfl, ?_⟩
    rw [htk, passW_app, List.map_append, ← htk, htm]; rfl
  rintro Γ' M' ⟨z1, z2, rfl, rfl⟩
  rw [List.length_map, List.take_length]
  walk_at "q"
  have hpl := passW_len n t rs
  have hp0 : 0 < rs.length := List.length_pos_iff.mpr hne
  have hpo : passedOf n rs t e = (passW n t rs).dropLast ++ [(((passW n t rs).getLast?.getD ("", 0)).1, e)] := rfl
  rw [hpo] at hR
  generalize passW n t rs = ps at hpl hR
  have hlast : atI (ps.map passD) (-1) = some (passD (ps.getLast?.getD ("", 0))) := by
    unfold atI
    have hix : ixN (ps.map passD).length (-1) = some (ps.length - 1) := by
      unfold ixN
      rw [List.length_map, if_neg (by decide), if_pos (by omega)]
      congr 1
      omega
    rw [hix]
    show (ps.map passD)[ps.length - 1]? = _
    rw [List.getElem?_map, List.getLast?_eq_getElem?, List.getElem?_eq_getElem (by omega)]
    rfl
  have hcut : Vl.cutD (ps.map passD) none (some (-1)) = ps.dropLast.map passD := by
    unfold Vl.cutD
    rw [HT.sIx_none, List.drop_zero, Nat.sub_zero]
    have : HT.sIx (ps.map passD).length (ps.map passD).length (some (-1)) = ps.length - 1 := by
      unfold HT.sIx
      dsimp only
      rw [if_pos (by decide), List.length_map]
      omega
    rw [this, ← List.map_take, List.dropLast_eq_take]
  apply at_retNw
  · apply en_op
    · apply EvN.toD
      apply en_slL
      · walk_at "ev"
      · exact Lst.own (j := 0) rfl
      · exact ep_none
      · apply ep_some
        walk_at "ev"
    · apply EvN.toD
      apply en_lst (xs := [passD ((ps.getLast?.getD ("", 0)).1, e)])
      · apply ea_cons
        · show EvD K _ _ _ (.tup [.str (ps.getLast?.getD ("", 0)).1, .int e])
          apply ed_tup
          · apply ea_cons
            · apply ed_op
              · apply ed_op
                · walk_at "ev"
                · walk_at "ev"
                · exact u_ixL (Lst.own (j := 0) rfl) hlast
              · walk_at "ev"
              · exact u_ixT rfl
            walk_at "ea"
          · walk_at "side"
        · exact ea_nil
      · walk_at "side"
    · apply u_addL
      · exact Lst.frz
      · exact Lst.frz
      · rw [hcut, List.length_map, List.length_dropLast]
        show _ + 1 ≤ _
        omega
  · intro b
    have := hQ _ _ (hR b)
    rw [List.map_append] at this
    rw [hcut]
    exact this.cells (List.Sublist.cons_cons _ (List.sublist_cons_self _ _))
theorem ok_gates_passed (c : Cxt K mg) : FnG P w K mg base (He.ga K "gates_passed") ["net", "roads", "time", "end"] 2 (Vl.spT K (T_gates_passed K)) := by
  obtain ⟨fd, F⟩ := F_gates_passed c
  exact ⟨⟨fd, okF_gates_passed c F, F.bindsN fun _ _ _ _ _ _ us hl => match us, hl with | [_, _, _, _], _ => rfl⟩, F.kp⟩
end
def T_guess (K : PySem.W.Frag) : TmV := fun ds M R X => ∃ (x y z s : Dt) (n : NetM) (seen : List (Int × Str)), ds = [.inst (He.ga K "Net") (netF x y z), s] ∧ (NetAt M x y z n ∧ Lst M s (seen.map seenD) ∧ seen.length ≤ 1000) ∧
  (∀ e, lookOf n seen = some e → X (He.ga K e) M) ∧ (lookOf n seen = none → (∀ k, k + 1 < seen.length → Fit n (tmOf seen (k + 1) - tmOf seen k)) ∧
    (∃ bd, (∀ k l, k + 1 < seen.length → legK n seen k = some l → l.2.2.length ≤ bd) ∧ (seen.length + 1) * bd + 1 ≤ 9000000) ∧
    (∀ k, k + 1 < seen.length → (∃ st, guessK n seen k = some st) → legK n seen k = none → R (.tup [.str "none", .int (k : Int)]) M) ∧
    (∀ st, guessK n seen (seen.length - 1) = some st → ∀ a b, R (.tup [.str "way", .int st.1, .ob a, .ob b]) ((b, .lst (st.2.2.map passD)) :: (a, .lst (st.2.1.map Dt.int)) :: M)))
def N_guess : List Str := ["net", "seen", "toll", "roads", "passed", "k", "found"]
theorem sc_guess : FnScope N_guess ["net", "seen"] (defScope s_guess) := ⟨rfl, rfl, rfl, by decide +kernel, rfl, by decide +kernel, by decide +kernel⟩
section
variable {P : Program} {w : World} {K : PySem.W.Frag} {mg : Str → Option Value} {base : Heap}
theorem okF_guess {fd : FuncData} (c : Cxt K mg) (F : FunD K "guess" "guess" (defArgs s_guess) (defBody s_guess) (defScope s_guess) [] [] (He.ga K "guess") fd) : FnOk P w K mg base (L2.CX P w) 6 (He.ga K "guess") fd ["net", "seen"] (Vl.spT K (T_guess K)) := by
  obtain ⟨⟨fd_look, G_look, b_look⟩, k_look⟩ := ok_look (P := P) (w := w) (base := base) c
  obtain ⟨⟨fd_leg, G_leg, b_leg⟩, k_leg⟩ := ok_leg (P := P) (w := w) (base := base) c
  obtain ⟨⟨fd_gates_passed, G_gates_passed, b_gates_passed⟩, k_gates_passed⟩ := ok_gates_passed (P := P) (w := w) (base := base) c
  refine fnT F sc_guess (by decide) (fun ds M R X h => by obtain ⟨_, _, _, _, _, _, rfl, _⟩ := h; rfl) (fun cdv A outer s H E hr => ?_)
  have hu := hu_of hr
  have hu64 := hr.units
  refine ⟨_, (pss_cons (ps_expr (pe_call G_look (hr.mono (by decide)) (by rfl) (g_look c) k_look b_look .nil (passes_call (takes_of rfl rfl rfl rfl) (fun _ _ _ _ h => h)) (pa_cons (pv 0) (pa_cons (pv 1) pa_nil))))
      (pss_cons (ps_set (i := 2) sc_guess.nd rfl (Or.inl rfl) pe_int)
      (pss_cons (ps_set (i := 3) sc_guess.nd rfl (Or.inl rfl) (pe_lst pa_nil))
      (pss_cons (ps_set (i := 4) sc_guess.nd rfl (Or.inl rfl) (pe_lst (pa_cons (pe_tup (pa_cons (pe_ix (kixU K rfl hu) (pe_ix (kixU K rfl hu) (pv 1) pe_int (fun _ _ => rfl)) pe_int (fun _ _ => rfl)) (pa_cons (pe_ix (kixU K rfl hu) (pe_ix (kixU K rfl hu) (pv 1) pe_int (fun _ _ => rfl)) pe_int (fun _ _ => rfl)) pa_nil))) pa_nil)))
      (pss_cons (ps_for (passes_of rfl) rfl (pi_range2 (by rfl) (n_range c) (pa_cons pe_int (pa_cons (pe_callB (klenU K rfl) (by rfl) (n_len c) PySem.boot_len (pa_cons (pv 1) pa_nil)) pa_nil))) (pg_name (i := 5) sc_guess.nd rfl (Or.inl rfl)) (pss_cons (ps_set (i := 6) sc_guess.nd rfl (Or.inl rfl) (pe_call G_leg (hr.mono (by decide)) (by rfl) (g_leg c) k_leg b_leg .nil passL (pa_cons (pv 0) (pa_cons (pe_ix (kixU K rfl hu) (pe_ix (kixU K rfl hu) (pv 1) (pe_op op_sub (pv 5) pe_int) (fun _ _ => rfl)) pe_int (fun _ _ => rfl)) (pa_cons (pe_ix (kixU K rfl hu) (pe_ix (kixU K rfl hu) (pv 1) (pv 5) (fun _ _ => rfl)) pe_int (fun _ _ => rfl)) (pa_cons (pe_op op_sub (pe_ix (kixU K rfl hu) (pe_ix (kixU K rfl hu) (pv 1) (pv 5) (fun _ _ => rfl)) pe_int (fun _ _ => rfl)) (pe_ix (kixU K rfl hu) (pe_ix (kixU K rfl hu) (pv 1) (pe_op op_sub (pv 5) pe_int) (fun _ _ => rfl)) pe_int (fun _ _ => rfl))) pa_nil))))))
      (pss_cons (ps_if (pt_cmp (pc_isN (pv 6)) rfl) (pss_one (ps_ret (pe_tup (pa_cons pe_str (pa_cons (pe_op op_sub (pv 5) pe_int) pa_nil))))) pss_nil)
      (pss_cons (ps_set (i := 2) sc_guess.nd rfl (Or.inl rfl) (pe_op (kaddU K rfl) (pv 2) (pe_ix (kixU K rfl hu) (pv 6) pe_int (fun _ _ => rfl))))
      (pss_cons (ps_expr (kbm K rfl PySem.F.plainAttrs_list PySem.F.slot_list_extend PySem.F.type_list_extend (mt_extend) (pv 3) (pa_cons (pe_ix (kixU K rfl hu) (pv 6) pe_int (fun _ _ => rfl)) pa_nil)))
      (pss_one (ps_expr (kbm K rfl PySem.F.plainAttrs_list PySem.F.slot_list_extend PySem.F.type_list_extend (mt_extend) (pv 4) (pa_cons (pe_call G_gates_passed (hr.mono (by decide)) (by rfl) (g_gates_passed c) k_gates_passed b_gates_passed .nil passL (pa_cons (pv 0) (pa_cons (pe_ix (kixU K rfl hu) (pv 6) pe_int (fun _ _ => rfl)) (pa_cons (pe_ix (kixU K rfl hu) (pe_ix (kixU K rfl hu) (pv 1) (pe_op op_sub (pv 5) pe_int) (fun _ _ => rfl)) pe_int (fun _ _ => rfl)) (pa_cons (pe_ix (kixU K rfl hu) (pe_ix (kixU K rfl hu) (pv 1) (pv 5) (fun _ _ => rfl)) pe_int (fun _ _ => rfl)) pa_nil))))) pa_nil)))))))))
      (pss_one (ps_ret (pe_tup (pa_cons pe_str (pa_cons (pv 2) (pa_cons (pv 3) (pa_cons (pv 4) pa_nil)))))))))))), ?_⟩
  intro B G ds M R X Q ht hQ hX
  obtain ⟨x, y, z, s, n, seen, rfl, ⟨hN, hL, hsl⟩, hRX, hR⟩ := ht
  change At K B G [some _, some _, none, none, none, none, none] M _
  walk_at "sq"
  cases hlk : lookOf n seen with
  | some e =>
    apply at_dropX (P := fun _ _ => False)
    · apply evx_call (PX := fun C M' => C = He.ga K e ∧ M' = M)
      · walk_at "ea"
      · exact ⟨x, y, z, s, n, seen, rfl, ⟨hN, hL⟩, by rw [hlk]; exact ⟨rfl, rfl⟩⟩
      · rintro C M' ⟨rfl, rfl⟩
        exact hX _ _ (hRX e hlk)
    · exact fun _ _ p => p.elim
  | none =>
  obtain ⟨hF, ⟨bd, hbd, hbs⟩, hR1, hR2⟩ := hR hlk
  obtain ⟨hne, hhas⟩ := look_has hlk
  have hl0 : 0 < seen.length := List.length_pos_iff.mpr hne
  apply at_drop
  · apply evd_call
    · walk_at "ea"
    · exact ⟨x, y, z, s, n, seen, rfl, ⟨hN, hL⟩, by rw [hlk]; exact ⟨rfl, rfl⟩⟩
  have hat : ∀ i : Nat, i < seen.length → atI (seen.map seenD) (i : Int) = some (seenD (tmOf seen i, gtOf seen i)) := fun i h => by
    have := atI_mapD (f := seenD) (xs := seen) (i := (i : Int)) (by omega) (by omega)
    rwa [Int.toNat_natCast] at this
  have hsl2 : ((seen.map seenD).length : Int) = seen.length := by rw [List.length_map]
  walk_at "q"
  walk_at "asg"
  walk_at "sq"
  apply at_asgN (o := .lst [])
  · walk_at "en"
  intro a
  walk_at "q"
  walk_at "sq"
  apply at_asgN (o := .lst ([(gtOf seen 0, tmOf seen 0)].map passD))
  · apply en_lst
    · apply ea_cons
      · show EvD K _ _ _ (.tup [.str (gtOf seen 0), .int (tmOf seen 0)])
        apply ed_tup
        · apply ea_cons
          · apply ed_op
            · apply ed_op
              · walk_at "ev"
              · walk_at "ev"
              · exact u_ixL hL.push (hat 0 hl0)
            · walk_at "ev"
            · exact u_ixT rfl
          apply ea_cons
          · apply ed_op
            · apply ed_op
              · walk_at "ev"
              · walk_at "ev"
              · exact u_ixL hL.push (hat 0 hl0)
            · walk_at "ev"
            · exact u_ixT rfl
          exact ea_nil
        · walk_at "side"
      · exact ea_nil
    · walk_at "side"
  intro b
  walk_at "q"
  walk_at "sq"
  have hL0 : Lst ((b, Ow.lst ([(gtOf seen 0, tmOf seen 0)].map passD)) :: (a, Ow.lst []) :: M) s (seen.map seenD) := hL.push.push
  apply at_forR2 (lo := 1) (n := seen.length) (I := fun i Γ' M' => ∃ st z1 z2, guessK n seen i = some st ∧ st.2.1.length ≤ i * bd ∧ st.2.2.length ≤ i * bd + 1 ∧ Γ' = [some (.inst (He.ga K "Net") (netF x y z)), some s, some (Dt.int st.1), some (.ob a), some (.ob b), z1, z2] ∧
      M' = (b, Ow.lst (st.2.2.map passD)) :: (a, Ow.lst (st.2.1.map Dt.int)) :: M)
  · apply ea_cons
    · walk_at "ev"
    apply ea_cons
    · rw [← hsl2]
      apply ed_cb
      · walk_at "ea"
      · exact u_lenL hL0
    exact ea_nil
  · omega
  · exact ⟨(0, [], [(gtOf seen 0, tmOf seen 0)]), none, none, rfl, Nat.zero_le _, by simp, rfl, rfl⟩
  · rintro i Γ' M' hi ⟨st, z1, z2, hst, hs1, hs2, rfl, rfl⟩
    have hi' : i + 1 < seen.length := by omega
    have hN2 : NetAt ((b, Ow.lst (st.2.2.map passD)) :: (a, Ow.lst (st.2.1.map Dt.int)) :: M) x y z n := hN.push.push
    have hL2 : Lst ((b, Ow.lst (st.2.2.map passD)) :: (a, Ow.lst (st.2.1.map Dt.int)) :: M) s (seen.map seenD) := hL.push.push
    have hmul : (i + 1) * bd ≤ (seen.length + 1) * bd := Nat.mul_le_mul_right _ (by omega)
    have hmul2 : (i + 1) * bd = i * bd + bd := by rw [Nat.add_mul, Nat.one_mul]
    have e0 : atI (seen.map seenD) (1 + (i : Int) - 1) = some (seenD (tmOf seen i, gtOf seen i)) := by
      rw [show 1 + (i : Int) - 1 = (i : Int) by omega]; exact hat i (by omega)
    have e1 : atI (seen.map seenD) (1 + (i : Int)) = some (seenD (tmOf seen (i + 1), gtOf seen (i + 1))) := by
      rw [show 1 + (i : Int) = ((i + 1 : Nat) : Int) by omega]; exact hat (i + 1) hi'
    apply atg_name
    walk_at "q"
    walk_at "sq"
    apply at_asg (d := legD (legK n seen i))
    · apply evd_call (ds := [.inst (He.ga K "Net") (netF x y z), .str (gtOf seen i), .str (gtOf seen (i + 1)), .int (tmOf seen (i + 1) - tmOf seen i)])
      · apply ea_cons
        · walk_at "ev"
        apply ea_cons
        · apply ed_op
          · apply ed_op
            · walk_at "ev"
            · walk_at "ev"
            · exact u_ixL hL2 e0
          · walk_at "ev"
          · exact u_ixT rfl
        apply ea_cons
        · apply ed_op
          · apply ed_op
            · walk_at "ev"
            · walk_at "ev"
            · exact u_ixL hL2 e1
          · walk_at "ev"
          · exact u_ixT rfl
        apply ea_cons
        · apply ed_op
          · apply ed_op
            · apply ed_op
              · walk_at "ev"
              · walk_at "ev"
              · exact u_ixL hL2 e1
            · walk_at "ev"
            · exact u_ixT rfl
          · apply ed_op
            · apply ed_op
              · walk_at "ev"
              · walk_at "ev"
              · exact u_ixL hL2 e0
            · walk_at "ev"
            · exact u_ixT rfl
          · exact op2_I0
        exact ea_nil
      · exact ⟨x, y, z, n, gtOf seen i, gtOf seen (i + 1), _, rfl, ⟨hN2, hF i hi', hhas i (by omega), hhas (i + 1) hi'⟩, rfl, rfl⟩
    walk_at "q"
    walk_at "sq"
    cases hlg : legK n seen i with
    | none =>
      apply at_if (b := (Dt.non).isNon)
      · apply et_B
        apply ed_isN
        exact ed_var rfl
      · intro _
        have hr := hQ _ _ (hR1 i hi' ⟨st, hst⟩ hlg)
        apply at_ret (d := .tup [.str "none", .int (i : Int)])
        · apply ed_tup
          · apply ea_cons
            · walk_at "ev"
            apply ea_cons
            · apply EvD.is
              · apply ed_op
                · exact ed_var rfl
                · walk_at "ev"
                · exact op2_I0
              · show Dt.int (1 + (i : Int) - 1) = Dt.int i
                congr 1
                omega
            exact ea_nil
          · walk_at "side"
        · exact hr.cells ((List.sublist_cons_self _ _).trans (List.sublist_cons_self _ _))
      · intro h; cases h
    | some l =>
      have hfl := hF i hi'
      obtain ⟨l1, l2⟩ := legOf_ok hfl (show legOf n _ _ _ = some l from hlg)
      have hlb := hbd i l hi' hlg
      have hd : legD (some l) = .tup [.int l.1, .int l.2.1, .lst (l.2.2.map Dt.int)] := rfl
      have hpl := passedOf_len n l.2.2 (tmOf seen i) (tmOf seen (i + 1)) l1
      rw [hd]
      apply at_if (b := (Dt.tup [.int l.1, .int l.2.1, .lst (l.2.2.map Dt.int)]).isNon)
      · apply et_B
        apply ed_isN
        exact ed_var rfl
      · intro h; cases h
      intro _
      walk_at "nx"
      walk_at "sq"
      apply at_asg (d := .int (st.1 + l.1))
      · apply ed_op
        · walk_at "ev"
        · apply ed_op
          · walk_at "ev"
          · walk_at "ev"
          · exact u_ixT rfl
        · exact u_addI
      walk_at "q"
      walk_at "sq"
      apply at_ext (j := 1) (y := .lst (l.2.2.map Dt.int)) (es := l.2.2.map Dt.int)
      · walk_at "ev"
      · rfl
      · apply ed_op
        · walk_at "ev"
        · walk_at "ev"
        · exact u_ixT rfl
      · exact Lst.frz
      · rw [List.length_map, List.length_map]; omega
      rw [show st.2.1.map Dt.int ++ l.2.2.map Dt.int = (st.2.1 ++ l.2.2).map Dt.int by rw [List.map_append]]
      walk_at "q"
      have hN3 : NetAt ((b, Ow.lst (st.2.2.map passD)) :: (a, Ow.lst ((st.2.1 ++ l.2.2).map Dt.int)) :: M) x y z n := hN.push.push
      have hL3 : Lst ((b, Ow.lst (st.2.2.map passD)) :: (a, Ow.lst ((st.2.1 ++ l.2.2).map Dt.int)) :: M) s (seen.map seenD) := hL.push.push
      apply at_ext (j := 0) (y := .lst ((passedOf n l.2.2 (tmOf seen i) (tmOf seen (i + 1))).map passD)) (es := (passedOf n l.2.2 (tmOf seen i) (tmOf seen (i + 1))).map passD)
      · walk_at "ev"
      · rfl
      · apply EvN.toD
        apply evn_call (ds := [.inst (He.ga K "Net") (netF x y z), .lst (l.2.2.map Dt.int), .int (tmOf seen i), .int (tmOf seen (i + 1))])
        · apply ea_cons
          · walk_at "ev"
          apply ea_cons
          · apply ed_op
            · walk_at "ev"
            · walk_at "ev"
            · exact u_ixT rfl
          apply ea_cons
          · apply ed_op
            · apply ed_op
              · walk_at "ev"
              · walk_at "ev"
              · exact u_ixL hL3 e0
            · walk_at "ev"
            · exact u_ixT rfl
          apply ea_cons
          · apply ed_op
            · apply ed_op
              · walk_at "ev"
              · walk_at "ev"
              · exact u_ixL hL3 e1
            · walk_at "ev"
            · exact u_ixT rfl
          exact ea_nil
        · exact ⟨x, y, z, n, l.2.2, _, _, rfl, ⟨hN3, l1, by omega, l2⟩, fun a => ⟨a, rfl, rfl⟩⟩
      · exact Lst.frz
      · rw [List.length_map, List.length_map, hpl]; omega
      rw [show st.2.2.map passD ++ (passedOf n l.2.2 (tmOf seen i) (tmOf seen (i + 1))).map passD = (st.2.2 ++ passedOf n l.2.2 (tmOf seen i) (tmOf seen (i + 1))).map passD by rw [List.map_append]]
      walk_at "q"
      apply up_of
      refine ⟨(st.1 + l.1, st.2.1 ++ l.2.2, st.2.2 ++ passedOf n l.2.2 (tmOf seen i) (tmOf seen (i + 1))), some (.int (1 + (i : Int))), _, ?_, ?_, ?_, rfl, rfl⟩
      · rw [guessK, hst, hlg]
      · show (st.2.1 ++ l.2.2).length ≤ _
        rw [List.length_append]; omega
      · show (st.2.2 ++ _).length ≤ _
        rw [List.length_append, hpl]; omega
  rintro Γ' M' ⟨st, z1, z2, hst, hs1, hs2, rfl, rfl⟩
  walk_at "q"
  have hst' : guessK n seen (seen.length - 1) = some st := by
    rw [← hst]
    congr 1
    omega
  apply at_ret
  · walk_at "ev"
  · exact hQ _ _ (hR2 st hst' a b)
theorem ok_guess (c : Cxt K mg) : FnG P w K mg base (He.ga K "guess") ["net", "seen"] 6 (Vl.spT K (T_guess K)) := by
  obtain ⟨fd, F⟩ := F_guess c
  exact ⟨⟨fd, okF_guess c F, F.bindsN fun _ _ _ _ _ _ us hl => match us, hl with | [_, _], _ => rfl⟩, F.kp⟩
end
def T_L_guesses_stand (K : PySem.W.Frag) : TmV := fun ds M R _ => ∃ (x y z : Dt) (gs : List (Str × Bool)) (ls : List LineT) (o kp : Addr) (W : WM) (jo jp : Nat) (KP : List (List Dt)) (ss : List Str) (_ : WdOk gs ls 1 ∧ (∀ s ∈ ss, ∃ e, W.lookup s = some e ∧ SlOk (gs.map (·.1)) e.2 ∧ PyData.strOk s = true) ∧ (∀ KP' : List (List Dt), (M.set jp (kp, .lst (KP'.map pairA)))[jo]? = some (o, .dct (ownK W)) ∧ NetAt (M.set jp (kp, .lst (KP'.map pairA))) x y z (netOf gs ls)) ∧ M[jp]? = some (kp, .lst (KP.map pairA)) ∧ (∀ A ∈ KP, ShD 12 (.lst A)) ∧ KP.length + 2 * ss.length ≤ 1000000),
    ds = [.inst (He.ga K "Net") (netF x y z), .ob o, .lst (ss.map fun s => .tup [.str s, dueD (dueW (netOf gs ls) W s)]), .ob kp] ∧ True ∧
  ∀ KP' : List (List Dt), (∀ A ∈ KP', ShD 12 (.lst A)) → KP'.length ≤ KP.length + 2 * ss.length → R (.bl true) (M.set jp (kp, .lst (KP'.map pairA)))
def N_L_guesses_stand : List Str := ["_law_net_here", "_law_own", "_law_dues", "_law_kept", "_law_k", "_law_found"]
theorem sc_L_guesses_stand : FnScope N_L_guesses_stand ["_law_net_here", "_law_own", "_law_dues", "_law_kept"] (defScope s_L_guesses_stand) := ⟨rfl, rfl, rfl, by decide +kernel, rfl, by decide +kernel, by decide +kernel⟩
section
variable {P : Program} {w : World} {K : PySem.W.Frag} {mg : Str → Option Value} {base : Heap}
theorem okF_L_guesses_stand {fd : FuncData} (c : Cxt K mg) (F : FunD K "_law_guesses_stand" "_law_guesses_stand" (defArgs s_L_guesses_stand) (defBody s_L_guesses_stand) (defScope s_L_guesses_stand) [] [] (He.ga K "_law_guesses_stand") fd) : FnOk P w K mg base (L2.CX P w) 7 (He.ga K "_law_guesses_stand") fd ["_law_net_here", "_law_own", "_law_dues", "_law_kept"] (Vl.spT K (T_L_guesses_stand K)) := by
  obtain ⟨⟨fd_guess, G_guess, b_guess⟩, k_guess⟩ := ok_guess (P := P) (w := w) (base := base) c
  refine fnT F sc_L_guesses_stand (by decide) (fun ds M R X h => by obtain ⟨_, _, _, _, _, _, _, _, _, _, _, _, _, rfl, _⟩ := h; rfl) (fun cdv A outer s H E hr => ?_)
  have hu := hu_of hr
  have hu64 := hr.units
  refine ⟨_, PSs.nox (pss_cons (ps_for PassesOwn.never rfl (pi_range1 (by rfl) (n_range c) (pa_cons (pe_callB (klenU K rfl) (by rfl) (n_len c) PySem.boot_len (pa_cons (pv 2) pa_nil)) pa_nil)) (pg_name (i := 4) sc_L_guesses_stand.nd rfl (Or.inl rfl)) (pss_cons (ps_set (i := 5) sc_L_guesses_stand.nd rfl (Or.inl rfl) (pe_call G_guess (hr.mono (by decide)) (by rfl) (g_guess c) k_guess b_guess .nil passL (pa_cons (pv 0) (pa_cons (pe_callB (ksortIS K rfl) (by rfl) (n_sorted c) (by decide +kernel) (pa_cons (pe_ix (kixU K rfl hu) (pv 1) (pe_ix (kixU K rfl hu) (pe_ix (kixU K rfl hu) (pv 2) (pv 4) (fun _ _ => rfl)) pe_int (fun _ _ => rfl)) (fun _ _ => rfl)) pa_nil)) pa_nil))))
      (pss_cons (ps_if (pt_cmpR (kneU K rfl hu64) (pe_slice (kslU K rfl) (pv 5) po_none (po_some pe_int)) (pe_ix (kixU K rfl hu) (pe_ix (kixU K rfl hu) (pv 2) (pv 4) (fun _ _ => rfl)) pe_int (fun _ _ => rfl)) (nomark _)) (pss_one (ps_ret pe_bl)) pss_nil)
      (pss_one (ps_if (pt_cmpR (keqU K rfl hu64) (pe_ix (kixU K rfl hu) (pv 5) pe_int (fun _ _ => rfl)) pe_str (nomark _)) (pss_cons (ps_expr (kbm K rfl PySem.F.plainAttrs_list PySem.F.slot_list_append PySem.F.type_list_append (mt_append) (pv 3) (pa_cons (pe_lst (pa_cons (pe_ix (kixU K rfl hu) (pv 5) pe_int (fun _ _ => rfl)) (pa_cons (pe_callTy (klistX K rfl) (by rfl) (n_list c) (by decide +kernel) (pa_cons (pe_ix (kixU K rfl hu) (pv 5) pe_int (fun _ _ => rfl)) pa_nil)) pa_nil))) pa_nil)))
      (pss_one (ps_expr (kbm K rfl PySem.F.plainAttrs_list PySem.F.slot_list_append PySem.F.type_list_append (mt_append) (pv 3) (pa_cons (pe_lst (pa_cons (pe_ix (kixU K rfl hu) (pv 5) pe_int (fun _ _ => rfl)) (pa_cons (pe_callTy (klistX K rfl) (by rfl) (n_list c) (by decide +kernel) (pa_cons (pe_ix (kixU K rfl hu) (pv 5) pe_int (fun _ _ => rfl)) pa_nil)) pa_nil))) pa_nil))))) pss_nil)))))
      (pss_one (ps_ret pe_bl))), ?_⟩
  intro B G ds M R X Q ht hQ hX
  obtain ⟨x, y, z, gs, ls, o, kp, W, jo, jp, KP, ss, ⟨hW, hs, hst, hjp, hKP, hlen⟩, rfl, _, hR⟩ := ht
  change At K B G [some _, some _, some _, some _, none, none] M _
  have hM0 : M = M.set jp (kp, .lst (KP.map pairA)) := (set_self hjp).symm
  have sP : ∀ (KP' : List (List Dt)), (M.set jp (kp, .lst (KP'.map pairA)))[jp]? = some (kp, .lst (KP'.map pairA)) := fun KP' => set_same hjp
  have hset : ∀ (KP' KP2 : List (List Dt)), (M.set jp (kp, .lst (KP'.map pairA))).set jp (kp, .lst (KP2.map pairA)) = M.set jp (kp, .lst (KP2.map pairA)) := fun KP' KP2 => List.set_set _
  have app : ∀ (KP' : List (List Dt)) (A : List Dt), KP'.map pairA ++ [pairA A] = (KP' ++ [A]).map pairA := fun KP' A => by rw [List.map_append]; rfl
  walk_at "sq"
  have hsl : ((ss.map fun s => Dt.tup [.str s, dueD (dueW (netOf gs ls) W s)]).length : Int) = (ss.length : Int) := by rw [List.length_map]
  apply at_forR1 (n := (ss.length : Int)) (I := fun i Γ' M' => ∃ (KP' : List (List Dt)) (z4 z5 : Option Dt), (∀ A ∈ KP', ShD 12 (.lst A)) ∧ KP'.length ≤ KP.length + 2 * i ∧ Γ' = [some (.inst (He.ga K "Net") (netF x y z)), some (.ob o), some (.lst (ss.map fun s => .tup [.str s, dueD (dueW (netOf gs ls) W s)])), some (.ob kp), z4, z5] ∧ M' = M.set jp (kp, .lst (KP'.map pairA)))
  · rw [← hsl]; exact ea_cons (ed_cb (ea_cons (ed_var rfl) ea_nil) (u_lenL .frz)) ea_nil
  · omega
  · exact ⟨KP, none, none, hKP, by omega, rfl, hM0⟩
  · rintro i Γ' M1 hi ⟨KP', z4, z5, hK', hl', rfl, rfl⟩
    have hi' : i < ss.length := by omega
    obtain ⟨s, hsi⟩ : ∃ s, ss[i]? = some s := ⟨_, List.getElem?_eq_getElem hi'⟩
    obtain ⟨e, he, hsl', hsok⟩ := hs s (List.mem_of_getElem? hsi)
    obtain ⟨hO, hN⟩ := hst KP'
    obtain ⟨g1, g2, g3, g4⟩ := guess12 hW hsl'
    have hdw : dueW (netOf gs ls) W s = dueOf (netOf gs ls) (srtIS e.2) := by unfold dueW; rw [slOf_some he]
    have hat : atI (ss.map fun s => Dt.tup [.str s, dueD (dueW (netOf gs ls) W s)]) (i : Int) = some (.tup [.str s, dueD (dueOf (netOf gs ls) (srtIS e.2))]) := by
      rw [← hdw]
      exact atI_nat (by rw [List.getElem?_map, hsi]; rfl)
    have rowE : ∀ (j : Int) (d : Dt) {Γ : Gm} {M' : Sto}, Γ[2]? = some (some (.lst (ss.map fun s => Dt.tup [.str s, dueD (dueW (netOf gs ls) W s)]))) → Γ[4]? = some (some (.int (i : Int))) → atI [.str s, dueD (dueOf (netOf gs ls) (srtIS e.2))] j = some d → EvD K Γ M' (tOp (rIxU K) (tOp (rIxU K) (tVar 2) (tVar 4)) (tC (.int j))) d := fun j d Γ M' h h2 h3 => ed_op (ed_op (ed_var h) (ed_var h2) (u_ixL .frz hat)) ed_int (u_ixT h3)
    apply atg_name
    walk_at "q"
    walk_at "sq"
    apply at_asgX (P := fun d M' => (∃ k : Nat, dueOf (netOf gs ls) (srtIS e.2) = .inl k ∧ d = .tup [.str "none", .int (k : Int)] ∧ M' = M.set jp (kp, .lst (KP'.map pairA))) ∨ (∃ st a b, guessK (netOf gs ls) (srtIS e.2) ((srtIS e.2).length - 1) = some st ∧ d = .tup [.str "way", .int st.1, .ob a, .ob b] ∧ M' = (b, .lst (st.2.2.map passD)) :: (a, .lst (st.2.1.map Dt.int)) :: M.set jp (kp, .lst (KP'.map pairA))))
    · apply evx_call (PX := fun _ _ => False) (ds := [.inst (He.ga K "Net") (netF x y z), .lst ((srtIS e.2).map isD)])
      · apply ea_cons (ed_var rfl)
        apply ea_cons
        · apply EvN.toD
          apply en_cb
          · apply ea_cons
            · apply ed_op (x := .ob o) (y := .str s)
              · exact ed_var rfl
              · exact rowE 0 (.str s) rfl rfl rfl
              · apply u_ixD (.own hO) (key := Sum.inr s) rfl
                exact (val_own W s).trans (by rw [he]; rfl)
            · exact ea_nil
          · exact c_sortIS .frz
        exact ea_nil
      · exact ⟨x, y, z, _, netOf gs ls, srtIS e.2, rfl, ⟨hN, .frz, g4⟩, fun e h => (by rw [g1] at h; cases h), fun _ => ⟨g2, g3, fun k a b c => .inl ⟨k, due_none a b c, rfl, rfl⟩, fun st h a b => .inr ⟨st, a, b, h, rfl, rfl⟩⟩⟩
      · exact fun _ _ z => z.elim
    rintro d M' (⟨k, hd, rfl, rfl⟩ | ⟨st, a, b, hst', rfl, rfl⟩)
    · walk_at "q"
      rw [hd] at rowE
      walk_at "sq"
      apply at_if (b := false)
      · apply et_test
        apply ed_op (x := .tup [.str "none", .int (k : Int)]) (y := .tup [.str "none", .int (k : Int)])
        · exact ed_slTw (ds := [.str "none", .int (k : Int)]) (ed_var rfl) (show HT.sIx 2 0 none = 0 ∧ HT.sIx 2 2 (some 2) = 2 by decide) ep_none (ep_some ed_int)
        · exact rowE 1 _ rfl rfl rfl
        · exact u_neSame Sees.rfl Sees.rfl (sh_due (strOk_str "none"))
      · intro h; cases h
      intro _
      walk_at "nx"
      apply at_if (b := decide (("none" : Str) = "way"))
      · exact et_test (ed_op (ed_op (ed_var rfl) ed_int (u_ixT rfl)) ed_str u_eqS)
      · intro h; exact absurd h (by decide)
      intro _
      apply at_next
      apply up_of
      exact ⟨KP', _, _, hK', by omega, rfl, rfl⟩
    · have hd := due_way hst'
      rw [hd] at rowE
      obtain ⟨A, hA⟩ : ∃ A, A = st.2.1.map Dt.int := ⟨_, rfl⟩
      obtain ⟨Bp, hB⟩ : ∃ Bp, Bp = st.2.2.map passD := ⟨_, rfl⟩
      have hnm := guess_names hW (sl_gate hsl') g2 ((srtIS e.2).length - 1) (by have := sl_pos hsl'; omega) st hst'
      have shA : ShD 12 (.lst A) := by rw [hA]; exact sh_ints
      have shB : ShD 12 (.lst Bp) := by
        rw [hB]
        apply (sh_lst (n := 4) ?_).mono (by decide)
        intro d hd
        obtain ⟨q, hq, rfl⟩ := List.mem_map.mp hd
        apply (sh_tup (n := 0) ?_).mono (by decide)
        intro d hd
        simp at hd
        rcases hd with rfl | rfl
        · obtain ⟨g, hg, e1⟩ := List.mem_map.mp (hnm q hq)
          have := hW.nm g hg
          rw [e1] at this
          exact sh_str (nm_ok this)
        · exact sh_int
      walk_at "q"
      rw [← hA, ← hB]
      refine at_frzV (M1 := [(b, .lst Bp), (a, .lst A)]) (M2 := M.set jp (kp, .lst (KP'.map pairA))) 5 (d := .tup [.str "way", .int st.1, .ob a, .ob b]) (d' := .tup [.str "way", .int st.1, .lst A, .lst Bp]) rfl (Sees.ltup (SeesL.cons Sees.rfl (SeesL.cons Sees.rfl (SeesL.cons (Sees.lst (j := 1) rfl .rfl) (SeesL.cons (Sees.lst (j := 0) rfl .rfl) .rfl))))) ?_
      walk_at "q"
      walk_at "sq"
      apply at_if (b := false)
      · apply et_test
        apply ed_op (x := .tup [.str "way", .int st.1]) (y := .tup [.str "way", .int st.1])
        · exact ed_slT (ds := [.str "way", .int st.1, .lst A, .lst Bp]) (ed_var rfl) (show ¬(HT.sIx 4 0 none = 0 ∧ HT.sIx 4 4 (some 2) = 4) by decide) ep_none (ep_some ed_int)
        · exact rowE 1 _ rfl rfl rfl
        · exact u_neSame Sees.rfl Sees.rfl (sh_due (strOk_str "way"))
      · intro h; cases h
      intro _
      walk_at "nx"
      apply at_if (b := decide (("way" : Str) = "way"))
      · exact et_test (ed_op (ed_op (ed_var rfl) ed_int (u_ixT rfl)) ed_str u_eqS)
      · intro _
        have pE : ∀ (j : Int) (D : List Dt) {Γ : Gm} {M' : Sto}, Γ[5]? = some (some (.tup [.str "way", .int st.1, .lst A, .lst Bp])) → atI [Dt.str "way", .int st.1, .lst A, .lst Bp] j = some (.lst D) → EvD K Γ M' (tLst (tCons (tOp (rIxU K) (tVar 5) (tC (.int j))) (tCons (tCB (rListX K) (tCons (tOp (rIxU K) (tVar 5) (tC (.int j))) tNil)) tNil))) (pairA D) := fun j D Γ M' h h2 => by
          apply EvN.toD
          apply en_lst
          · apply ea_cons
            · exact ed_op (ed_var h) ed_int (u_ixT h2)
            apply ea_cons
            · apply EvN.toD
              apply en_cb (ea_cons (ed_op (ed_var h) ed_int (u_ixT h2)) ea_nil)
              exact c_list .frz
            exact ea_nil
          · walk_at "side"
        walk_at "sq"
        apply at_app jp (d := pairA A) (ed_var rfl) (sP KP') (pE 2 A rfl rfl) (by rw [List.length_map]; omega)
        rw [app, hset]
        walk_at "q"
        apply at_app jp (d := pairA Bp) (ed_var rfl) (sP _) (pE 3 Bp rfl rfl) (by rw [List.length_map, List.length_append]; show KP'.length + 1 < _; omega)
        rw [app, hset]
        walk_at "q"
        apply up_of
        refine ⟨KP' ++ [A] ++ [Bp], _, _, fun D hD => ?_, ?_, rfl, rfl⟩
        · rcases List.mem_append.mp hD with hD | hD
          · rcases List.mem_append.mp hD with hD | hD
            · exact hK' D hD
            · rw [List.mem_singleton.mp hD]; exact shA
          · rw [List.mem_singleton.mp hD]; exact shB
        · rw [List.length_append, List.length_append]
          show KP'.length + 1 + 1 ≤ _
          omega
      · intro h; exact absurd h (by decide)
  rintro Γ' M' ⟨KP', z4, z5, hK', hl', rfl, rfl⟩
  walk_at "q"
  apply at_ret ed_bl
  exact hQ _ _ (hR KP' hK' hl')
theorem ok_L_guesses_stand (c : Cxt K mg) : FnG P w K mg base (He.ga K "_law_guesses_stand") ["_law_net_here", "_law_own", "_law_dues", "_law_kept"] 7 (Vl.spT K (T_L_guesses_stand K)) := by
  obtain ⟨fd, F⟩ := F_L_guesses_stand c
  exact ⟨⟨fd, okF_L_guesses_stand c F, F.bindsN fun _ _ _ _ _ _ us hl => match us, hl with | [_, _, _, _], _ => rfl⟩, F.kp⟩
end
def T_Watch_seen (K : PySem.W.Frag) : TmV := fun ds M R X => ∃ (x : Dt) (kd : Addr) (W : WM) (j : Nat) (s : Str) (_ : ∀ e, W.lookup s = some e → ∃ i : Nat, M[i]? = some (e.1, .lst (e.2.map isD))), ds = [.inst (He.ga K "Watch") (watchF x kd), .str s] ∧ M[j]? = some (kd, .dct (keptK W)) ∧
  (match W.lookup s with | none => X (He.ga K "NoCar") M | some e => ∀ p, R (.ob p) ((p, .lst ((srtIS e.2).map isD)) :: M))
def N_Watch_seen : List Str := ["self", "car"]
theorem sc_Watch_seen : FnScope N_Watch_seen ["self", "car"] (defScope s_Watch_seen) := ⟨rfl, rfl, rfl, by decide +kernel, rfl, by decide +kernel, by decide +kernel⟩
section
variable {P : Program} {w : World} {K : PySem.W.Frag} {mg : Str → Option Value} {base : Heap}
theorem okF_Watch_seen {fd : FuncData} (c : Cxt K mg) (F : FunD K "seen" "Watch.seen" (defArgs s_Watch_seen) (defBody s_Watch_seen) (defScope s_Watch_seen) [] [] (He.ma K (He.ga K "Watch") "seen") fd) : FnOk P w K mg base (L2.CX P w) 1 (He.ma K (He.ga K "Watch") "seen") fd ["self", "car"] (Vl.spT K (T_Watch_seen K)) := by
  refine fnT F sc_Watch_seen (by decide) (fun ds M R X h => by obtain ⟨_, _, _, _, _, _, rfl, _⟩ := h; rfl) (fun cdv A outer s H E hr => ?_)
  have hu := hu_of hr
  have hu64 := hr.units
  refine ⟨_, (pss_cons (ps_if (pt_cmpR (kniU K rfl hu) (pv 1) (kfld K rfl (pv 0) rfl) (by rfl)) (pss_one (ps_raise rfl (takes_of rfl rfl rfl rfl) (pmk_own PySem.F.excBase_ValueError (x_NoCar c).1 (g_NoCar c) (x_NoCar c).2.1 (raises_own (x_NoCar c).2.2.1 (x_NoCar c).2.2.2) rfl))) pss_nil)
      (pss_one (ps_ret (pe_callB (ksortIS K rfl) (by rfl) (n_sorted c) (by decide +kernel) (pa_cons (pe_ix (kixU K rfl hu) (kfld K rfl (pv 0) rfl) (pv 1) (fun _ _ => rfl)) pa_nil))))), ?_⟩
  intro B G ds M R X Q ht hQ hX
  obtain ⟨x, kd, W, j, s, hc, rfl, hj, hR⟩ := ht
  change At K B G [some _, some _] M _
  have fld : ∀ {Γ : Gm} {M' : Sto}, Γ[0]? = some (some (.inst (He.ga K "Watch") (watchF x kd))) → EvD K Γ M' (tFld K (tVar 0) "kept") (.ob kd) := fun h => by
    apply ed_fld
    · exact ed_var h
    · exact cl_Watch c
    · exact na_Watch_kept c
    · rfl
  walk_at "sq"
  apply at_if (b := !(W.lookup s).isSome)
  · apply et_test
    rw [← kept_some]
    apply ed_op
    · walk_at "ev"
    · exact fld rfl
    · exact u_niD (.own hj) rfl
  · intro h
    cases q : W.lookup s with
    | some e => rw [q] at h; cases h
    | none =>
      rw [q] at hR
      exact at_raise (hX _ _ hR)
  · intro h
    walk_at "nx"
    cases q : W.lookup s with
    | none => rw [q] at h; cases h
    | some e =>
      rw [q] at hR
      obtain ⟨i, hi⟩ := hc e q
      apply at_retNw
      · apply en_cb
        · apply ea_cons
          · apply ed_op
            · exact fld rfl
            · walk_at "ev"
            · apply u_ixD (.own hj) (key := Sum.inr s) (z := .ob e.1) rfl
              rw [val_kept, q]; rfl
          · exact ea_nil
        · exact c_sortIS (.own hi)
      · exact fun p => hQ _ _ (hR p)
theorem ok_Watch_seen (c : Cxt K mg) : FnG P w K mg base (He.ma K (He.ga K "Watch") "seen") ["self", "car"] 1 (Vl.spT K (T_Watch_seen K)) := by
  obtain ⟨fd, F⟩ := F_Watch_seen c
  exact ⟨⟨fd, okF_Watch_seen c F, F.bindsN fun _ _ _ _ _ _ us hl => match us, hl with | [_, _], _ => rfl⟩, F.kp⟩
end
def T_toll_of (K : PySem.W.Frag) : TmV := fun ds M R _ => ∃ (x y z : Dt) (gs : List (Str × Bool)) (ls : List LineT) (kd : Addr) (W : WM) (j : Nat) (s : Str) (e : Addr × List (Int × Str)) (_ : WdOk gs ls 1) (_ : W.lookup s = some e ∧ SlOk (gs.map (·.1)) e.2) (_ : ∃ i : Nat, M[i]? = some (e.1, .lst (e.2.map isD))), ds = [.inst (He.ga K "Watch") (watchF (.inst (He.ga K "Net") (netF x y z)) kd), .str s] ∧ (M[j]? = some (kd, .dct (keptK W)) ∧ NetAt M x y z (netOf gs ls)) ∧
  R (tollD (tollO (dueW (netOf gs ls) W s))) M
def N_toll_of : List Str := ["watch", "car", "found"]
theorem sc_toll_of : FnScope N_toll_of ["watch", "car"] (defScope s_toll_of) := ⟨rfl, rfl, rfl, by decide +kernel, rfl, by decide +kernel, by decide +kernel⟩
section
variable {P : Program} {w : World} {K : PySem.W.Frag} {mg : Str → Option Value} {base : Heap}
theorem okF_toll_of {fd : FuncData} (c : Cxt K mg) (F : FunD K "toll_of" "toll_of" (defArgs s_toll_of) (defBody s_toll_of) (defScope s_toll_of) [] [] (He.ga K "toll_of") fd) : FnOk P w K mg base (L2.CX P w) 7 (He.ga K "toll_of") fd ["watch", "car"] (Vl.spT K (T_toll_of K)) := by
  obtain ⟨⟨fd_guess, G_guess, b_guess⟩, k_guess⟩ := ok_guess (P := P) (w := w) (base := base) c
  obtain ⟨⟨fd_Watch_seen, G_Watch_seen, b_Watch_seen⟩, k_Watch_seen⟩ := ok_Watch_seen (P := P) (w := w) (base := base) c
  refine fnT F sc_toll_of (by decide) (fun ds M R X h => by obtain ⟨_, _, _, _, _, _, _, _, _, _, _, _, _, rfl, _⟩ := h; rfl) (fun cdv A outer s H E hr => ?_)
  have hu := hu_of hr
  have hu64 := hr.units
  refine ⟨_, PSs.nox (pss_cons (ps_set (i := 2) sc_toll_of.nd rfl (Or.inl rfl) (pe_call G_guess (hr.mono (by decide)) (by rfl) (g_guess c) k_guess b_guess .nil passL (pa_cons (kfld K rfl (pv 0) rfl) (pa_cons (pe_meth (pv 0) (cl_Watch c) (m_Watch_seen c) G_Watch_seen (hr.mono (by decide)) b_Watch_seen .nil passL (pa_cons (pv 1) pa_nil)) pa_nil))))
      (pss_cons (ps_if (pt_cmpR (keqU K rfl hu64) (pe_ix (kixU K rfl hu) (pv 2) pe_int (fun _ _ => rfl)) pe_str (nomark _)) (pss_one (ps_ret pe_non)) pss_nil)
      (pss_one (ps_ret (pe_ix (kixU K rfl hu) (pv 2) pe_int (fun _ _ => rfl)))))), ?_⟩
  intro B G ds M R X Q ht hQ hX
  obtain ⟨x, y, z, gs, ls, kd, W, j, s, e, hW, ⟨he, hsl⟩, ⟨ie, hie⟩, rfl, ⟨hj, hN⟩, hR⟩ := ht
  change At K B G [some _, some _, none] M _
  obtain ⟨g1, g2, g3, g4⟩ := guess12 hW hsl
  have hdw : dueW (netOf gs ls) W s = dueOf (netOf gs ls) (srtIS e.2) := by unfold dueW; rw [slOf_some he]
  rw [hdw] at hR
  walk_at "sq"
  apply at_asgX (P := fun d M' => (∃ k : Nat, dueOf (netOf gs ls) (srtIS e.2) = .inl k ∧ d = .tup [.str "none", .int (k : Int)] ∧ M' = M) ∨ (∃ st a b, dueOf (netOf gs ls) (srtIS e.2) = .inr st ∧ (∃ p q, d = .tup [.str "way", .int st, .ob a, .ob b] ∧ M' = (b, p) :: (a, q) :: M)))
  · apply evx_call (PX := fun _ _ => False)
    · apply ea_cons
      · apply ed_fld
        · exact ed_var rfl
        · exact cl_Watch c
        · exact na_Watch_net c
        · rfl
      apply ea_cons
      · apply EvN.toD
        apply evn_meth (ed_var rfl) rfl (ea_cons (ed_var rfl) ea_nil)
        refine ⟨_, kd, W, j, s, fun e' h' => ?_, rfl, hj, ?_⟩
        · rw [he] at h'; cases h'; exact ⟨ie, hie⟩
        · rw [he]
          exact fun p => ⟨p, rfl, rfl⟩
      exact ea_nil
    · refine ⟨x, y, z, _, netOf gs ls, srtIS e.2, rfl, ⟨hN, .frz, g4⟩, fun e h => (by rw [g1] at h; cases h), fun _ => ⟨g2, g3, fun k a b c => .inl ⟨k, due_none a b c, rfl, rfl⟩, fun st h a b => .inr ⟨st.1, a, b, due_way h, _, _, rfl, rfl⟩⟩⟩
    · exact fun _ _ z => z.elim
  rintro d M' (⟨k, hd, rfl, rfl⟩ | ⟨st, a, b, hd, p, q, rfl, rfl⟩)
  · rw [hd] at hR
    walk_at "q"
    walk_at "sq"
    apply at_if (b := decide (("none" : Str) = "none"))
    · exact et_test (ed_op (ed_op (ed_var rfl) ed_int (u_ixT rfl)) ed_str u_eqS)
    · intro _
      apply at_ret ed_non
      exact hQ _ _ hR
    · intro h; exact absurd h (by decide)
  · rw [hd] at hR
    walk_at "q"
    walk_at "sq"
    apply at_if (b := decide (("way" : Str) = "none"))
    · exact et_test (ed_op (ed_op (ed_var rfl) ed_int (u_ixT rfl)) ed_str u_eqS)
    · intro h; exact absurd h (by decide)
    intro _
    walk_at "nx"
    apply at_ret (d := .int st)
    · exact ed_op (ed_var rfl) ed_int (u_ixT rfl)
    · exact (hQ _ _ hR).cells ((List.sublist_cons_self _ _).trans (List.sublist_cons_self _ _))
theorem ok_toll_of (c : Cxt K mg) : FnG P w K mg base (He.ga K "toll_of") ["watch", "car"] 7 (Vl.spT K (T_toll_of K)) := by
  obtain ⟨fd, F⟩ := F_toll_of c
  exact ⟨⟨fd, okF_toll_of c F, F.bindsN fun _ _ _ _ _ _ us hl => match us, hl with | [_, _], _ => rfl⟩, F.kp⟩
end
def T_Watch_cars (K : PySem.W.Frag) : TmV := fun ds M R _ => ∃ (x : Dt) (kd : Addr) (W : WM) (j : Nat) (_ : W.length < 64), ds = [.inst (He.ga K "Watch") (watchF x kd)] ∧ M[j]? = some (kd, .dct (keptK W)) ∧ ∀ p, R (.ob p) ((p, .lst ((srtS (W.map (·.1))).map Dt.str)) :: M)
def N_Watch_cars : List Str := ["self"]
theorem sc_Watch_cars : FnScope N_Watch_cars ["self"] (defScope s_Watch_cars) := ⟨rfl, rfl, rfl, by decide +kernel, rfl, by decide +kernel, by decide +kernel⟩
section
variable {P : Program} {w : World} {K : PySem.W.Frag} {mg : Str → Option Value} {base : Heap}
theorem okF_Watch_cars {fd : FuncData} (c : Cxt K mg) (F : FunD K "cars" "Watch.cars" (defArgs s_Watch_cars) (defBody s_Watch_cars) (defScope s_Watch_cars) [] [] (He.ma K (He.ga K "Watch") "cars") fd) : FnOk P w K mg base (L2.CX P w) 1 (He.ma K (He.ga K "Watch") "cars") fd ["self"] (Vl.spT K (T_Watch_cars K)) := by
  refine fnT F sc_Watch_cars (by decide) (fun ds M R X h => by obtain ⟨_, _, _, _, _, rfl, _⟩ := h; rfl) (fun cdv A outer s H E hr => ?_)
  have hu := hu_of hr
  have hu64 := hr.units
  refine ⟨_, PSs.nox (pss_one (ps_ret (pe_callB (ksortD rfl) (by rfl) (n_sorted c) (by decide +kernel) (pa_cons (kfld K rfl (pv 0) rfl) pa_nil)))), ?_⟩
  intro B G ds M R X Q ht hQ hX
  obtain ⟨x, kd, W, j, hl, rfl, hj, hR⟩ := ht
  change At K B G [some _] M _
  apply at_retNw
  · apply en_cb
    · apply ea_cons
      · apply ed_fld
        · walk_at "ev"
        · exact cl_Watch c
        · exact na_Watch_kept c
        · rfl
      · exact ea_nil
    · exact c_sortD (.own hj) (kept_keys W) (by rw [List.length_map]; exact hl)
  · exact fun p => hQ _ _ (hR p)
theorem ok_Watch_cars (c : Cxt K mg) : FnG P w K mg base (He.ma K (He.ga K "Watch") "cars") ["self"] 1 (Vl.spT K (T_Watch_cars K)) := by
  obtain ⟨fd, F⟩ := F_Watch_cars c
  exact ⟨⟨fd, okF_Watch_cars c F, F.bindsN fun _ _ _ _ _ _ us hl => match us, hl with | [_], _ => rfl⟩, F.kp⟩
end
def T_bill (K : PySem.W.Frag) : TmV := fun ds M R _ => ∃ (x y z : Dt) (gs : List (Str × Bool)) (ls : List LineT) (kd : Addr) (W : WM) (j : Nat) (_ : WdOk gs ls 1) (_ : W.length < 64 ∧ ∀ e ∈ W, SlOk (gs.map (·.1)) e.2.2) (_ : ∀ e ∈ W, ∃ i : Nat, M[i]? = some (wCell e)), ds = [.inst (He.ga K "Watch") (watchF (.inst (He.ga K "Net") (netF x y z)) kd)] ∧ (M[j]? = some (kd, .dct (keptK W)) ∧ NetAt M x y z (netOf gs ls)) ∧
  ∀ p, R (.ob p) ((p, .lst ((srtS (W.map (·.1))).map (rowW (netOf gs ls) W))) :: M)
def N_bill : List Str := ["watch", "car"]
theorem sc_bill : FnScope N_bill ["watch"] (defScope s_bill) := ⟨rfl, rfl, rfl, by decide +kernel, rfl, by decide +kernel, by decide +kernel⟩
section
variable {P : Program} {w : World} {K : PySem.W.Frag} {mg : Str → Option Value} {base : Heap}
theorem okF_bill {fd : FuncData} (c : Cxt K mg) (F : FunD K "bill" "bill" (defArgs s_bill) (defBody s_bill) (defScope s_bill) [] [] (He.ga K "bill") fd) : FnOk P w K mg base (L2.CX P w) 8 (He.ga K "bill") fd ["watch"] (Vl.spT K (T_bill K)) := by
  obtain ⟨⟨fd_toll_of, G_toll_of, b_toll_of⟩, k_toll_of⟩ := ok_toll_of (P := P) (w := w) (base := base) c
  obtain ⟨⟨fd_Watch_cars, G_Watch_cars, b_Watch_cars⟩, k_Watch_cars⟩ := ok_Watch_cars (P := P) (w := w) (base := base) c
  refine fnT F sc_bill (by decide) (fun ds M R X h => by obtain ⟨_, _, _, _, _, _, _, _, _, _, _, rfl, _⟩ := h; rfl) (fun cdv A outer s H E hr => ?_)
  have hu := hu_of hr
  have hu64 := hr.units
  refine ⟨_, PSs.nox (pss_one (ps_ret (pe_lc (own := [("car", 1)]) (g := gName 1) (tt := tYes) rfl sc_bill.nd (kseqU K rfl (pe_meth0 (pv 0) (cl_Watch c) (m_Watch_cars c) G_Watch_cars (hr.mono (by decide)) b_Watch_cars .nil passL)) (blkOk_by (own := [("car", 1)]) (N := N_bill) (sc := defScope s_bill) (by decide +kernel)) (fun _ _ _ _ _ => pg_name (i := 1) sc_bill.nd rfl (Or.inl rfl)) (fun _ _ _ _ _ => pts_nil) (fun _ _ _ _ _ => (pe_tup (pa_cons (pv 1) (pa_cons (pe_call G_toll_of (hr.mono (by decide)) (by rfl) (g_toll_of c) k_toll_of b_toll_of .nil passL (pa_cons (pv 0) (pa_cons (pv 1) pa_nil))) pa_nil))))))), ?_⟩
  intro B G ds M R X Q ht hQ hX
  obtain ⟨x, y, z, gs, ls, kd, W, j, hW, ⟨hWl, hsl⟩, hc, rfl, ⟨hj, hN⟩, hR⟩ := ht
  change At K B G [some _, none] M _
  have e0 : (srtS (W.map (·.1))).map (rowW (netOf gs ls) W) = outL (fun _ => true) (rowW (netOf gs ls) W) (srtS (W.map (·.1))) := by rw [outL_all]
  rw [e0] at hR
  have hsz : (srtS (W.map (·.1))).length ≤ 10000000 := by rw [(srtS_perm _).length_eq, List.length_map]; omega
  apply at_retNw
  · apply en_lc (srtS (W.map (·.1))) Dt.str (x0 := .lst ((srtS (W.map (·.1))).map Dt.str))
    · apply EvN.toD
      apply evn_meth (ed_var rfl) rfl ea_nil
      exact ⟨_, kd, W, j, hWl, rfl, hj, fun p => ⟨p, rfl, rfl⟩⟩
    · exact .inl .frz
    · exact hsz
    · intro i s hs
      refine ⟨et_yes, fun _ => ?_⟩
      walk_at "q"
      have hm := List.mem_of_getElem? hs
      obtain ⟨e, he⟩ := key_some hm
      apply ed_tup
      · apply ea_cons (ed_var rfl)
        apply ea_cons
        · apply evd_call (ea_cons (ed_var rfl) (ea_cons (ed_var rfl) ea_nil))
          exact ⟨x, y, z, gs, ls, kd, W, j, s, e, hW, ⟨he, hsl _ (lookup_mem he)⟩, hc _ (lookup_mem he), rfl, ⟨hj, hN⟩, rfl, rfl⟩
        exact ea_nil
      · walk_at "side"
  · exact fun p => hQ _ _ (hR p)
theorem ok_bill (c : Cxt K mg) : FnG P w K mg base (He.ga K "bill") ["watch"] 8 (Vl.spT K (T_bill K)) := by
  obtain ⟨fd, F⟩ := F_bill c
  exact ⟨⟨fd, okF_bill c F, F.bindsN fun _ _ _ _ _ _ us hl => match us, hl with | [_], _ => rfl⟩, F.kp⟩
end
def T_total (K : PySem.W.Frag) : TmV := fun ds M R _ => ∃ (x y z : Dt) (gs : List (Str × Bool)) (ls : List LineT) (kd : Addr) (W : WM) (j : Nat) (_ : WdOk gs ls 1) (_ : W.length < 64 ∧ ∀ e ∈ W, SlOk (gs.map (·.1)) e.2.2) (_ : ∀ e ∈ W, ∃ i : Nat, M[i]? = some (wCell e)), ds = [.inst (He.ga K "Watch") (watchF (.inst (He.ga K "Net") (netF x y z)) kd)] ∧ (M[j]? = some (kd, .dct (keptK W)) ∧ NetAt M x y z (netOf gs ls)) ∧
  R (.int (sumW (netOf gs ls) W (srtS (W.map (·.1))))) M
def N_total : List Str := ["watch", "pair"]
theorem sc_total : FnScope N_total ["watch"] (defScope s_total) := ⟨rfl, rfl, rfl, by decide +kernel, rfl, by decide +kernel, by decide +kernel⟩
section
variable {P : Program} {w : World} {K : PySem.W.Frag} {mg : Str → Option Value} {base : Heap}
theorem okF_total {fd : FuncData} (c : Cxt K mg) (F : FunD K "total" "total" (defArgs s_total) (defBody s_total) (defScope s_total) [] [] (He.ga K "total") fd) : FnOk P w K mg base (L2.CX P w) 9 (He.ga K "total") fd ["watch"] (Vl.spT K (T_total K)) := by
  obtain ⟨⟨fd_bill, G_bill, b_bill⟩, k_bill⟩ := ok_bill (P := P) (w := w) (base := base) c
  refine fnT F sc_total (by decide) (fun ds M R X h => by obtain ⟨_, _, _, _, _, _, _, _, _, _, _, rfl, _⟩ := h; rfl) (fun cdv A outer s H E hr => ?_)
  have hu := hu_of hr
  have hu64 := hr.units
  refine ⟨_, PSs.nox (pss_one (ps_ret (pe_callB (ksum K rfl rfl) (by rfl) (n_sum c) (by decide +kernel) (pa_cons (pe_lc (own := [("pair", 1)]) (g := gName 1) rfl sc_total.nd (kseqU K rfl (pe_call G_bill (hr.mono (by decide)) (by rfl) (g_bill c) k_bill b_bill .nil passL (pa_cons (pv 0) pa_nil))) (blkOk_by (own := [("pair", 1)]) (N := N_total) (sc := defScope s_total) (by decide +kernel)) (fun _ _ _ _ _ => pg_name (i := 1) sc_total.nd rfl (Or.inl rfl)) (fun _ _ _ _ _ => (pts_one (pt_cmp (pc_notN (pe_ix (kixU K rfl hu) (pv 1) pe_int (fun _ _ => rfl))) rfl))) (fun _ _ _ _ _ => (pe_ix (kixU K rfl hu) (pv 1) pe_int (fun _ _ => rfl)))) pa_nil)))), ?_⟩
  intro B G ds M R X Q ht hQ hX
  obtain ⟨x, y, z, gs, ls, kd, W, j, hW, hsl, hc, rfl, ⟨hj, hN⟩, hR⟩ := ht
  change At K B G [some _, none] M _
  have hsz : (srtS (W.map (·.1))).length ≤ 10000000 := by rw [(srtS_perm _).length_eq, List.length_map]; have := hsl.1; omega
  apply at_ret (d := .int (sumW (netOf gs ls) W (srtS (W.map (·.1)))))
  · apply ed_cb (xs := [.lst (((srtS (W.map (·.1))).filterMap fun s => tollO (dueW (netOf gs ls) W s)).map Dt.int)])
    · apply ea_cons
      · apply EvN.toD
        rw [← sum_out]
        apply en_lc (srtS (W.map (·.1))) (rowW (netOf gs ls) W) (x0 := .lst ((srtS (W.map (·.1))).map (rowW (netOf gs ls) W)))
        · apply EvN.toD
          apply evn_call (ea_cons (ed_var rfl) ea_nil)
          exact ⟨x, y, z, gs, ls, kd, W, j, hW, hsl, hc, rfl, ⟨hj, hN⟩, fun p => ⟨p, rfl, rfl⟩⟩
        · exact .inl .frz
        · exact hsz
        · intro i s hs
          have r1 : ∀ {Γ : Gm} {M' : Sto}, Γ[1]? = some (some (rowW (netOf gs ls) W s)) → EvD K Γ M' (tOp (rIxU K) (tVar 1) (tC (.int 1))) (tollD (tollO (dueW (netOf gs ls) W s))) := fun h => ed_op (x := .tup [.str s, tollD (tollO (dueW (netOf gs ls) W s))]) (ed_var h) ed_int (u_ixT rfl)
          exact ⟨et_B (ed_notN (r1 rfl)), fun _ => r1 rfl⟩
      · exact ea_nil
    · exact c_sum .frz
  · exact hQ _ _ hR
theorem ok_total (c : Cxt K mg) : FnG P w K mg base (He.ga K "total") ["watch"] 9 (Vl.spT K (T_total K)) := by
  obtain ⟨fd, F⟩ := F_total c
  exact ⟨⟨fd, okF_total c F, F.bindsN fun _ _ _ _ _ _ us hl => match us, hl with | [_], _ => rfl⟩, F.kp⟩
end
def wholeD : Dt → Bool
  | .int _ => true
  | _ => false
def T_L_whole : TmV := fun ds M R _ => ∃ (d : Dt) (n : String), ds = [d] ∧ tyD d = some n ∧ R (.bl (wholeD d)) M
theorem whole_isi {K : PySem.W.Frag} {M : Sto} {d : Dt} {n : String} (h : tyD d = some n) : OpC K M (rIsi K) [d, .ty "int"] (.bl (decide (n = "int") || decide (n = "bool"))) := by
  cases d <;> cases h <;> exact c_isi rfl (by decide +kernel)
theorem whole_isb {K : PySem.W.Frag} {M : Sto} {d : Dt} {n : String} (h : tyD d = some n) : OpC K M (rIsi K) [d, .ty "bool"] (.bl (decide (n = "bool"))) := by
  cases d <;> cases h <;> exact c_isi rfl (by decide +kernel)
theorem whole_eq {d : Dt} {n : String} (h : tyD d = some n) : ((decide (n = "int") || decide (n = "bool")) && !decide (n = "bool")) = wholeD d := by
  cases d <;> cases h <;> rfl
def N_L_whole : List Str := ["_law_found"]
theorem sc_L_whole : FnScope N_L_whole ["_law_found"] (defScope s_L_whole) := ⟨rfl, rfl, rfl, by decide +kernel, rfl, by decide +kernel, by decide +kernel⟩
section
variable {P : Program} {w : World} {K : PySem.W.Frag} {mg : Str → Option Value} {base : Heap}
theorem okF_L_whole {fd : FuncData} (c : Cxt K mg) (F : FunD K "_law_whole" "_law_whole" (defArgs s_L_whole) (defBody s_L_whole) (defScope s_L_whole) [] [] (He.ga K "_law_whole") fd) : FnOk P w K mg base (L2.CX P w) 1 (He.ga K "_law_whole") fd ["_law_found"] (Vl.spT K T_L_whole) := by
  refine fnT F sc_L_whole (by decide) (fun ds M R X h => by obtain ⟨_, _, rfl, _⟩ := h; rfl) (fun cdv A outer s H E hr => ?_)
  have hu := hu_of hr
  have hu64 := hr.units
  refine ⟨_, PSs.nox (pss_one (ps_ret (pe_and (pe_callB (kisi K rfl) (by rfl) (n_isinstance c) (by decide +kernel) (pa_cons (pv 0) (pa_cons (pe_bltn (by rfl) (n_int c) (by decide +kernel) rfl (v := .ty "int")) pa_nil))) (pe_one (pe_not (pe_callB (kisi K rfl) (by rfl) (n_isinstance c) (by decide +kernel) (pa_cons (pv 0) (pa_cons (pe_bltn (by rfl) (n_bool c) (by decide +kernel) rfl (v := .ty "bool")) pa_nil)))))))), ?_⟩
  intro B G ds M R X Q ht hQ hX
  obtain ⟨d, n, rfl, h, hR⟩ := ht
  change At K B G [some _] M _
  apply at_ret
  · apply ed_andV
    · apply ed_cb
      · walk_at "ea"
      · exact whole_isi h
    · intro _
      apply ed_notV
      apply ed_cb
      · walk_at "ea"
      · exact whole_isb h
  · rw [whole_eq h]
    exact hQ _ _ hR
theorem ok_L_whole (c : Cxt K mg) : FnG P w K mg base (He.ga K "_law_whole") ["_law_found"] 1 (Vl.spT K T_L_whole) := by
  obtain ⟨fd, F⟩ := F_L_whole c
  exact ⟨⟨fd, okF_L_whole c F, F.bindsN fun _ _ _ _ _ _ us hl => match us, hl with | [_], _ => rfl⟩, F.kp⟩
end
def T_L_bill_stands (K : PySem.W.Frag) : TmV := fun ds M R _ => ∃ (x y z : Dt) (gs : List (Str × Bool)) (ls : List LineT) (kd kp : Addr) (W : WM) (jk jp : Nat) (KP : List (List Dt)) (_ : WdOk gs ls 1 ∧ (W.length < 64 ∧ ∀ e ∈ W, SlOk (gs.map (·.1)) e.2.2 ∧ PyData.strOk e.1 = true) ∧ (∀ KP' : List (List Dt), (M.set jp (kp, .lst (KP'.map pairA)))[jk]? = some (kd, .dct (keptK W)) ∧ NetAt (M.set jp (kp, .lst (KP'.map pairA))) x y z (netOf gs ls) ∧ ∀ e ∈ W, ∃ i : Nat, (M.set jp (kp, .lst (KP'.map pairA)))[i]? = some (wCell e)) ∧ M[jp]? = some (kp, .lst (KP.map pairA)) ∧ (∀ A ∈ KP, ShD 12 (.lst A)) ∧ KP.length ≤ 1000000),
    ds = [.inst (He.ga K "Watch") (watchF (.inst (He.ga K "Net") (netF x y z)) kd), .lst ((srtS (W.map (·.1))).map (rowW (netOf gs ls) W)), .ob kp] ∧ True ∧
  ∀ KP' : List (List Dt), (∀ A ∈ KP', ShD 12 (.lst A)) → KP'.length ≤ KP.length + 1 → R (.bl true) (M.set jp (kp, .lst (KP'.map pairA)))
theorem toll_ty (o : Option Int) : (match o with | none => (Dt.non) | some t => .int t) = tollD o := by cases o <;> rfl
theorem whole_toll (t : Int) : wholeD (.int t) = true := rfl
def N_L_bill_stands : List Str := ["_law_watch", "_law_dues", "_law_kept", "_law_found", "_law_pair", "_law_sums"]
theorem sc_L_bill_stands : FnScope N_L_bill_stands ["_law_watch", "_law_dues", "_law_kept"] (defScope s_L_bill_stands) := ⟨rfl, rfl, rfl, by decide +kernel, rfl, by decide +kernel, by decide +kernel⟩
section
variable {P : Program} {w : World} {K : PySem.W.Frag} {mg : Str → Option Value} {base : Heap}
theorem okF_L_bill_stands {fd : FuncData} (c : Cxt K mg) (F : FunD K "_law_bill_stands" "_law_bill_stands" (defArgs s_L_bill_stands) (defBody s_L_bill_stands) (defScope s_L_bill_stands) [] [] (He.ga K "_law_bill_stands") fd) : FnOk P w K mg base (L2.CX P w) 10 (He.ga K "_law_bill_stands") fd ["_law_watch", "_law_dues", "_law_kept"] (Vl.spT K (T_L_bill_stands K)) := by
  obtain ⟨⟨fd_bill, G_bill, b_bill⟩, k_bill⟩ := ok_bill (P := P) (w := w) (base := base) c
  obtain ⟨⟨fd_total, G_total, b_total⟩, k_total⟩ := ok_total (P := P) (w := w) (base := base) c
  obtain ⟨⟨fd_L_whole, G_L_whole, b_L_whole⟩, k_L_whole⟩ := ok_L_whole (P := P) (w := w) (base := base) c
  refine fnT F sc_L_bill_stands (by decide) (fun ds M R X h => by obtain ⟨_, _, _, _, _, _, _, _, _, _, _, _, rfl, _⟩ := h; rfl) (fun cdv A outer s H E hr => ?_)
  have hu := hu_of hr
  have hu64 := hr.units
  refine ⟨_, PSs.nox (pss_cons (ps_set (i := 3) sc_L_bill_stands.nd rfl (Or.inl rfl) (pe_call G_bill (hr.mono (by decide)) (by rfl) (g_bill c) k_bill b_bill .nil passL (pa_cons (pv 0) pa_nil)))
      (pss_cons (ps_if (PW.pt (pw_or (pt_not (pt_val (pe_callB (kisi K rfl) (by rfl) (n_isinstance c) (by decide +kernel) (pa_cons (pv 3) (pa_cons (pe_bltn (by rfl) (n_list c) (by decide +kernel) rfl (v := .ty "list")) pa_nil))))) (pw_or1 (pt_cmpR (kneU K rfl hu64) (pv 3) (pv 1) (nomark _))))) (pss_one (ps_ret pe_bl)) pss_nil)
      (pss_cons (ps_for PassesOwn.never rfl (kseqU K rfl (pv 3)) (pg_name (i := 4) sc_L_bill_stands.nd rfl (Or.inl rfl)) (pss_one (ps_if (PW.pt (pw_or (pt_not (pt_val (pe_callB (kisi K rfl) (by rfl) (n_isinstance c) (by decide +kernel) (pa_cons (pv 4) (pa_cons (pe_bltn (by rfl) (n_tuple c) (by decide +kernel) rfl (v := .ty "tuple")) pa_nil))))) (pw_or1 (PW.pt (pw_and (pt_cmp (pc_notN (pe_ix (kixU K rfl hu) (pv 4) pe_int (fun _ _ => rfl))) rfl) (pw_and1 (pt_not (pt_val (pe_call G_L_whole (hr.mono (by decide)) (by rfl) (g_L_whole c) k_L_whole b_L_whole .nil passL (pa_cons (pe_ix (kixU K rfl hu) (pv 4) pe_int (fun _ _ => rfl)) pa_nil)))))))))) (pss_one (ps_ret pe_bl)) pss_nil)))
      (pss_cons (ps_if (pt_cmpR (keqU K rfl hu64) (pe_op op_mod (pe_callB (klenU K rfl) (by rfl) (n_len c) PySem.boot_len (pa_cons (pv 2) pa_nil)) pe_int) pe_int (nomark _)) (pss_one (ps_expr (kbm K rfl PySem.F.plainAttrs_list PySem.F.slot_list_append PySem.F.type_list_append (mt_append) (pv 3) (pa_cons (pe_tup (pa_cons pe_str (pa_cons pe_int pa_nil))) pa_nil)))) pss_nil)
      (pss_cons (ps_expr (kbm K rfl PySem.F.plainAttrs_list PySem.F.slot_list_append PySem.F.type_list_append (mt_append) (pv 2) (pa_cons (pe_lst (pa_cons (pv 3) (pa_cons (pe_callTy (klistX K rfl) (by rfl) (n_list c) (by decide +kernel) (pa_cons (pv 3) pa_nil)) pa_nil))) pa_nil)))
      (pss_cons (ps_set (i := 5) sc_L_bill_stands.nd rfl (Or.inl rfl) (pe_call G_total (hr.mono (by decide)) (by rfl) (g_total c) k_total b_total .nil passL (pa_cons (pv 0) pa_nil)))
      (pss_one (ps_ret (pe_and (pe_call G_L_whole (hr.mono (by decide)) (by rfl) (g_L_whole c) k_L_whole b_L_whole .nil passL (pa_cons (pv 5) pa_nil)) (pe_one (pe_cmpR (keqU K rfl hu64) (pv 5) (pe_callB (ksum K rfl rfl) (by rfl) (n_sum c) (by decide +kernel) (pa_cons (pe_lc (own := [("_law_pair", 4)]) (g := gName 4) rfl sc_L_bill_stands.nd (kseqU K rfl (pv 1)) (blkOk_by (own := [("_law_pair", 4)]) (N := N_L_bill_stands) (sc := defScope s_L_bill_stands) (by decide +kernel)) (fun _ _ _ _ _ => pg_name (i := 4) sc_L_bill_stands.nd rfl (Or.inl rfl)) (fun _ _ _ _ _ => (pts_one (pt_cmp (pc_notN (pe_ix (kixU K rfl hu) (pv 4) pe_int (fun _ _ => rfl))) rfl))) (fun _ _ _ _ _ => (pe_ix (kixU K rfl hu) (pv 4) pe_int (fun _ _ => rfl)))) pa_nil)) (nomark _)))))))))))), ?_⟩
  intro B G ds M R X Q ht hQ hX
  obtain ⟨x, y, z, gs, ls, kd, kp, W, jk, jp, KP, ⟨hW, ⟨hWl, hsl⟩, hst, hjp, hKP, hlen⟩, rfl, _, hR⟩ := ht
  change At K B G [some _, some _, some _, none, none, none] M _
  have hM0 : M = M.set jp (kp, .lst (KP.map pairA)) := (set_self hjp).symm
  have sP : ∀ (KP' : List (List Dt)), (M.set jp (kp, .lst (KP'.map pairA)))[jp]? = some (kp, .lst (KP'.map pairA)) := fun KP' => set_same hjp
  have hset : ∀ (KP' KP2 : List (List Dt)), (M.set jp (kp, .lst (KP'.map pairA))).set jp (kp, .lst (KP2.map pairA)) = M.set jp (kp, .lst (KP2.map pairA)) := fun KP' KP2 => List.set_set _
  have app : ∀ (KP' : List (List Dt)) (A : List Dt), KP'.map pairA ++ [pairA A] = (KP' ++ [A]).map pairA := fun KP' A => by rw [List.map_append]; rfl
  obtain ⟨h1, h2, h3⟩ := hst KP
  rw [← hM0] at h1 h2 h3
  have hsz : (srtS (W.map (·.1))).length < 64 := by rw [(srtS_perm _).length_eq, List.length_map]; exact hWl
  have hks : ∀ q ∈ srtS (W.map (·.1)), PyData.strOk q = true := fun q hq => by
    have := (srtS_perm _).mem_iff.mp hq
    obtain ⟨e, he, rfl⟩ := List.mem_map.mp this
    exact (hsl e he).2
  have shR : ∀ d ∈ (srtS (W.map (·.1))).map (rowW (netOf gs ls) W), ShD 11 d := fun d hd => by
    obtain ⟨s, hs, rfl⟩ := List.mem_map.mp hd
    apply (sh_tup (n := 0) ?_).mono (by decide)
    intro d hd
    simp at hd
    rcases hd with rfl | rfl
    · exact sh_str (hks s hs)
    · cases tollO (dueW (netOf gs ls) W s) with
      | none => exact sh_non
      | some t => exact sh_int
  have hsum : ∀ {Γ : Gm} {M' : Sto}, Γ[1]? = some (some (.lst ((srtS (W.map (·.1))).map (rowW (netOf gs ls) W)))) → Γ.length = 6 → True := fun _ _ => trivial
  generalize hRW : (srtS (W.map (·.1))).map (rowW (netOf gs ls) W) = RW at shR hsum
  have hRl : RW.length < 64 := by rw [← hRW, List.length_map]; exact hsz
  walk_at "sq"
  apply at_asgN (o := .lst RW)
  · apply evn_call (ea_cons (ed_var rfl) ea_nil)
    exact ⟨x, y, z, gs, ls, kd, W, jk, hW, ⟨hWl, fun e he => (hsl e he).1⟩, h3, rfl, ⟨h1, h2⟩, fun p => ⟨p, rfl, by rw [hRW]⟩⟩
  intro p
  walk_at "q"
  walk_at "sq"
  apply at_if (b := (!true) || false)
  · apply et_or
    · apply et_not
      apply et_B
      apply ed_cb
      · exact ea_cons (ed_var rfl) (ea_cons ed_ty ea_nil)
      · exact c_isiL (.own (j := 0) rfl) rfl
    · intro _
      apply et_test
      apply ed_op
      · exact ed_var rfl
      · exact ed_var rfl
      · exact u_neSame (Sees.lst (j := 0) rfl SeesL.rfl) Sees.rfl ((sh_lst (n := 11) shR).mono (by decide))
  · intro h; cases h
  intro _
  walk_at "nx"
  walk_at "sq"
  apply at_forG (ds := RW) (I := fun i Γ' M' => ∃ z4, Γ' = [some (.inst (He.ga K "Watch") (watchF (.inst (He.ga K "Net") (netF x y z)) kd)), some (.lst RW), some (.ob kp), some (.ob p), z4, none] ∧ M' = (p, .lst RW) :: M)
  · exact ed_var rfl
  · exact .own (j := 0) rfl
  · exact ⟨_, rfl, rfl⟩
  · rintro i Γ' M' ⟨z4, rfl, rfl⟩
    exact .own (j := 0) rfl
  · rintro G' hle i d Γ' M' hd ⟨z4, rfl, rfl⟩
    rw [← hRW, List.getElem?_map] at hd
    obtain ⟨s, hs, rfl⟩ := Option.map_eq_some_iff.mp hd
    apply atg_name
    walk_at "q"
    have r1 : ∀ {Γ : Gm} {M' : Sto}, Γ[4]? = some (some (rowW (netOf gs ls) W s)) → EvD K Γ M' (tOp (rIxU K) (tVar 4) (tC (.int 1))) (tollD (tollO (dueW (netOf gs ls) W s))) := fun h => ed_op (x := .tup [.str s, tollD (tollO (dueW (netOf gs ls) W s))]) (ed_var h) ed_int (u_ixT rfl)
    generalize htt : tollO (dueW (netOf gs ls) W s) = tt at r1
    apply at_if (b := (!true) || ((!(tollD tt).isNon) && false))
    · apply et_or
      · apply et_not
        apply et_B
        apply ed_cb
        · exact ea_cons (ed_var rfl) (ea_cons ed_ty ea_nil)
        · exact c_isi rfl rfl
      · intro _
        apply et_and
        · exact et_B (ed_notN (r1 rfl))
        · intro hn
          cases tt with
          | none => cases hn
          | some t =>
            apply et_not (a := true)
            apply et_B
            apply evd_call (ea_cons (r1 rfl) ea_nil)
            exact ⟨_, "int", rfl, rfl, rfl, rfl⟩
    · intro h; rw [Bool.and_false] at h; cases h
    intro _
    apply at_next
    apply up_of
    exact ⟨_, rfl, rfl⟩
  rintro Γ' M' ⟨z4, rfl, rfl⟩
  walk_at "q"
  walk_at "sq"
  have hzz : PyData.strOk "zz" = true := strOk_str "zz"
  apply at_join (fun Γ' M' => ∃ A : List Dt, ShD 12 (.lst A) ∧ A.length ≤ 100 ∧ Γ' = [some (.inst (He.ga K "Watch") (watchF (.inst (He.ga K "Net") (netF x y z)) kd)), some (.lst RW), some (.ob kp), some (.ob p), z4, none] ∧ M' = (p, .lst A) :: M)
  · intro N hN
    apply at_if (b := decide (((KP.map pairA).length : Int) % 3 = 1))
    · apply et_test
      apply ed_op
      · apply ed_op
        · apply ed_cb
          · exact ea_cons (ed_var rfl) ea_nil
          · exact u_lenL (Lst.own hjp).push
        · exact ed_int
        · apply op2_I; decide
      · exact ed_int
      · exact u_eqI
    · intro _
      apply at_app 0 (d := .tup [.str "zz", .int 5]) (ed_var rfl) rfl
      · exact ed_tup (ea_cons ed_str (ea_cons ed_int ea_nil)) (by walk_at "side")
      · omega
      apply hN
      refine ⟨RW ++ [.tup [.str "zz", .int 5]], sh_lst fun d hd => ?_, by rw [List.length_append]; show RW.length + 1 ≤ 100; omega, rfl, rfl⟩
      rcases List.mem_append.mp hd with hd | hd
      · exact shR d hd
      · rw [List.mem_singleton.mp hd]
        apply (sh_tup (n := 0) ?_).mono (by decide)
        intro d hd
        simp at hd
        rcases hd with rfl | rfl
        · exact sh_str hzz
        · exact sh_int
    · intro _
      apply at_next
      apply hN
      exact ⟨RW, sh_lst shR, by omega, rfl, rfl⟩
  rintro Γ' M' ⟨A, shA, _, rfl, rfl⟩
  walk_at "sq"
  refine at_frz 0 3 rfl rfl ?_
  walk_at "q"
  apply at_app jp (d := pairA A) (ed_var rfl) hjp
  · apply EvN.toD
    apply en_lst
    · apply ea_cons (ed_var rfl)
      apply ea_cons
      · apply EvN.toD
        apply en_cb (ea_cons (ed_var rfl) ea_nil)
        exact c_list .frz
      exact ea_nil
    · walk_at "side"
  · rw [List.length_map]; omega
  rw [app]
  walk_at "q"
  obtain ⟨k1, k2, k3⟩ := hst (KP ++ [A])
  walk_at "sq"
  apply at_asg (d := .int (sumW (netOf gs ls) W (srtS (W.map (·.1)))))
  · apply evd_call (ea_cons (ed_var rfl) ea_nil)
    exact ⟨x, y, z, gs, ls, kd, W, jk, hW, ⟨hWl, fun e he => (hsl e he).1⟩, k3, rfl, ⟨k1, k2⟩, rfl, rfl⟩
  walk_at "q"
  apply at_ret (d := .bl true)
  · apply ed_andV (a := true) (b := true)
    · apply evd_call (ea_cons (ed_var rfl) ea_nil)
      exact ⟨_, "int", rfl, rfl, rfl, rfl⟩
    · intro _
      apply EvD.is
      · apply ed_op
        · exact ed_var rfl
        · apply ed_cb (xs := [.lst (((srtS (W.map (·.1))).filterMap fun s => tollO (dueW (netOf gs ls) W s)).map Dt.int)])
          · apply ea_cons
            · apply EvN.toD
              rw [← sum_out]
              apply en_lc (srtS (W.map (·.1))) (rowW (netOf gs ls) W) (x0 := .lst ((srtS (W.map (·.1))).map (rowW (netOf gs ls) W)))
              · rw [hRW]; exact ed_var rfl
              · exact .inl .frz
              · omega
              · intro i s hs
                have r1 : ∀ {Γ : Gm} {M' : Sto}, Γ[4]? = some (some (rowW (netOf gs ls) W s)) → EvD K Γ M' (tOp (rIxU K) (tVar 4) (tC (.int 1))) (tollD (tollO (dueW (netOf gs ls) W s))) := fun h => ed_op (x := .tup [.str s, tollD (tollO (dueW (netOf gs ls) W s))]) (ed_var h) ed_int (u_ixT rfl)
                exact ⟨et_B (ed_notN (r1 rfl)), fun _ => r1 rfl⟩
            · exact ea_nil
          · exact c_sum .frz
        · exact u_eqI
      · unfold sumW
        rw [decide_eq_true rfl]
  · refine hQ _ _ (hR (KP ++ [A]) (fun D hD => ?_) (by rw [List.length_append]; exact Nat.le_refl _))
    rcases List.mem_append.mp hD with hD | hD
    · exact hKP D hD
    · rw [List.mem_singleton.mp hD]; exact shA
theorem ok_L_bill_stands (c : Cxt K mg) : FnG P w K mg base (He.ga K "_law_bill_stands") ["_law_watch", "_law_dues", "_law_kept"] 10 (Vl.spT K (T_L_bill_stands K)) := by
  obtain ⟨fd, F⟩ := F_L_bill_stands c
  exact ⟨⟨fd, okF_L_bill_stands c F, F.bindsN fun _ _ _ _ _ _ us hl => match us, hl with | [_, _, _], _ => rfl⟩, F.kp⟩
end
def T_L_costs : TmV := fun ds M R _ => ∃ (gs : List (Str × Bool)) (ls : List LineT) (u : Int) (one : Str) (most : Nat) (x : Dt) (_ : Wd1 gs ls u), ds = [.lst (ls.map llD), x, .str one, .int (most : Int), .int u] ∧ (Dct M x (sightK gs) ∧ most ≤ 1000) ∧ R (.lst ((List.range (most + 1)).map fun k => .dct (costK (costN gs ls one u (most + 1) k)))) M
def N_L_costs : List Str := ["_law_lines_here", "_law_sees", "_law_one", "_law_most", "_law_unit_here", "_law_costs_here", "_law_m", "_law_line_here", "_law_ahead", "_law_toll", "_law_more"]
theorem sc_L_costs : FnScope N_L_costs ["_law_lines_here", "_law_sees", "_law_one", "_law_most", "_law_unit_here"] (defScope s_L_costs) := ⟨rfl, rfl, rfl, by decide +kernel, rfl, by decide +kernel, by decide +kernel⟩
section
variable {P : Program} {w : World} {K : PySem.W.Frag} {mg : Str → Option Value} {base : Heap}
theorem okF_L_costs {fd : FuncData} (c : Cxt K mg) (F : FunD K "_law_costs" "_law_costs" (defArgs s_L_costs) (defBody s_L_costs) (defScope s_L_costs) [] [] (He.ga K "_law_costs") fd) : FnOk P w K mg base (L2.CX P w) 1 (He.ga K "_law_costs") fd ["_law_lines_here", "_law_sees", "_law_one", "_law_most", "_law_unit_here"] (Vl.spT K T_L_costs) := by
  refine fnT F sc_L_costs (by decide) (fun ds M R X h => by obtain ⟨_, _, _, _, _, _, _, rfl, _⟩ := h; rfl) (fun cdv A outer s H E hr => ?_)
  have hu := hu_of hr
  have hu64 := hr.units
  refine ⟨_, PSs.nox (pss_cons (ps_setLc (i := 5) (own := [("_law_m", 6)]) (g := gName 6) (tt := tYes) rfl sc_L_costs.nd rfl rfl (sw_true rfl rfl rfl (by decide +kernel)) (pi_range1 (by rfl) (n_range c) (pa_cons (pe_op (kaddU K rfl) (pv 3) pe_int) pa_nil)) (blkOk_by (own := [("_law_m", 6)]) (N := N_L_costs) (sc := defScope s_L_costs) (by decide +kernel)) (fun _ _ _ _ _ => pg_name (i := 6) sc_L_costs.nd rfl (Or.inl rfl)) (fun _ _ _ _ _ => pts_nil) (fun _ _ _ _ _ => pe_dnewK))
      (pss_cons (ps_for PassesOwn.never rfl (pi_range1 (by rfl) (n_range c) (pa_cons (pe_op (kaddU K rfl) (pv 3) pe_int) pa_nil)) (pg_name (i := 6) sc_L_costs.nd rfl (Or.inl rfl)) (pss_one (ps_for PassesOwn.never rfl (kseqU K rfl (pv 0)) (pg_name (i := 7) sc_L_costs.nd rfl (Or.inl rfl)) (pss_cons (ps_set (i := 8) sc_L_costs.nd rfl (Or.inl rfl) (pe_op op_sub (pv 6) (pe_op op_fdiv (pe_ix (kixU K rfl hu) (pv 7) pe_int (fun _ _ => rfl)) (pv 4))))
      (pss_one (ps_if (PW.pt (pw_and (pt_val (pe_ix (kixU K rfl hu) (pv 7) pe_int (fun _ _ => rfl))) (pw_and1 (pt_cmpR op_ge (pv 8) pe_int (nomark _))))) (pss_cons (ps_set (i := 9) sc_L_costs.nd rfl (Or.inl rfl) pe_non)
      (pss_cons (ps_if (PW.pt (pw_and (pt_cmpR (keqU K rfl hu64) (pv 8) pe_int (nomark _)) (pw_and1 (pt_cmpR (keqU K rfl hu64) (pe_ix (kixU K rfl hu) (pv 7) pe_int (fun _ _ => rfl)) (pv 2) (nomark _))))) (pss_one (ps_set (i := 9) sc_L_costs.nd rfl (Or.inl rfl) (pe_ix (kixU K rfl hu) (pv 7) pe_int (fun _ _ => rfl)))) pss_nil)
      (pss_cons (ps_if (PW.pt (pw_and (pt_cmpR (kinU K rfl hu) (pe_ix (kixU K rfl hu) (pv 7) pe_int (fun _ _ => rfl)) (pe_ix (kixU K rfl hu) (pv 5) (pv 8) (fun _ _ => rfl)) (by rfl)) (pw_and1 (pt_not (pt_val (pe_ix (kixU K rfl hu) (pv 1) (pe_ix (kixU K rfl hu) (pv 7) pe_int (fun _ _ => rfl)) (fun _ _ => rfl))))))) (pss_cons (ps_set (i := 10) sc_L_costs.nd rfl (Or.inl rfl) (pe_op (kaddU K rfl) (pe_ix (kixU K rfl hu) (pe_ix (kixU K rfl hu) (pv 5) (pv 8) (fun _ _ => rfl)) (pe_ix (kixU K rfl hu) (pv 7) pe_int (fun _ _ => rfl)) (fun _ _ => rfl)) (pe_ix (kixU K rfl hu) (pv 7) pe_int (fun _ _ => rfl))))
      (pss_one (ps_if (PW.pt (pw_or (pt_cmp (pc_isN (pv 9)) rfl) (pw_or1 (pt_cmpR (kltU K rfl hu64) (pv 10) (pv 9) (nomark _))))) (pss_one (ps_set (i := 9) sc_L_costs.nd rfl (Or.inl rfl) (pv 10))) pss_nil))) pss_nil)
      (pss_one (ps_if (PW.pt (pw_and (pt_cmp (pc_notN (pv 9)) rfl) (pw_and1 (pt_cmpR (kltU K rfl hu64) (pv 9) (pe_dget2 hu (pe_ix (kixU K rfl hu) (pv 5) (pv 6) (fun _ _ => rfl)) (pe_ix (kixU K rfl hu) (pv 7) pe_int (fun _ _ => rfl)) (pe_op (kaddU K rfl) (pv 9) pe_int) ⟨rfl, rfl, rfl, rfl⟩) (nomark _))))) (pss_one (ps_asg (pv 9) (pg_sub (pe_ix (kixU K rfl hu) (pv 5) (pv 6) (fun _ _ => rfl)) (pe_ix (kixU K rfl hu) (pv 7) pe_int (fun _ _ => rfl)) (set_U hu)))) pss_nil))))) pss_nil))))))
      (pss_one (ps_ret (pv 5))))), ?_⟩
  intro B G ds M R X Q ht hQ hX
  obtain ⟨gs, ls, u, one, most, x, hW, rfl, ⟨hD, hm⟩, hR⟩ := ht
  change At K B G [some _, some _, some _, some _, some _, none, none, none, none, none, none] M _
  have hu := hW.u1
  have hu2 := hW.u2
  walk_at "sq"
  apply at_asgX
  · apply evx_lcE (n := (most : Int) + 1)
    · walk_at "ea"
    · omega
    · omega
  rintro d M' ⟨l, as, has, rfl, rfl⟩
  rw [cells_start]
  have has' : as.length = most + 1 := by rw [has]; omega
  walk_at "q"
  walk_at "sq"
  apply at_forR1 (n := (most : Int) + 1) (I := fun m Γ' M' => ∃ z1 z2 z3 z4 z5, Γ' = [some (.lst (ls.map llD)), some x, some (.str one), some (.int (most : Int)), some (.int u), some (.ob l), z1, z2, z3, z4, z5] ∧ M' = (l, Ow.lst (as.map Dt.ob)) :: (cellsC as (costN gs ls one u m) ++ M))
  · walk_at "ea"
  · omega
  · exact ⟨_, _, _, _, _, rfl, rfl⟩
  · rintro m Γ' M' hmm ⟨z1, z2, z3, z4, z5, rfl, rfl⟩
    have hm' : m < as.length := by omega
    apply atg_name
    walk_at "q"
    generalize hC : costN gs ls one u m = C
    have hend : updC C m (costRow gs ls one u C m) = costN gs ls one u (m + 1) := by rw [← hC]; exact updC_end m
    have hstart : updC C m [] = C := by rw [← hC]; exact updC_start m
    apply at_forL (ds := ls.map llD) (I := fun i Γ' M2 => ∃ z2 z3 z4 z5, Γ' = [some (.lst (ls.map llD)), some x, some (.str one), some (.int (most : Int)), some (.int u), some (.ob l), some (.int (m : Int)), z2, z3, z4, z5] ∧
        M2 = (l, Ow.lst (as.map Dt.ob)) :: (cellsC as (updC C m ((ls.take i).foldl (costStep gs one u C m) [])) ++ M))
    · walk_at "ev"
    · refine ⟨_, _, _, _, rfl, ?_⟩
      show _ = (l, Ow.lst (as.map Dt.ob)) :: (cellsC as (updC C m []) ++ M)
      rw [hstart]
    · rintro G' hle i d Γ' M2 hd ⟨z2, z3, z4, z5, rfl, rfl⟩
      rw [List.getElem?_map] at hd
      obtain ⟨l0, hl0, rfl⟩ := Option.map_eq_some_iff.mp hd
      have hlm := List.mem_of_getElem? hl0
      have htk : ls.take (i + 1) = ls.take i ++ [l0] := by rw [List.take_add_one, hl0]; rfl
      have hfold : (ls.take (i + 1)).foldl (costStep gs one u C m) [] = costStep gs one u C m ((ls.take i).foldl (costStep gs one u C m) []) l0 := by
        rw [htk, List.foldl_append]; rfl
      have hcl : ((ls.take i).foldl (costStep gs one u C m) []).length ≤ 200 := by
        have h1 := fold_len gs one u C m (ls.take i) []
        have h2 := hW.ll
        rw [List.length_take, List.length_nil] at h1
        omega
      generalize (ls.take i).foldl (costStep gs one u C m) [] = c0 at hfold hcl
      have hld : ∀ {Γ : Gm} {M' : Sto} {j : Nat}, Γ[j]? = some (some (llD l0)) → EvD K Γ M' (tVar j) (.lst [.str l0.a, .str l0.b, .int l0.m, .int l0.t, .bl l0.o]) := fun h => ed_var h
      apply atg_name
      walk_at "q"
      walk_at "sq"
      apply at_asg (d := .int ((m : Int) - l0.m / u))
      · apply ed_op
        · walk_at "ev"
        · apply ed_op
          · apply ed_op
            · exact hld rfl
            · walk_at "ev"
            · exact u_ixL Lst.frz rfl
          · walk_at "ev"
          · apply op2_I
            show L2.CDiv _ _
            unfold L2.CDiv
            omega
        · walk_at "op"
      walk_at "q"
      apply at_if (b := l0.o && decide ((0 : Int) ≤ (m : Int) - l0.m / u))
      · apply et_and
        · apply et_B
          apply ed_op
          · exact hld rfl
          · walk_at "ev"
          · exact u_ixL Lst.frz rfl
        · intro _
          walk_at "et"
      · intro hb
        have h01 : l0.o = true ∧ (0 : Int) ≤ (m : Int) - l0.m / u := by
          rw [Bool.and_eq_true_iff] at hb
          exact ⟨hb.1, of_decide_eq_true hb.2⟩
        have hlk := hW.lk l0 hlm
        have hq1 : 1 ≤ l0.m / u := by
          have := Int.ediv_le_ediv (show 0 < u by omega) hlk.lo
          rwa [Int.ediv_self (by omega)] at this
        obtain ⟨a, ha⟩ : ∃ a : Nat, a = ((m : Int) - l0.m / u).toNat := ⟨_, rfl⟩
        have hai : (m : Int) - l0.m / u = (a : Int) := by omega
        have ham : a < m := by omega
        have hst : costStep gs one u C m c0 l0 = match candOf gs one u C m l0 with
          | none => c0
          | some t => if t < (c0.lookup l0.b).getD (t + 1) then putq c0 l0.b t else c0 := rfl
        have hsm := look_mem hlk.a
        obtain ⟨sb, hsb⟩ : ∃ sb, gs.lookup l0.a = some sb := Option.isSome_iff_exists.mp hsm
        have hcn := fun hn => cand_none (gs := gs) (one := one) (C := C) h01 hn
        have hcs := fun v hv hs => cand_some (gs := gs) (one := one) (C := C) (v := v) h01 hv hs
        have htA : tA one u m l0 = if (a : Int) = 0 ∧ l0.a = one then some l0.t else none := by unfold tA; rw [hai]
        rw [← ha] at hcn hcs
        rw [hai]
        generalize candOf gs one u C m l0 = cd at hst hcn hcs
        generalize tA one u m l0 = ta at htA hcn hcs
        have hDn := fun N => dct_app hD N
        have hDs : Dct ((l, Ow.lst (as.map Dt.ob)) :: (cellsC as (updC C m c0) ++ M)) x (sightK gs) := (hDn _).push
        have hcell : ∀ {Γ : Gm} {t : TE} {k : Nat}, k < as.length → Γ[5]? = some (some (.ob l)) → EvD K Γ ((l, Ow.lst (as.map Dt.ob)) :: (cellsC as (updC C m c0) ++ M)) t (.int (k : Int)) → EvD K Γ ((l, Ow.lst (as.map Dt.ob)) :: (cellsC as (updC C m c0) ++ M)) (tOp (rIxU K) (tVar 5) t) (.ob (as.getD k 0)) := fun hk h5 ht => by
          apply ed_op
          · exact ed_var h5
          · exact ht
          · apply u_ixL (Lst.own (j := 0) rfl)
            apply atI_map (f := Dt.ob) (x := as.getD _ 0)
            · rw [List.getD_eq_getElem?_getD, List.getElem?_eq_getElem hk]; rfl
            · rfl
        have hdc : ∀ k, k < as.length → Dct ((l, Ow.lst (as.map Dt.ob)) :: (cellsC as (updC C m c0) ++ M)) (.ob (as.getD k 0)) (costK (updC C m c0 k)) := fun k hk => .own (cells_getA hk)
        walk_at "sq"
        apply at_asg (d := .non)
        · walk_at "ev"
        walk_at "q"
        walk_at "sq"
        apply at_join (fun Γ' M2 => Γ' = [some (.lst (ls.map llD)), some x, some (.str one), some (.int (most : Int)), some (.int u), some (.ob l), some (.int (m : Int)), some (llD l0), some (.int (a : Int)), some (optI ta), z5] ∧ M2 = (l, Ow.lst (as.map Dt.ob)) :: (cellsC as (updC C m c0) ++ M))
        · intro N hN
          apply at_if (b := decide ((a : Int) = 0) && decide (l0.a = one))
          · apply et_and
            · walk_at "et"
            · intro _
              apply et_test
              apply ed_op
              · apply ed_op
                · exact hld rfl
                · walk_at "ev"
                · exact u_ixL Lst.frz rfl
              · walk_at "ev"
              · exact u_eqS
          · intro h
            rw [Bool.and_eq_true_iff] at h
            rw [if_pos ⟨of_decide_eq_true h.1, of_decide_eq_true h.2⟩] at htA
            apply at_asg (d := .int l0.t)
            · apply ed_op
              · exact hld rfl
              · walk_at "ev"
              · exact u_ixL Lst.frz rfl
            walk_at "q"
            apply hN
            rw [htA]
            exact ⟨rfl, rfl⟩
          · intro h
            rw [if_neg (by
              rintro ⟨h1, h2⟩
              rw [decide_eq_true h1, decide_eq_true h2] at h
              cases h)] at htA
            walk_at "nx"
            apply hN
            rw [htA]
            exact ⟨rfl, rfl⟩
        rintro Γ' M2 ⟨rfl, rfl⟩
        walk_at "q"
        walk_at "sq"
        apply at_join (fun Γ' M2 => ∃ z6, Γ' = [some (.lst (ls.map llD)), some x, some (.str one), some (.int (most : Int)), some (.int u), some (.ob l), some (.int (m : Int)), some (llD l0), some (.int (a : Int)), some (optI cd), z6] ∧ M2 = (l, Ow.lst (as.map Dt.ob)) :: (cellsC as (updC C m c0) ++ M))
        · intro N hN
          have hl0a : ∀ {Γ : Gm} {M' : Sto}, Γ[7]? = some (some (llD l0)) → EvD K Γ M' (tOp (rIxU K) (tVar 7) (tC (.int 0))) (.str l0.a) := fun h => by
            apply ed_op
            · exact hld h
            · walk_at "ev"
            · exact u_ixL Lst.frz rfl
          apply at_if (b := ((C a).lookup l0.a).isSome && !sb)
          · apply et_and
            · apply et_test
              have e : ((C a).lookup l0.a).isSome = (valD (costK (updC C m c0 a)) (Sum.inr l0.a)).isSome := by
                rw [updC_ne (by omega), val_cost]; cases (C a).lookup l0.a <;> rfl
              rw [e]
              apply ed_op
              · exact hl0a rfl
              · apply hcell (k := a) (by omega) rfl
                walk_at "ev"
              · exact u_inD (hdc a (by omega)) rfl
            · intro _
              apply et_not
              apply et_B
              apply ed_op
              · walk_at "ev"
              · exact hl0a rfl
              · apply u_ixD hDs (key := Sum.inr l0.a) rfl
                rw [val_sight, hsb]; rfl
          · intro h
            rw [Bool.and_eq_true_iff] at h
            obtain ⟨v, hv⟩ := Option.isSome_iff_exists.mp h.1
            have hsf : gs.lookup l0.a = some false := by
              rw [hsb]
              cases sb with
              | true => cases h.2
              | false => rfl
            have hcd := hcs v hv hsf
            walk_at "sq"
            apply at_asg (d := .int (v + l0.t))
            · apply ed_op
              · apply ed_op
                · apply hcell (k := a) (by omega) rfl
                  walk_at "ev"
                · exact hl0a rfl
                · apply u_ixD (hdc a (by omega)) (key := Sum.inr l0.a) rfl
                  rw [updC_ne (by omega), val_cost, hv]; rfl
              · apply ed_op
                · exact hld rfl
                · walk_at "ev"
                · exact u_ixL Lst.frz rfl
              · exact u_addI
            walk_at "q"
            cases ta with
            | none =>
              apply at_if (b := (optI (none : Option Int)).isNon || false)
              · apply et_or
                · apply et_B
                  apply ed_isN
                  exact ed_var rfl
                · intro h; cases h
              · intro _
                apply at_asg (d := .int (v + l0.t))
                · walk_at "ev"
                walk_at "q"
                apply hN
                rw [hcd]
                exact ⟨_, rfl, rfl⟩
              · intro h; cases h
            | some w =>
              have hw : ∀ {Γ : Gm} {M' : Sto}, Γ[9]? = some (some (optI (some w))) → EvD K Γ M' (tVar 9) (.int w) := fun h => ed_var h
              apply at_if (b := (Dt.int w).isNon || decide (v + l0.t < w))
              · apply et_or
                · apply et_B
                  apply ed_isN
                  exact hw rfl
                · intro _
                  apply et_test
                  apply ed_op
                  · walk_at "ev"
                  · exact hw rfl
                  · exact u_ltI
              · intro h
                have hlt : v + l0.t < w := by
                  have : decide (v + l0.t < w) = true := h
                  exact of_decide_eq_true this
                apply at_asg (d := .int (v + l0.t))
                · walk_at "ev"
                walk_at "q"
                apply hN
                rw [hcd]
                dsimp only
                rw [if_pos hlt]
                exact ⟨_, rfl, rfl⟩
              · intro h
                have hlt : ¬ v + l0.t < w := by
                  have : decide (v + l0.t < w) = false := h
                  exact of_decide_eq_false this
                walk_at "nx"
                apply hN
                rw [hcd]
                dsimp only
                rw [if_neg hlt]
                exact ⟨_, rfl, rfl⟩
          · intro h
            have hcd : cd = ta := by
              apply hcn
              cases hv : (C a).lookup l0.a with
              | none => exact .inl rfl
              | some v =>
                right
                rw [hv] at h
                rw [hsb]
                intro e
                cases e
                cases h
            walk_at "nx"
            apply hN
            rw [hcd]
            exact ⟨_, rfl, rfl⟩
        rintro Γ' M2 ⟨z6, rfl, rfl⟩
        walk_at "q"
        cases cd with
        | none =>
          apply at_if (b := (!(optI (none : Option Int)).isNon) && false)
          · apply et_and
            · apply et_B
              apply ed_notN
              exact ed_var rfl
            · intro h; cases h
          · intro h; cases h
          · intro _
            walk_at "nx"
            apply up_of
            rw [hfold, hst]
            exact ⟨_, _, _, _, rfl, rfl⟩
        | some t =>
          have hw : ∀ {Γ : Gm} {M' : Sto}, Γ[9]? = some (some (optI (some t))) → EvD K Γ M' (tVar 9) (.int t) := fun h => ed_var h
          dsimp only at hst
          have hl0b : ∀ {Γ : Gm} {M' : Sto}, Γ[7]? = some (some (llD l0)) → EvD K Γ M' (tOp (rIxU K) (tVar 7) (tC (.int 1))) (.str l0.b) := fun h => by
            apply ed_op
            · exact hld h
            · walk_at "ev"
            · exact u_ixL Lst.frz rfl
          apply at_if (b := (!(Dt.int t).isNon) && decide (t < (c0.lookup l0.b).getD (t + 1)))
          · apply et_and
            · apply et_B
              apply ed_notN
              exact hw rfl
            · intro _
              apply et_test
              apply ed_op (y := .int ((c0.lookup l0.b).getD (t + 1)))
              · exact hw rfl
              · have e : Dt.int ((c0.lookup l0.b).getD (t + 1)) = (valD (costK (updC C m c0 m)) (Sum.inr l0.b)).getD (.int (t + 1)) := by
                  rw [updC_eq, val_cost]; cases c0.lookup l0.b <;> rfl
                rw [e]
                apply ed_get2 (key := Sum.inr l0.b)
                · apply hcell (k := m) (by omega) rfl
                  walk_at "ev"
                · exact hdc m (by omega)
                · exact hl0b rfl
                · rfl
                · apply ed_op
                  · exact hw rfl
                  · walk_at "ev"
                  · exact u_addI
              · exact u_ltI
          · intro h
            have hlt : t < (c0.lookup l0.b).getD (t + 1) := by
              have : decide (t < (c0.lookup l0.b).getD (t + 1)) = true := h
              exact of_decide_eq_true this
            rw [if_pos hlt] at hst
            apply at_setD (as.length - 1 - m + 1) (a := as.getD m 0) (kvs := costK (updC C m c0 m)) (key := Sum.inr l0.b) (d := .int t)
            · exact hw rfl
            · apply hcell (k := m) (by omega) rfl
              walk_at "ev"
            · exact cells_getA (by omega)
            · exact hl0b rfl
            · rfl
            · rw [updC_eq]
              unfold costK
              rw [List.length_map]
              omega
            rw [updC_eq, put_cost, cells_setA (by omega), updC_upd]
            walk_at "q"
            apply up_of
            rw [hfold, hst]
            exact ⟨_, _, _, _, rfl, rfl⟩
          · intro h
            have hlt : ¬ t < (c0.lookup l0.b).getD (t + 1) := by
              have : decide (t < (c0.lookup l0.b).getD (t + 1)) = false := h
              exact of_decide_eq_false this
            rw [if_neg hlt] at hst
            walk_at "nx"
            apply up_of
            rw [hfold, hst]
            exact ⟨_, _, _, _, rfl, rfl⟩
      · intro hb
        have hc : candOf gs one u C m l0 = none := by
          unfold candOf
          rw [if_neg]
          rintro ⟨h1, h2⟩
          rw [h1, decide_eq_true h2] at hb
          cases hb
        walk_at "nx"
        apply up_of
        refine ⟨some (llD l0), some (.int ((m : Int) - l0.m / u)), z4, z5, rfl, ?_⟩
        rw [hfold]
        unfold costStep
        rw [hc]
    · rintro Γ' M2 ⟨z2, z3, z4, z5, rfl, rfl⟩
      rw [List.length_map, List.take_length]
      walk_at "q"
      apply up_of
      refine ⟨some (.int (m : Int)), z2, z3, z4, z5, rfl, ?_⟩
      rw [← hend]
      rfl
  rintro Γ' M' ⟨z1, z2, z3, z4, z5, rfl, rfl⟩
  rw [show ((most : Int) + 1).toNat = most + 1 by omega]
  walk_at "q"
  apply at_retV (M1 := (l, Ow.lst (as.map Dt.ob)) :: cellsC as (costN gs ls one u (most + 1))) (M2 := M)
  · walk_at "ev"
  · exact Sees.lst (j := 0) rfl cells_sees
  · rw [has']
    exact hQ _ _ hR
theorem ok_L_costs (c : Cxt K mg) : FnG P w K mg base (He.ga K "_law_costs") ["_law_lines_here", "_law_sees", "_law_one", "_law_most", "_law_unit_here"] 1 (Vl.spT K T_L_costs) := by
  obtain ⟨fd, F⟩ := F_L_costs c
  exact ⟨⟨fd, okF_L_costs c F, F.bindsN fun _ _ _ _ _ _ us hl => match us, hl with | [_, _, _, _, _], _ => rfl⟩, F.kp⟩
end
def T_L_least : TmV := fun ds M R _ => ∃ (C : Nat → List (Str × Int)) (n : Nat) (x : Str), ds = [.lst ((List.range n).map fun k => .dct (costK (C k))), .str x] ∧ n ≤ 1000000 ∧ R (bestD (lcN C x n)) M
def N_L_least : List Str := ["_law_costs_here", "_law_other", "_law_best", "_law_m"]
theorem sc_L_least : FnScope N_L_least ["_law_costs_here", "_law_other"] (defScope s_L_least) := ⟨rfl, rfl, rfl, by decide +kernel, rfl, by decide +kernel, by decide +kernel⟩
section
variable {P : Program} {w : World} {K : PySem.W.Frag} {mg : Str → Option Value} {base : Heap}
theorem okF_L_least {fd : FuncData} (c : Cxt K mg) (F : FunD K "_law_least" "_law_least" (defArgs s_L_least) (defBody s_L_least) (defScope s_L_least) [] [] (He.ga K "_law_least") fd) : FnOk P w K mg base (L2.CX P w) 1 (He.ga K "_law_least") fd ["_law_costs_here", "_law_other"] (Vl.spT K T_L_least) := by
  refine fnT F sc_L_least (by decide) (fun ds M R X h => by obtain ⟨_, _, _, rfl, _⟩ := h; rfl) (fun cdv A outer s H E hr => ?_)
  have hu := hu_of hr
  have hu64 := hr.units
  refine ⟨_, PSs.nox (pss_cons (ps_set (i := 2) sc_L_least.nd rfl (Or.inl rfl) pe_non)
      (pss_cons (ps_for PassesOwn.never rfl (pi_range1 (by rfl) (n_range c) (pa_cons (pe_callB (klenU K rfl) (by rfl) (n_len c) PySem.boot_len (pa_cons (pv 0) pa_nil)) pa_nil)) (pg_name (i := 3) sc_L_least.nd rfl (Or.inl rfl)) (pss_one (ps_if (PW.pt (pw_and (pt_cmpR (kinU K rfl hu) (pv 1) (pe_ix (kixU K rfl hu) (pv 0) (pv 3) (fun _ _ => rfl)) (by rfl)) (pw_and1 (PW.pt (pw_or (pt_cmp (pc_isN (pv 2)) rfl) (pw_or1 (pt_cmpR (kltU K rfl hu64) (pe_ix (kixU K rfl hu) (pe_ix (kixU K rfl hu) (pv 0) (pv 3) (fun _ _ => rfl)) (pv 1) (fun _ _ => rfl)) (pe_ix (kixU K rfl hu) (pv 2) pe_int (fun _ _ => rfl)) (nomark _)))))))) (pss_one (ps_set (i := 2) sc_L_least.nd rfl (Or.inl rfl) (pe_tup (pa_cons (pe_ix (kixU K rfl hu) (pe_ix (kixU K rfl hu) (pv 0) (pv 3) (fun _ _ => rfl)) (pv 1) (fun _ _ => rfl)) (pa_cons (pv 3) pa_nil))))) pss_nil)))
      (pss_one (ps_ret (pv 2))))), ?_⟩
  intro B G ds M R X Q ht hQ hX
  obtain ⟨C, n, x, rfl, hn, hR⟩ := ht
  change At K B G [some _, some _, none, none] M _
  have hl : (((List.range n).map fun k => Dt.dct (costK (C k))).length : Int) = n := by rw [List.length_map, List.length_range]
  have hat : ∀ k : Nat, k < n → atI ((List.range n).map fun k => Dt.dct (costK (C k))) (k : Int) = some (.dct (costK (C k))) := fun k hk => atI_map (f := fun k => Dt.dct (costK (C k))) (n := k) (by rw [List.getElem?_range hk]) rfl
  walk_at "asg"
  walk_at "sq"
  apply at_forR1 (n := n) (I := fun k Γ' M' => ∃ z1, Γ' = [some (.lst ((List.range n).map fun k => .dct (costK (C k)))), some (.str x), some (bestD (lcN C x k)), z1] ∧ M' = M)
  · rw [← hl]; walk_at "ea"
  · omega
  · exact ⟨_, rfl, rfl⟩
  · rintro k Γ' M' hk ⟨z1, rfl, rfl⟩
    have hk' : k < n := by omega
    have hak := hat k hk'
    have hlc : lcN C x (k + 1) = match (C k).lookup x, lcN C x k with
      | none, b => b
      | some v, none => some (v, k)
      | some v, some b => if v < b.1 then some (v, k) else some b := rfl
    apply atg_name
    walk_at "q"
    have hin : ∀ {Γ : Gm} {M' : Sto} {t1 t2 : TE} {b : Bool}, EvD K Γ M' t1 (.str x) → EvD K Γ M' t2 (.dct (costK (C k))) → ((C k).lookup x).isSome = b → EvD K Γ M' (tOp (rInU K) t1 t2) (.bl b) := fun h1 h2 hb => by
      have e : ((C k).lookup x).isSome = (valD (costK (C k)) (Sum.inr x)).isSome := by rw [val_cost]; cases (C k).lookup x <;> rfl
      rw [← hb, e]
      exact ed_op h1 h2 (u_inD Dct.frz rfl)
    cases hv : (C k).lookup x with
    | none =>
      rw [hv] at hlc
      apply at_if (b := false && false)
      · apply et_and
        · apply et_test
          apply hin
          · walk_at "ev"
          · apply ed_op
            · walk_at "ev"
            · walk_at "ev"
            · exact u_ixL Lst.frz hak
          · rw [hv]; rfl
        · intro h; cases h
      · intro h; cases h
      · intro _
        walk_at "nx"
        apply up_of
        exact ⟨_, by rw [hlc], rfl⟩
    | some v =>
      rw [hv] at hlc
      have hcv : ∀ {Γ : Gm} {M' : Sto}, Γ[0]? = some (some (.lst ((List.range n).map fun k => .dct (costK (C k))))) → Γ[1]? = some (some (.str x)) → Γ[3]? = some (some (.int (k : Int))) → EvD K Γ M' (tOp (rIxU K) (tOp (rIxU K) (tVar 0) (tVar 3)) (tVar 1)) (.int v) := fun h0 h1 h3 => by
        apply ed_op
        · apply ed_op
          · exact ed_var h0
          · exact ed_var h3
          · exact u_ixL Lst.frz hak
        · exact ed_var h1
        · apply u_ixD Dct.frz (key := Sum.inr x) rfl
          rw [val_cost, hv]; rfl
      cases hb : lcN C x k with
      | none =>
        rw [hb] at hlc
        apply at_if (b := true && ((Dt.non).isNon || false))
        · apply et_and
          · apply et_test
            apply hin
            · walk_at "ev"
            · apply ed_op
              · walk_at "ev"
              · walk_at "ev"
              · exact u_ixL Lst.frz hak
            · rw [hv]; rfl
          · intro _
            apply et_or
            · apply et_B
              apply ed_isN
              exact ed_var rfl
            · intro h; cases h
        · intro _
          apply at_asg (d := bestD (lcN C x (k + 1)))
          · rw [hlc]
            show EvD K _ _ _ (.tup [.int v, .int (k : Int)])
            apply ed_tup
            · apply ea_cons
              · exact hcv rfl rfl rfl
              walk_at "ea"
            · walk_at "side"
          walk_at "q"
          exact up_of ⟨_, rfl, rfl⟩
        · intro h; cases h
      | some b =>
        rw [hb] at hlc
        have hbv : ∀ {Γ : Gm} {M' : Sto} {i : Nat}, Γ[i]? = some (some (bestD (some b))) → EvD K Γ M' (tVar i) (.tup [.int b.1, .int (b.2 : Int)]) := fun h => ed_var h
        apply at_if (b := true && ((Dt.tup [.int b.1, .int (b.2 : Int)]).isNon || decide (v < b.1)))
        · apply et_and
          · apply et_test
            apply hin
            · walk_at "ev"
            · apply ed_op
              · walk_at "ev"
              · walk_at "ev"
              · exact u_ixL Lst.frz hak
            · rw [hv]; rfl
          · intro _
            apply et_or
            · apply et_B
              apply ed_isN
              exact hbv rfl
            · intro _
              apply et_test
              apply ed_op
              · exact hcv rfl rfl rfl
              · apply ed_op
                · exact hbv rfl
                · walk_at "ev"
                · exact u_ixT rfl
              · exact u_ltI
        · intro h
          have hlt : v < b.1 := by
            have : decide (v < b.1) = true := h
            exact of_decide_eq_true this
          apply at_asg (d := bestD (lcN C x (k + 1)))
          · rw [hlc]
            dsimp only
            rw [if_pos hlt]
            show EvD K _ _ _ (.tup [.int v, .int (k : Int)])
            apply ed_tup
            · apply ea_cons
              · exact hcv rfl rfl rfl
              walk_at "ea"
            · walk_at "side"
          walk_at "q"
          exact up_of ⟨_, rfl, rfl⟩
        · intro h
          have hlt : ¬ v < b.1 := by
            have : decide (v < b.1) = false := h
            exact of_decide_eq_false this
          walk_at "nx"
          apply up_of
          refine ⟨some (.int (k : Int)), ?_, rfl⟩
          rw [hlc]
          dsimp only
          rw [if_neg hlt]
  rintro Γ' M' ⟨z1, rfl, rfl⟩
  rw [Int.toNat_natCast]
  walk_at "q"
  apply at_ret
  · walk_at "ev"
  · exact hQ _ _ hR
theorem ok_L_least (c : Cxt K mg) : FnG P w K mg base (He.ga K "_law_least") ["_law_costs_here", "_law_other"] 1 (Vl.spT K T_L_least) := by
  obtain ⟨fd, F⟩ := F_L_least c
  exact ⟨⟨fd, okF_L_least c F, F.bindsN fun _ _ _ _ _ _ us hl => match us, hl with | [_, _], _ => rfl⟩, F.kp⟩
end
def T_L_due : TmV := fun ds M R _ => ∃ (gs : List (Str × Bool)) (ls : List LineT) (seen : List (Int × Str)) (x : Dt) (_ : WdOk gs ls 1), ds = [.lst (seen.map seenD), .lst (ls.map llD), x] ∧ (Dct M x (sightK gs) ∧ 1 ≤ seen.length ∧ seen.length ≤ 100 ∧ ∀ k, k + 1 < seen.length → 0 ≤ tmOf seen (k + 1) - tmOf seen k ∧ tmOf seen (k + 1) - tmOf seen k ≤ 100) ∧
  R (dueD (dueOf (netOf gs ls) seen)) M
def N_L_due : List Str := ["_law_seen", "_law_lines_here", "_law_sees", "_law_toll", "_law_k", "_law_costs_here", "_law_best"]
theorem sc_L_due : FnScope N_L_due ["_law_seen", "_law_lines_here", "_law_sees"] (defScope s_L_due) := ⟨rfl, rfl, rfl, by decide +kernel, rfl, by decide +kernel, by decide +kernel⟩
section
variable {P : Program} {w : World} {K : PySem.W.Frag} {mg : Str → Option Value} {base : Heap}
theorem okF_L_due {fd : FuncData} (c : Cxt K mg) (F : FunD K "_law_due" "_law_due" (defArgs s_L_due) (defBody s_L_due) (defScope s_L_due) [] [] (He.ga K "_law_due") fd) : FnOk P w K mg base (L2.CX P w) 2 (He.ga K "_law_due") fd ["_law_seen", "_law_lines_here", "_law_sees"] (Vl.spT K T_L_due) := by
  obtain ⟨⟨fd_L_costs, G_L_costs, b_L_costs⟩, k_L_costs⟩ := ok_L_costs (P := P) (w := w) (base := base) c
  obtain ⟨⟨fd_L_least, G_L_least, b_L_least⟩, k_L_least⟩ := ok_L_least (P := P) (w := w) (base := base) c
  refine fnT F sc_L_due (by decide) (fun ds M R X h => by obtain ⟨_, _, _, _, _, rfl, _⟩ := h; rfl) (fun cdv A outer s H E hr => ?_)
  have hu := hu_of hr
  have hu64 := hr.units
  refine ⟨_, PSs.nox (pss_cons (ps_set (i := 3) sc_L_due.nd rfl (Or.inl rfl) pe_int)
      (pss_cons (ps_for PassesOwn.never rfl (pi_range2 (by rfl) (n_range c) (pa_cons pe_int (pa_cons (pe_callB (klenU K rfl) (by rfl) (n_len c) PySem.boot_len (pa_cons (pv 0) pa_nil)) pa_nil))) (pg_name (i := 4) sc_L_due.nd rfl (Or.inl rfl)) (pss_cons (ps_set (i := 5) sc_L_due.nd rfl (Or.inl rfl) (pe_call G_L_costs (hr.mono (by decide)) (by rfl) (g_L_costs c) k_L_costs b_L_costs .nil passL (pa_cons (pv 1) (pa_cons (pv 2) (pa_cons (pe_ix (kixU K rfl hu) (pe_ix (kixU K rfl hu) (pv 0) (pe_op op_sub (pv 4) pe_int) (fun _ _ => rfl)) pe_int (fun _ _ => rfl)) (pa_cons (pe_op op_sub (pe_ix (kixU K rfl hu) (pe_ix (kixU K rfl hu) (pv 0) (pv 4) (fun _ _ => rfl)) pe_int (fun _ _ => rfl)) (pe_ix (kixU K rfl hu) (pe_ix (kixU K rfl hu) (pv 0) (pe_op op_sub (pv 4) pe_int) (fun _ _ => rfl)) pe_int (fun _ _ => rfl))) (pa_cons pe_int pa_nil)))))))
      (pss_cons (ps_set (i := 6) sc_L_due.nd rfl (Or.inl rfl) (pe_call G_L_least (hr.mono (by decide)) (by rfl) (g_L_least c) k_L_least b_L_least .nil passL (pa_cons (pv 5) (pa_cons (pe_ix (kixU K rfl hu) (pe_ix (kixU K rfl hu) (pv 0) (pv 4) (fun _ _ => rfl)) pe_int (fun _ _ => rfl)) pa_nil))))
      (pss_cons (ps_if (pt_cmp (pc_isN (pv 6)) rfl) (pss_one (ps_ret (pe_tup (pa_cons pe_str (pa_cons (pe_op op_sub (pv 4) pe_int) pa_nil))))) pss_nil)
      (pss_one (ps_set (i := 3) sc_L_due.nd rfl (Or.inl rfl) (pe_op (kaddU K rfl) (pv 3) (pe_ix (kixU K rfl hu) (pv 6) pe_int (fun _ _ => rfl)))))))))
      (pss_one (ps_ret (pe_tup (pa_cons pe_str (pa_cons (pv 3) pa_nil))))))), ?_⟩
  intro B G ds M R X Q ht hQ hX
  obtain ⟨gs, ls, seen, x, hW, rfl, ⟨hD, hs1, hs2, hdiff⟩, hR⟩ := ht
  change At K B G [some _, some _, some _, none, none, none, none] M _
  have hat : ∀ i : Nat, i < seen.length → atI (seen.map seenD) (i : Int) = some (seenD (tmOf seen i, gtOf seen i)) := fun i h => by
    have := atI_mapD (f := seenD) (xs := seen) (i := (i : Int)) (by omega) (by omega)
    rwa [Int.toNat_natCast] at this
  have hsl2 : ((seen.map seenD).length : Int) = seen.length := by rw [List.length_map]
  walk_at "sq"
  apply at_asg (d := .int 0)
  · walk_at "ev"
  walk_at "q"
  walk_at "sq"
  apply at_forR2 (lo := 1) (n := seen.length) (I := fun i Γ' M2 => ∃ st z1 z2 z3, guessK (netOf gs ls) seen i = some st ∧ Γ' = [some (.lst (seen.map seenD)), some (.lst (ls.map llD)), some x, some (.int st.1), z1, z2, z3] ∧ M2 = M)
  · apply ea_cons
    · walk_at "ev"
    · rw [← hsl2]; walk_at "ea"
  · omega
  · exact ⟨(0, [], [(gtOf seen 0, tmOf seen 0)]), none, none, none, rfl, rfl, rfl⟩
  · rintro i Γ' M2 hi ⟨st, z1, z2, z3, hst, rfl, rfl⟩
    have hi' : i + 1 < seen.length := by omega
    have e0 : atI (seen.map seenD) (1 + (i : Int) - 1) = some (seenD (tmOf seen i, gtOf seen i)) := by
      rw [show 1 + (i : Int) - 1 = (i : Int) by omega]; exact hat i (by omega)
    have e1 : atI (seen.map seenD) (1 + (i : Int)) = some (seenD (tmOf seen (i + 1), gtOf seen (i + 1))) := by
      rw [show 1 + (i : Int) = ((i + 1 : Nat) : Int) by omega]; exact hat (i + 1) hi'
    obtain ⟨hd0, hd1⟩ := hdiff i hi'
    obtain ⟨n, hn⟩ : ∃ n : Nat, tmOf seen (i + 1) - tmOf seen i = (n : Int) := ⟨(tmOf seen (i + 1) - tmOf seen i).toNat, by omega⟩
    have hsplit : (1 : Int) * (n : Int) + 0 = tmOf seen (i + 1) - tmOf seen i := by omega
    obtain ⟨f1, f2⟩ := due_found (one := gtOf seen i) (other := gtOf seen (i + 1)) (n := n) (r := 0) hW.to1 (Int.le_refl _) (by decide) (by rw [hsplit]; exact fit_net hW hd0 (by rw [Int.ediv_one]; omega))
    rw [hsplit] at f1 f2
    apply atg_name
    walk_at "q"
    walk_at "sq"
    apply at_asg (d := .lst ((List.range (n + 1)).map fun k => .dct (costK (costN gs ls (gtOf seen i) 1 (n + 1) k))))
    · apply evd_call (ds := [.lst (ls.map llD), x, .str (gtOf seen i), .int (n : Int), .int 1])
      · apply ea_cons
        · walk_at "ev"
        apply ea_cons
        · walk_at "ev"
        apply ea_cons
        · apply ed_op
          · apply ed_op
            · walk_at "ev"
            · walk_at "ev"
            · exact u_ixL Lst.frz e0
          · walk_at "ev"
          · exact u_ixT rfl
        apply ea_cons
        · rw [← hn]
          apply ed_op
          · apply ed_op
            · apply ed_op
              · walk_at "ev"
              · walk_at "ev"
              · exact u_ixL Lst.frz e1
            · walk_at "ev"
            · exact u_ixT rfl
          · apply ed_op
            · apply ed_op
              · walk_at "ev"
              · walk_at "ev"
              · exact u_ixL Lst.frz e0
            · walk_at "ev"
            · exact u_ixT rfl
          · exact op2_I0
        walk_at "ea"
      · exact ⟨gs, ls, 1, gtOf seen i, n, _, hW, rfl, ⟨hD, by omega⟩, rfl, rfl⟩
    walk_at "q"
    walk_at "sq"
    apply at_asg (d := bestD (lcN (costN gs ls (gtOf seen i) 1 (n + 1)) (gtOf seen (i + 1)) (n + 1)))
    · apply evd_call (ds := [.lst ((List.range (n + 1)).map fun k => .dct (costK (costN gs ls (gtOf seen i) 1 (n + 1) k))), .str (gtOf seen (i + 1))])
      · apply ea_cons
        · exact ed_var rfl
        · apply ea_cons
          · apply ed_op
            · apply ed_op
              · walk_at "ev"
              · walk_at "ev"
              · exact u_ixL Lst.frz e1
            · walk_at "ev"
            · exact u_ixT rfl
          · exact ea_nil
      · exact ⟨_, n + 1, _, rfl, by omega, rfl, rfl⟩
    walk_at "q"
    walk_at "sq"
    generalize lcN (costN gs ls (gtOf seen i) 1 (n + 1)) (gtOf seen (i + 1)) (n + 1) = due at f1 f2
    cases due with
    | none =>
      have hlg : legK (netOf gs ls) seen i = none := f1 rfl
      rw [due_none hi' ⟨st, hst⟩ hlg] at hR
      apply at_if (b := (Dt.non).isNon)
      · apply et_B
        apply ed_isN
        exact ed_var rfl
      · intro _
        apply at_ret (d := .tup [.str "none", .int (i : Int)])
        · apply ed_tup
          · apply ea_cons
            · walk_at "ev"
            apply ea_cons
            · apply EvD.is
              · apply ed_op
                · exact ed_var rfl
                · walk_at "ev"
                · exact op2_I0
              · show Dt.int (1 + (i : Int) - 1) = Dt.int i
                congr 1
                omega
            exact ea_nil
          · walk_at "side"
        · exact hQ _ _ hR
      · intro h; cases h
    | some b =>
      obtain ⟨_, l, hl, hl1, _⟩ := f2 b rfl
      have hlg : legK (netOf gs ls) seen i = some l := hl
      have hb : ∀ {Γ : Gm} {M' : Sto} {j : Nat}, Γ[j]? = some (some (bestD (some b))) → EvD K Γ M' (tVar j) (.tup [.int l.1, .int (b.2 : Int)]) := fun h => by
        rw [hl1]; exact ed_var h
      apply at_if (b := (Dt.tup [.int l.1, .int (b.2 : Int)]).isNon)
      · apply et_B
        apply ed_isN
        exact hb rfl
      · intro h; cases h
      intro _
      walk_at "nx"
      apply at_asg (d := .int (st.1 + l.1))
      · apply ed_op
        · walk_at "ev"
        · apply ed_op
          · exact hb rfl
          · walk_at "ev"
          · exact u_ixT rfl
        · exact u_addI
      walk_at "q"
      apply up_of
      refine ⟨(st.1 + l.1, st.2.1 ++ l.2.2, st.2.2 ++ passedOf (netOf gs ls) l.2.2 (tmOf seen i) (tmOf seen (i + 1))), _, _, _, ?_, rfl, rfl⟩
      rw [guessK, hst, hlg]
  rintro Γ' M2 ⟨st, z1, z2, z3, hst, rfl, rfl⟩
  walk_at "q"
  have hst' : guessK (netOf gs ls) seen (seen.length - 1) = some st := by
    rw [← hst]
    congr 1
    omega
  rw [due_way hst'] at hR
  apply at_ret (d := .tup [.str "way", .int st.1])
  · apply ed_tup
    · walk_at "ea"
    · walk_at "side"
  · exact hQ _ _ hR
theorem ok_L_due (c : Cxt K mg) : FnG P w K mg base (He.ga K "_law_due") ["_law_seen", "_law_lines_here", "_law_sees"] 2 (Vl.spT K T_L_due) := by
  obtain ⟨fd, F⟩ := F_L_due c
  exact ⟨⟨fd, okF_L_due c F, F.bindsN fun _ _ _ _ _ _ us hl => match us, hl with | [_, _, _], _ => rfl⟩, F.kp⟩
end
def T_L_leg_stands (K : PySem.W.Frag) : TmV := fun ds M R _ => ∃ (x y z s : Dt) (gs : List (Str × Bool)) (ls : List LineT) (seen : List (Int × Str)) (_ : WdOk gs ls 1), ds = [.inst (He.ga K "Net") (netF x y z), .lst (seen.map seenD), s, .lst (ls.map llD)] ∧ (NetAt M x y z (netOf gs ls) ∧ Dct M s (sightK gs) ∧ (∀ k, k + 1 < seen.length → 0 ≤ tmOf seen (k + 1) - tmOf seen k ∧ tmOf seen (k + 1) - tmOf seen k ≤ 100) ∧ ∀ k, k < seen.length → gtOf seen k ∈ gs.map (·.1)) ∧ R (.bl true) M
def N_L_leg_stands : List Str := ["_law_net_here", "_law_seen", "_law_sees", "_law_lines_here", "_law_limit", "_law_due_here", "_law_found"]
theorem sc_L_leg_stands : FnScope N_L_leg_stands ["_law_net_here", "_law_seen", "_law_sees", "_law_lines_here"] (defScope s_L_leg_stands) := ⟨rfl, rfl, rfl, by decide +kernel, rfl, by decide +kernel, by decide +kernel⟩
section
variable {P : Program} {w : World} {K : PySem.W.Frag} {mg : Str → Option Value} {base : Heap}
theorem okF_L_leg_stands {fd : FuncData} (c : Cxt K mg) (F : FunD K "_law_leg_stands" "_law_leg_stands" (defArgs s_L_leg_stands) (defBody s_L_leg_stands) (defScope s_L_leg_stands) [] [] (He.ga K "_law_leg_stands") fd) : FnOk P w K mg base (L2.CX P w) 6 (He.ga K "_law_leg_stands") fd ["_law_net_here", "_law_seen", "_law_sees", "_law_lines_here"] (Vl.spT K (T_L_leg_stands K)) := by
  obtain ⟨⟨fd_L_least, G_L_least, b_L_least⟩, k_L_least⟩ := ok_L_least (P := P) (w := w) (base := base) c
  obtain ⟨⟨fd_leg, G_leg, b_leg⟩, k_leg⟩ := ok_leg (P := P) (w := w) (base := base) c
  obtain ⟨⟨fd_L_costs, G_L_costs, b_L_costs⟩, k_L_costs⟩ := ok_L_costs (P := P) (w := w) (base := base) c
  refine fnT F sc_L_leg_stands (by decide) (fun ds M R X h => by obtain ⟨_, _, _, _, _, _, _, _, rfl, _⟩ := h; rfl) (fun cdv A outer s H E hr => ?_)
  have hu := hu_of hr
  have hu64 := hr.units
  refine ⟨_, PSs.nox (pss_cons (ps_if (pt_cmpR (kltU K rfl hu64) (pe_callB (klenU K rfl) (by rfl) (n_len c) PySem.boot_len (pa_cons (pv 1) pa_nil)) pe_int (nomark _)) (pss_one (ps_ret pe_bl)) pss_nil)
      (pss_cons (ps_set (i := 4) sc_L_leg_stands.nd rfl (Or.inl rfl) (pe_op op_sub (pe_ix (kixU K rfl hu) (pe_ix (kixU K rfl hu) (pv 1) pe_int (fun _ _ => rfl)) pe_int (fun _ _ => rfl)) (pe_ix (kixU K rfl hu) (pe_ix (kixU K rfl hu) (pv 1) pe_int (fun _ _ => rfl)) pe_int (fun _ _ => rfl))))
      (pss_cons (ps_set (i := 5) sc_L_leg_stands.nd rfl (Or.inl rfl) (pe_call G_L_least (hr.mono (by decide)) (by rfl) (g_L_least c) k_L_least b_L_least .nil passL (pa_cons (pe_call G_L_costs (hr.mono (by decide)) (by rfl) (g_L_costs c) k_L_costs b_L_costs .nil passL (pa_cons (pv 3) (pa_cons (pv 2) (pa_cons (pe_ix (kixU K rfl hu) (pe_ix (kixU K rfl hu) (pv 1) pe_int (fun _ _ => rfl)) pe_int (fun _ _ => rfl)) (pa_cons (pv 4) (pa_cons pe_int pa_nil)))))) (pa_cons (pe_ix (kixU K rfl hu) (pe_ix (kixU K rfl hu) (pv 1) pe_int (fun _ _ => rfl)) pe_int (fun _ _ => rfl)) pa_nil))))
      (pss_cons (ps_set (i := 6) sc_L_leg_stands.nd rfl (Or.inl rfl) (pe_call G_leg (hr.mono (by decide)) (by rfl) (g_leg c) k_leg b_leg .nil passL (pa_cons (pv 0) (pa_cons (pe_ix (kixU K rfl hu) (pe_ix (kixU K rfl hu) (pv 1) pe_int (fun _ _ => rfl)) pe_int (fun _ _ => rfl)) (pa_cons (pe_ix (kixU K rfl hu) (pe_ix (kixU K rfl hu) (pv 1) pe_int (fun _ _ => rfl)) pe_int (fun _ _ => rfl)) (pa_cons (pv 4) pa_nil))))))
      (pss_cons (ps_if (PW.pt (pw_or (pt_cmp (pc_isN (pv 6)) rfl) (pw_or1 (pt_cmp (pc_isN (pv 5)) rfl)))) (pss_one (ps_ret (pe_and (pe_cmp (pc_isN (pv 6)) rfl) (pe_one (pe_cmp (pc_isN (pv 5)) rfl))))) pss_nil)
      (pss_one (ps_ret (pe_cmpR (keqU K rfl hu64) (pe_slice (kslU K rfl) (pv 6) po_none (po_some pe_int)) (pv 5) (nomark _))))))))), ?_⟩
  intro B G ds M R X Q ht hQ hX
  obtain ⟨x, y, z, s, gs, ls, seen, hW, rfl, ⟨hN, hD, hdiff, hgt⟩, hR⟩ := ht
  change At K B G [some _, some _, some _, some _, none, none, none] M _
  have hat : ∀ i : Nat, i < seen.length → atI (seen.map seenD) (i : Int) = some (seenD (tmOf seen i, gtOf seen i)) := fun i h => by
    have := atI_mapD (f := seenD) (xs := seen) (i := (i : Int)) (by omega) (by omega)
    rwa [Int.toNat_natCast] at this
  have hsl2 : ((seen.map seenD).length : Int) = seen.length := by rw [List.length_map]
  walk_at "sq"
  apply at_if (b := decide ((seen.length : Int) < 2))
  · rw [← hsl2]
    apply et_test
    apply ed_op
    · exact ed_cb (ea_cons (ed_var rfl) ea_nil) (u_lenL .frz)
    · exact ed_int
    · exact u_ltI
  · intro _
    apply at_ret ed_bl
    exact hQ _ _ hR
  intro h2
  have hl2 : 2 ≤ seen.length := by have := of_decide_eq_false h2; omega
  walk_at "nx"
  walk_at "sq"
  have sE : ∀ (i : Nat) {Γ : Gm} {M' : Sto}, i < 2 → Γ[1]? = some (some (.lst (seen.map seenD))) → EvD K Γ M' (tOp (rIxU K) (tVar 1) (tC (.int (i : Int)))) (seenD (tmOf seen i, gtOf seen i)) := fun i Γ M' hi h => ed_op (ed_var h) ed_int (u_ixL .frz (hat i (by omega)))
  have tE : ∀ (i : Nat) {Γ : Gm} {M' : Sto}, i < 2 → Γ[1]? = some (some (.lst (seen.map seenD))) → EvD K Γ M' (tOp (rIxU K) (tOp (rIxU K) (tVar 1) (tC (.int (i : Int)))) (tC (.int 0))) (.int (tmOf seen i)) := fun i Γ M' hi h => ed_op (sE i hi h) ed_int (u_ixT rfl)
  have gE : ∀ (i : Nat) {Γ : Gm} {M' : Sto}, i < 2 → Γ[1]? = some (some (.lst (seen.map seenD))) → EvD K Γ M' (tOp (rIxU K) (tOp (rIxU K) (tVar 1) (tC (.int (i : Int)))) (tC (.int 1))) (.str (gtOf seen i)) := fun i Γ M' hi h => ed_op (sE i hi h) ed_int (u_ixT rfl)
  obtain ⟨hd0, hd1⟩ := hdiff 0 (by omega)
  obtain ⟨n, hn⟩ : ∃ n : Nat, tmOf seen (0 + 1) - tmOf seen 0 = (n : Int) := ⟨(tmOf seen (0 + 1) - tmOf seen 0).toNat, by omega⟩
  have hsplit : (1 : Int) * (n : Int) + 0 = (n : Int) := by omega
  have hF : Fit (netOf gs ls) (n : Int) := by rw [← hn]; exact fit_net hW hd0 (by rw [Int.ediv_one]; omega)
  obtain ⟨f1, f2⟩ := due_found (one := gtOf seen 0) (other := gtOf seen 1) (n := n) (r := 0) hW.to1 (Int.le_refl _) (by decide) (by rw [hsplit]; exact hF)
  rw [hsplit] at f1 f2
  apply at_asg (d := .int (n : Int))
  · rw [← hn]
    exact ed_op (tE 1 (by decide) rfl) (tE 0 (by decide) rfl) op2_I0
  walk_at "q"
  walk_at "sq"
  apply at_asg (d := bestD (lcN (costN gs ls (gtOf seen 0) 1 (n + 1)) (gtOf seen 1) (n + 1)))
  · apply evd_call (ds := [.lst ((List.range (n + 1)).map fun k => .dct (costK (costN gs ls (gtOf seen 0) 1 (n + 1) k))), .str (gtOf seen 1)])
    · apply ea_cons
      · apply evd_call (ds := [.lst (ls.map llD), s, .str (gtOf seen 0), .int (n : Int), .int 1])
        · exact ea_cons (ed_var rfl) (ea_cons (ed_var rfl) (ea_cons (gE 0 (by decide) rfl) (ea_cons (ed_var rfl) (ea_cons ed_int ea_nil))))
        · exact ⟨gs, ls, 1, gtOf seen 0, n, _, hW, rfl, ⟨hD, by omega⟩, rfl, rfl⟩
      · exact ea_cons (gE 1 (by decide) rfl) ea_nil
    · exact ⟨_, n + 1, _, rfl, by omega, rfl, rfl⟩
  walk_at "q"
  walk_at "sq"
  apply at_asg (d := legD (legOf (netOf gs ls) (gtOf seen 0) (gtOf seen 1) (n : Int)))
  · apply evd_call (ds := [.inst (He.ga K "Net") (netF x y z), .str (gtOf seen 0), .str (gtOf seen 1), .int (n : Int)])
    · exact ea_cons (ed_var rfl) (ea_cons (gE 0 (by decide) rfl) (ea_cons (gE 1 (by decide) rfl) (ea_cons (ed_var rfl) ea_nil)))
    · exact ⟨x, y, z, netOf gs ls, _, _, _, rfl, ⟨hN, hF, hasn _ (hgt 0 (by omega)), hasn _ (hgt 1 (by omega))⟩, rfl, rfl⟩
  walk_at "q"
  walk_at "sq"
  generalize lcN (costN gs ls (gtOf seen 0) 1 (n + 1)) (gtOf seen 1) (n + 1) = due at f1 f2
  cases due with
  | none =>
    rw [f1 rfl]
    apply at_if (b := (Dt.non).isNon || (Dt.non).isNon)
    · apply et_or
      · exact et_B (ed_isN (ed_var rfl))
      · intro _; exact et_B (ed_isN (ed_var rfl))
    · intro _
      apply at_ret (d := .bl true)
      · apply ed_andV (a := true) (b := true)
        · exact ed_isN (d := .non) (ed_var rfl)
        · intro _; exact ed_isN (d := .non) (ed_var rfl)
      · exact hQ _ _ hR
    · intro h; cases h
  | some b =>
    obtain ⟨_, l, hl, hl1, hl2⟩ := f2 b rfl
    rw [hl]
    have hb : ∀ {Γ : Gm} {M' : Sto} {j : Nat}, Γ[j]? = some (some (bestD (some b))) → EvD K Γ M' (tVar j) (.tup [.int l.1, .int l.2.1]) := fun h => by
      rw [hl1, hl2, Int.one_mul]; exact ed_var h
    have hf : ∀ {Γ : Gm} {M' : Sto} {j : Nat}, Γ[j]? = some (some (legD (some l))) → EvD K Γ M' (tVar j) (.tup [.int l.1, .int l.2.1, .lst (l.2.2.map Dt.int)]) := fun h => ed_var h
    apply at_if (b := (Dt.tup [.int l.1, .int l.2.1, .lst (l.2.2.map Dt.int)]).isNon || (Dt.tup [.int l.1, .int l.2.1]).isNon)
    · apply et_or
      · exact et_B (ed_isN (hf rfl))
      · intro _; exact et_B (ed_isN (hb rfl))
    · intro h; cases h
    intro _
    walk_at "nx"
    apply at_ret (d := .bl true)
    · apply ed_op (x := .tup [.int l.1, .int l.2.1]) (y := .tup [.int l.1, .int l.2.1])
      · exact ed_slT (ds := [.int l.1, .int l.2.1, .lst (l.2.2.map Dt.int)]) (hf rfl) (show ¬(HT.sIx 3 0 none = 0 ∧ HT.sIx 3 3 (some 2) = 3) by decide) ep_none (ep_some ed_int)
      · exact hb rfl
      · apply u_eqSame Sees.rfl Sees.rfl
        apply (sh_tup (n := 0) ?_).mono (by decide)
        intro d hd
        simp at hd
        rcases hd with rfl | rfl
        · exact sh_int
        · exact sh_int
    · exact hQ _ _ hR
theorem ok_L_leg_stands (c : Cxt K mg) : FnG P w K mg base (He.ga K "_law_leg_stands") ["_law_net_here", "_law_seen", "_law_sees", "_law_lines_here"] 6 (Vl.spT K (T_L_leg_stands K)) := by
  obtain ⟨fd, F⟩ := F_L_leg_stands c
  exact ⟨⟨fd, okF_L_leg_stands c F, F.bindsN fun _ _ _ _ _ _ us hl => match us, hl with | [_, _, _, _], _ => rfl⟩, F.kp⟩
end
def T_L_stands (K : PySem.W.Frag) : TmV := fun ds M R _ => ∃ (a : A12) (KP : List (List Dt)) (GG : OG) (L : OL) (W : WM) (cl : List Int) (i : Nat) (_ : I12 GG L W cl i ∧ i ≤ 20) (_ : (∀ A ∈ KP, ShD 12 (.lst A)) ∧ KP.length ≤ 100000), ds = [netX (He.ga K "Net") a, watX (He.ga K "Net") (He.ga K "Watch") a, .ob a.o, .ob a.gA, .ob a.lA, .ob a.kp] ∧ M = st12 a KP GG L W cl ∧
  ∀ KP' : List (List Dt), (∀ A ∈ KP', ShD 12 (.lst A)) → KP'.length ≤ KP.length + 100 → R (.bl true) (st12 a KP' GG L W cl)
def N_L_stands : List Str := ["_law_net_here", "_law_watch", "_law_own", "_law_gates_here", "_law_lines_here", "_law_kept", "_law_sees", "_law_gate", "_law_dues", "_law_car", "_law_rows", "_law_due_here", "_law_first"]
theorem sc_L_stands : FnScope N_L_stands ["_law_net_here", "_law_watch", "_law_own", "_law_gates_here", "_law_lines_here", "_law_kept"] (defScope s_L_stands) := ⟨rfl, rfl, rfl, by decide +kernel, rfl, by decide +kernel, by decide +kernel⟩
section
variable {P : Program} {w : World} {K : PySem.W.Frag} {mg : Str → Option Value} {base : Heap}
theorem okF_L_stands {fd : FuncData} (c : Cxt K mg) (F : FunD K "_law_stands" "_law_stands" (defArgs s_L_stands) (defBody s_L_stands) (defScope s_L_stands) [] [] (He.ga K "_law_stands") fd) : FnOk P w K mg base (L2.CX P w) 11 (He.ga K "_law_stands") fd ["_law_net_here", "_law_watch", "_law_own", "_law_gates_here", "_law_lines_here", "_law_kept"] (Vl.spT K (T_L_stands K)) := by
  obtain ⟨⟨fd_L_guesses_stand, G_L_guesses_stand, b_L_guesses_stand⟩, k_L_guesses_stand⟩ := ok_L_guesses_stand (P := P) (w := w) (base := base) c
  obtain ⟨⟨fd_L_bill_stands, G_L_bill_stands, b_L_bill_stands⟩, k_L_bill_stands⟩ := ok_L_bill_stands (P := P) (w := w) (base := base) c
  obtain ⟨⟨fd_L_due, G_L_due, b_L_due⟩, k_L_due⟩ := ok_L_due (P := P) (w := w) (base := base) c
  obtain ⟨⟨fd_L_leg_stands, G_L_leg_stands, b_L_leg_stands⟩, k_L_leg_stands⟩ := ok_L_leg_stands (P := P) (w := w) (base := base) c
  refine fnT F sc_L_stands (by decide) (fun ds M R X h => by obtain ⟨_, _, _, _, _, _, _, _, _, rfl, _⟩ := h; rfl) (fun cdv A outer s H E hr => ?_)
  have hu := hu_of hr
  have hu64 := hr.units
  refine ⟨_, PSs.nox (pss_cons (ps_set (i := 6) sc_L_stands.nd rfl (Or.inr rfl) pe_dnewK)
      (pss_cons (ps_for PassesOwn.never rfl (kseqU K rfl (pv 3)) (pg_name (i := 7) sc_L_stands.nd rfl (Or.inl rfl)) (pss_one (ps_asg (pe_ix (kixU K rfl hu) (pv 7) pe_int (fun _ _ => rfl)) (pg_sub (pv 6) (pe_ix (kixU K rfl hu) (pv 7) pe_int (fun _ _ => rfl)) (set_U hu)))))
      (pss_cons (ps_setLc (i := 8) (own := [("_law_car", 9)]) (g := gName 9) (tt := tYes) rfl sc_L_stands.nd rfl rfl (sw_true rfl rfl rfl (by decide +kernel)) (kseqU K rfl (pe_callB (ksortD rfl) (by rfl) (n_sorted c) (by decide +kernel) (pa_cons (pv 2) pa_nil))) (blkOk_by (own := [("_law_car", 9)]) (N := N_L_stands) (sc := defScope s_L_stands) (by decide +kernel)) (fun _ _ _ _ _ => pg_name (i := 9) sc_L_stands.nd rfl (Or.inl rfl)) (fun _ _ _ _ _ => pts_nil) (fun _ _ _ _ _ => (pe_tup (pa_cons (pv 9) (pa_cons (pe_call G_L_due (hr.mono (by decide)) (by rfl) (g_L_due c) k_L_due b_L_due .nil passL (pa_cons (pe_callB (ksortIS K rfl) (by rfl) (n_sorted c) (by decide +kernel) (pa_cons (pe_ix (kixU K rfl hu) (pv 2) (pv 9) (fun _ _ => rfl)) pa_nil)) (pa_cons (pv 4) (pa_cons (pv 6) pa_nil)))) pa_nil)))))
      (pss_cons (ps_setLc (i := 10) (own := [("_law_due_here", 11)]) (g := gName 11) (tt := tYes) rfl sc_L_stands.nd rfl rfl (sw_true rfl rfl rfl (by decide +kernel)) (kseqU K rfl (pv 8)) (blkOk_by (own := [("_law_due_here", 11)]) (N := N_L_stands) (sc := defScope s_L_stands) (by decide +kernel)) (fun _ _ _ _ _ => pg_name (i := 11) sc_L_stands.nd rfl (Or.inl rfl)) (fun _ _ _ _ _ => pts_nil) (fun _ _ _ _ _ => (pe_tup (pa_cons (pe_ix (kixU K rfl hu) (pv 11) pe_int (fun _ _ => rfl)) (pa_cons (pe_ix (kixU K rfl hu) (pe_lst (pa_cons (pe_ix (kixU K rfl hu) (pe_ix (kixU K rfl hu) (pv 11) pe_int (fun _ _ => rfl)) pe_int (fun _ _ => rfl)) (pa_cons pe_non pa_nil))) (pe_callTy call_intU (by rfl) (n_int c) (by decide +kernel) (pa_cons (pe_cmpR (keqU K rfl hu64) (pe_ix (kixU K rfl hu) (pe_ix (kixU K rfl hu) (pv 11) pe_int (fun _ _ => rfl)) pe_int (fun _ _ => rfl)) pe_str (nomark _)) pa_nil)) (fun _ _ => rfl)) pa_nil)))))
      (pss_cons (ps_set (i := 12) sc_L_stands.nd rfl (Or.inl rfl) (pe_cmpR (keqU K rfl hu64) (pe_op op_mod (pe_callB (klenU K rfl) (by rfl) (n_len c) PySem.boot_len (pa_cons (pv 5) pa_nil)) pe_int) pe_int (nomark _)))
      (pss_cons (ps_if (PW.pt (pw_and (pt_val (pv 12)) (pw_and1 (pt_not (pt_val (pe_call G_L_bill_stands (hr.mono (by decide)) (by rfl) (g_L_bill_stands c) k_L_bill_stands b_L_bill_stands .nil passL (pa_cons (pv 1) (pa_cons (pv 10) (pa_cons (pv 5) pa_nil))))))))) (pss_one (ps_ret pe_bl)) pss_nil)
      (pss_cons (ps_lock (ps_for PassesOwn.never rfl (pi_keys (pv 2)) (pg_name (i := 9) sc_L_stands.nd rfl (Or.inl rfl)) (pss_one (ps_if (pt_not (pt_val (pe_call G_L_leg_stands (hr.mono (by decide)) (by rfl) (g_L_leg_stands c) k_L_leg_stands b_L_leg_stands .nil passL (pa_cons (pv 0) (pa_cons (pe_callB (ksortIS K rfl) (by rfl) (n_sorted c) (by decide +kernel) (pa_cons (pe_ix (kixU K rfl hu) (pv 2) (pv 9) (fun _ _ => rfl)) pa_nil)) (pa_cons (pv 6) (pa_cons (pv 4) pa_nil))))))) (pss_one (ps_ret pe_bl)) pss_nil))))
      (pss_one (ps_ret (pe_and (pe_call G_L_guesses_stand (hr.mono (by decide)) (by rfl) (g_L_guesses_stand c) k_L_guesses_stand b_L_guesses_stand .nil passL (pa_cons (pv 0) (pa_cons (pv 2) (pa_cons (pv 8) (pa_cons (pv 5) pa_nil))))) (pe_one (pe_call G_L_bill_stands (hr.mono (by decide)) (by rfl) (g_L_bill_stands c) k_L_bill_stands b_L_bill_stands .nil passL (pa_cons (pv 1) (pa_cons (pv 10) (pa_cons (pv 5) pa_nil))))))))))))))), ?_⟩
  intro B G ds M R X Q ht hQ hX
  obtain ⟨a, KP, GG, L, W, cl, i0, ⟨I, hi0⟩, ⟨hKP, hKl⟩, rfl, hM, hR⟩ := ht
  change At K B G [some _, some _, some _, some _, some _, some _, none, none, none, none, none, none, none] M _
  subst hM
  have hWd := I.wd
  have hWl : W.length ≤ 20 := by have := I.w; omega
  have hGl := I.g6
  have hslW : ∀ e ∈ W, SlOk ((gsO GG).map (·.1)) e.2.2 := fun e he => (I.sl e he).2
  have hnmW : ∀ e ∈ W, PyData.strOk e.1 = true := fun e he => nm_ok (I.sl e he).1
  have hglen : (gsO GG).length = GG.length := by unfold gsO; rw [List.length_map]
  walk_at "sq"
  apply at_asgN (o := .dct [])
  · exact en_dnew
  intro sA
  walk_at "q"
  walk_at "sq"
  apply at_forG (ds := obG GG) (I := fun i Γ' M' => ∃ z7, Γ' = [some (netX (He.ga K "Net") a), some (watX (He.ga K "Net") (He.ga K "Watch") a), some (.ob a.o), some (.ob a.gA), some (.ob a.lA), some (.ob a.kp), some (.ob sA), z7, none, none, none, none, none] ∧ M' = (sA, Ow.dct (sightK ((gsO GG).take i))) :: st12 a KP GG L W cl)
  · exact ed_var rfl
  · exact .own (j := 3) rfl
  · exact ⟨_, rfl, rfl⟩
  · rintro i Γ' M' ⟨z7, rfl, rfl⟩
    exact .own (j := 3) rfl
  · rintro G' hle i d Γ' M' hd ⟨z7, rfl, rfl⟩
    unfold obG at hd
    rw [List.getElem?_map] at hd
    obtain ⟨e, he, rfl⟩ := Option.map_eq_some_iff.mp hd
    have hem := List.mem_of_getElem? he
    have hil := (List.getElem?_eq_some_iff.mp he).1
    obtain ⟨j, hj⟩ := List.getElem?_of_mem (mem_g (a := a) (KP := KP) (L := L) (W := W) (cl := cl) hem)
    have hj' : ((sA, Ow.dct (sightK ((gsO GG).take i))) :: st12 a KP GG L W cl)[j + 1]? = some (gCell e) := hj
    apply atg_name
    walk_at "q"
    apply at_setD (j := 0) (key := Sum.inr e.2.1) (d := .bl e.2.2)
    · exact ed_op (ed_var rfl) ed_int (u_ixL (.own hj') rfl)
    · exact ed_var rfl
    · rfl
    · exact ed_op (ed_var rfl) ed_int (u_ixL (.own hj') rfl)
    · rfl
    · unfold sightK; rw [List.length_map, List.length_take]; omega
    have hgi : (gsO GG)[i]'(by rw [hglen]; exact hil) = e.2 := by
      have : (gsO GG)[i]? = some e.2 := by unfold gsO; rw [List.getElem?_map, he]; rfl
      exact (List.getElem?_eq_some_iff.mp this).2
    have := put_sees hWd.nd (i := i) (by rw [hglen]; exact hil)
    rw [hgi] at this
    rw [this]
    walk_at "q"
    exact up_of ⟨_, rfl, rfl⟩
  rintro Γ' M' ⟨z7, rfl, rfl⟩
  have hobl : (obG GG).length = (gsO GG).length := by unfold obG gsO; rw [List.length_map, List.length_map]
  rw [hobl, List.take_length]
  walk_at "q"
  refine at_frzV (M1 := [(sA, .dct (sightK (gsO GG)))]) (M2 := st12 a KP GG L W cl) 6 (d := .ob sA) (d' := .dct (sightK (gsO GG))) rfl (Sees.dct (j := 0) rfl .rfl) ?_
  walk_at "q"
  walk_at "sq"
  have hsrt : (srtS (W.map (·.1))).length ≤ 20 := by rw [(srtS_perm _).length_eq, List.length_map]; exact hWl
  obtain ⟨n, hn⟩ : ∃ n, n = netOf (gsO GG) (lsO L) := ⟨_, rfl⟩
  have hownV : ∀ (s : Str) (e : Addr × List (Int × Str)), W.lookup s = some e → valD (ownK W) (Sum.inr s) = some (.lst (e.2.map isD)) := fun s e h => (val_own W s).trans (by rw [h]; rfl)
  apply at_asg (d := .lst ((srtS (W.map (·.1))).map fun s => .tup [.str s, dueD (dueW (netOf (gsO GG) (lsO L)) W s)]))
  · apply EvN.toD
    have e0 : ((srtS (W.map (·.1))).map fun s => Dt.tup [.str s, dueD (dueW (netOf (gsO GG) (lsO L)) W s)]) = outL (fun _ => true) (fun s => Dt.tup [.str s, dueD (dueW (netOf (gsO GG) (lsO L)) W s)]) (srtS (W.map (·.1))) := by rw [outL_all]
    rw [e0]
    apply en_lc (srtS (W.map (·.1))) Dt.str (x0 := .lst ((srtS (W.map (·.1))).map Dt.str))
    · apply EvN.toD
      apply en_cb (ea_cons (ed_var rfl) ea_nil)
      exact c_sortD (.own (j := 3) rfl) (own_keys W) (by rw [List.length_map]; omega)
    · exact .inl .frz
    · omega
    · intro i s hs
      refine ⟨et_yes, fun _ => ?_⟩
      walk_at "q"
      obtain ⟨e, he⟩ := key_some (List.mem_of_getElem? hs)
      have hsl : SlOk ((gsO GG).map (·.1)) e.2 := hslW _ (lookup_mem he)
      have h4 := hsl.l4
      have hdw : dueW (netOf (gsO GG) (lsO L)) W s = dueOf (netOf (gsO GG) (lsO L)) (srtIS e.2) := by unfold dueW; rw [slOf_some he]
      rw [hdw]
      apply ed_tup
      · apply ea_cons (ed_var rfl)
        apply ea_cons
        · apply evd_callV (ds := [.lst ((srtIS e.2).map isD), .ob a.lA, .dct (sightK (gsO GG))]) (ds' := [.lst ((srtIS e.2).map seenD), .lst ((lsO L).map llD), .dct (sightK (gsO GG))])
          · apply ea_cons
            · apply EvN.toD
              apply en_cb
              · apply ea_cons
                · apply ed_op (ed_var rfl) (ed_var rfl)
                  exact u_ixD (.own (j := 3) rfl) (key := Sum.inr s) rfl (hownV s e he)
                · exact ea_nil
              · exact c_sortIS .frz
            exact ea_cons (ed_var rfl) (ea_cons (ed_var rfl) ea_nil)
          · exact SeesL.cons Sees.rfl (SeesL.cons (Sees.lst (j := 1) rfl (sees_lines fun e he => mem_l he)) SeesL.rfl)
          · exact ⟨gsO GG, lsO L, srtIS e.2, _, hWd, rfl, ⟨.frz, sl_pos hsl, by rw [sl_len hsl]; have : e.2.length ≤ 4 := h4; omega, fun k hk => ⟨(sl_diff hsl k hk).1, by have := (sl_diff hsl k hk).2; omega⟩⟩, rfl, rfl⟩
          · exact due_cl _
        exact ea_nil
      · walk_at "side"
  walk_at "q"
  walk_at "sq"
  apply at_asg (d := .lst ((srtS (W.map (·.1))).map (rowW (netOf (gsO GG) (lsO L)) W)))
  · apply EvN.toD
    have e0 : (srtS (W.map (·.1))).map (rowW (netOf (gsO GG) (lsO L)) W) = outL (fun _ => true) (rowW (netOf (gsO GG) (lsO L)) W) (srtS (W.map (·.1))) := by rw [outL_all]
    rw [e0]
    apply en_lc (srtS (W.map (·.1))) (fun s => Dt.tup [.str s, dueD (dueW (netOf (gsO GG) (lsO L)) W s)]) (x0 := .lst ((srtS (W.map (·.1))).map fun s => Dt.tup [.str s, dueD (dueW (netOf (gsO GG) (lsO L)) W s)]))
    · exact ed_var rfl
    · exact .inl .frz
    · omega
    · intro i s hs
      refine ⟨et_yes, fun _ => ?_⟩
      walk_at "q"
      unfold rowW
      cases hdw : dueW (netOf (gsO GG) (lsO L)) W s with
      | inl k =>
        apply ed_tup
        · apply ea_cons
          · exact ed_op (x := .tup [.str s, dueD (.inl k)]) (ed_var rfl) ed_int (u_ixT rfl)
          apply ea_cons
          · apply ed_op (x := .lst [.int (k : Int), .non]) (y := .int (if decide (("none" : Str) = "none") = true then 1 else 0))
            · apply EvN.toD
              apply en_lst
              · exact ea_cons (ed_op (x := .tup [.str "none", .int (k : Int)]) (ed_op (x := .tup [.str s, dueD (.inl k)]) (ed_var rfl) ed_int (u_ixT rfl)) ed_int (u_ixT rfl)) (ea_cons ed_non ea_nil)
              · walk_at "side"
            · apply ed_cb
              · exact ea_cons (ed_op (ed_op (x := .tup [.str "none", .int (k : Int)]) (ed_op (x := .tup [.str s, dueD (.inl k)]) (ed_var rfl) ed_int (u_ixT rfl)) ed_int (u_ixT rfl)) ed_str u_eqS) ea_nil
              · exact c_intB
            · rw [decide_eq_true rfl, if_pos rfl]
              exact u_ixL .frz rfl
          exact ea_nil
        · walk_at "side"
      | inr t =>
        apply ed_tup
        · apply ea_cons
          · exact ed_op (x := .tup [.str s, dueD (.inr t)]) (ed_var rfl) ed_int (u_ixT rfl)
          apply ea_cons
          · apply ed_op (x := .lst [.int t, .non]) (y := .int (if decide (("way" : Str) = "none") = true then 1 else 0))
            · apply EvN.toD
              apply en_lst
              · exact ea_cons (ed_op (x := .tup [.str "way", .int t]) (ed_op (x := .tup [.str s, dueD (.inr t)]) (ed_var rfl) ed_int (u_ixT rfl)) ed_int (u_ixT rfl)) (ea_cons ed_non ea_nil)
              · walk_at "side"
            · apply ed_cb
              · exact ea_cons (ed_op (ed_op (x := .tup [.str "way", .int t]) (ed_op (x := .tup [.str s, dueD (.inr t)]) (ed_var rfl) ed_int (u_ixT rfl)) ed_int (u_ixT rfl)) ed_str u_eqS) ea_nil
              · exact c_intB
            · rw [decide_eq_false (by decide +kernel), if_neg Bool.noConfusion]
              exact u_ixL .frz rfl
          exact ea_nil
        · walk_at "side"
  walk_at "q"
  walk_at "sq"
  apply at_asg (d := .bl (decide (((KP.map pairA).length : Int) % 2 = 1)))
  · apply ed_op
    · apply ed_op
      · apply ed_cb
        · exact ea_cons (ed_var rfl) ea_nil
        · exact u_lenL (.own (j := 0) rfl)
      · exact ed_int
      · apply op2_I; decide
    · exact ed_int
    · exact u_eqI
  walk_at "q"
  generalize decide (((KP.map pairA).length : Int) % 2 = 1) = first
  walk_at "sq"
  have hbill : ∀ (KP1 : List (List Dt)), (∀ A ∈ KP1, ShD 12 (.lst A)) → KP1.length ≤ 1000000 → ∀ {B G : Hp} {Γ : Gm} {E : XK}, Γ[1]? = some (some (watX (He.ga K "Net") (He.ga K "Watch") a)) → Γ[5]? = some (some (.ob a.kp)) → Γ[10]? = some (some (.lst ((srtS (W.map (·.1))).map (rowW (netOf (gsO GG) (lsO L)) W)))) →
      EvX K B G Γ (st12 a KP1 GG L W cl) (tCall (Vl.spT K (T_L_bill_stands K)) [] E (tCons (tVar 1) (tCons (tVar 10) (tCons (tVar 5) tNil)))) (fun d M' => d = .bl true ∧ ∃ KP2 : List (List Dt), (∀ A ∈ KP2, ShD 12 (.lst A)) ∧ KP2.length ≤ KP1.length + 1 ∧ M' = st12 a KP2 GG L W cl) := fun KP1 q1 q2 {B G Γ E} w1 w2 w3 => by
    apply evx_call (PX := fun _ _ => False) (ea_cons (ed_var w1) (ea_cons (ed_var w3) (ea_cons (ed_var w2) ea_nil)))
    · refine ⟨.ob a.d1, .ob a.l, .ob a.d2, gsO GG, lsO L, a.kd, a.kp, W, 4, 0, KP1, ⟨hWd, ⟨by omega, fun e he => ⟨hslW e he, hnmW e he⟩⟩, fun KP' => ⟨rfl, net12 (KP := KP') I.clo, fun e he => ?_⟩, rfl, q1, q2⟩, rfl, trivial, fun KP' q3 q4 => ⟨rfl, KP', q3, q4, rfl⟩⟩
      obtain ⟨j, hj⟩ := List.getElem?_of_mem (mem_w (a := a) (KP := KP') (G := GG) (L := L) (cl := cl) he)
      exact ⟨j, hj⟩
    · exact fun _ _ z => z.elim
  apply at_ifX (P := fun b' M2 => b' = false ∧ ∃ KP2 : List (List Dt), (∀ A ∈ KP2, ShD 12 (.lst A)) ∧ KP2.length ≤ KP.length + 1 ∧ M2 = st12 a KP2 GG L W cl)
  · apply etx_and (P1 := fun _ _ => True) (P := fun b' M2 => b' = first ∧ M2 = st12 a KP GG L W cl)
    · refine etx_of12 (b := first) ?_ ⟨rfl, rfl⟩
      exact et_B (ed_var rfl)
    · rintro M2 ⟨_, rfl⟩
      apply etx_not (P := fun b' M2 => b' = true ∧ ∃ KP2 : List (List Dt), (∀ A ∈ KP2, ShD 12 (.lst A)) ∧ KP2.length ≤ KP.length + 1 ∧ M2 = st12 a KP2 GG L W cl)
      · apply etx_B
        · exact hbill KP hKP (by omega) rfl rfl rfl
        · rintro d M2 ⟨rfl, h⟩
          exact ⟨true, rfl, rfl, h⟩
      · rintro b2 M2 ⟨rfl, h⟩
        exact ⟨rfl, h⟩
    · rintro M2 ⟨_, rfl⟩
      exact ⟨rfl, KP, hKP, by omega, rfl⟩
  · rintro M2 ⟨z, _⟩; cases z
  rintro M2 ⟨_, KP2, hK2, hl2, rfl⟩
  walk_at "nx"
  walk_at "sq"
  apply at_forK (kvs := ownK W) 3 rfl (ed_var rfl) (I := fun i Γ' => ∃ z9, Γ' = [some (netX (He.ga K "Net") a), some (watX (He.ga K "Net") (He.ga K "Watch") a), some (.ob a.o), some (.ob a.gA), some (.ob a.lA), some (.ob a.kp), some (.dct (sightK (gsO GG))), z7, some (.lst ((srtS (W.map (·.1))).map fun s => .tup [.str s, dueD (dueW (netOf (gsO GG) (lsO L)) W s)])), z9, some (.lst ((srtS (W.map (·.1))).map (rowW (netOf (gsO GG) (lsO L)) W))), none, some (.bl first)])
  · exact ⟨_, rfl⟩
  · rintro od xs B' G' hB rx rt bk i kv Γ' hkv ⟨z9, rfl⟩
    unfold ownK at hkv
    rw [List.getElem?_map] at hkv
    obtain ⟨e, he, rfl⟩ := Option.map_eq_some_iff.mp hkv
    have hem := List.mem_of_getElem? he
    have hlk := look_w I.kw hem
    have hsl := hslW e hem
    apply atg_name
    walk_at "q"
    apply at_ifX (P := fun b' M2 => b' = false ∧ M2 = (st12 a KP2 GG L W cl).eraseIdx 3)
    · apply etx_not (P := fun b' M2 => b' = true ∧ M2 = (st12 a KP2 GG L W cl).eraseIdx 3)
      · apply etx_B (P := fun d M2 => d = .bl true ∧ M2 = (st12 a KP2 GG L W cl).eraseIdx 3)
        · apply evx_callVX (ds := [netX (He.ga K "Net") a, .lst ((srtIS e.2.2).map isD), .dct (sightK (gsO GG)), .ob a.lA]) (ds' := [.inst (He.ga K "Net") (netF (.dct (sightK (gsO GG))) (.lst (((lsO L).map lineQ).map lineD)) (.dct (closedK cl))), .lst ((srtIS e.2.2).map seenD), .dct (sightK (gsO GG)), .lst ((lsO L).map llD)])
          · refine eax_cons (ed_var rfl).toX ?_
            rintro d M2 ⟨rfl, e1⟩
            rw [e1]
            refine eax_cons (evx_sortLock hB rx rfl (key := Sum.inr e.1) rfl (hownV e.1 e.2 hlk)) ?_
            rintro d M2 ⟨rfl, e1⟩
            rw [e1]
            refine eax_cons (ed_var rfl).toX ?_
            rintro d M2 ⟨rfl, e1⟩
            rw [e1]
            refine eax_cons (ed_var rfl).toX ?_
            rintro d M2 ⟨rfl, e1⟩
            rw [e1]
            exact eax_nil ⟨rfl, rfl⟩
          · have hcl : ∀ e ∈ L, lCell e ∈ (st12 a KP2 GG L W cl).eraseIdx 3 := fun e he => List.mem_append_right (as := [(a.kp, Ow.lst (KP2.map pairA)), (a.lA, .lst (obL L)), (a.gA, .lst (obG GG)), (a.kd, .dct (keptK W)), (a.d2, .dct (closedK cl)), (a.l, .lst (((lsO L).map lineQ).map lineD)), (a.d1, .dct (sightK (gsO GG)))]) (List.mem_append_right _ (List.mem_append_left _ (List.mem_map.mpr ⟨e, he, rfl⟩)))
            exact SeesL.cons (Sees.linst (SeesF.cons (Sees.dct (j := 6) rfl SeesK.rfl) (SeesF.cons (Sees.lst (j := 5) rfl SeesL.rfl) (SeesF.cons (Sees.dct (j := 4) rfl SeesK.rfl) SeesF.rfl)))) (SeesL.cons Sees.rfl (SeesL.cons Sees.rfl (SeesL.cons (Sees.lst (j := 1) rfl (sees_lines hcl)) SeesL.rfl)))
          · exact ⟨_, _, _, _, gsO GG, lsO L, srtIS e.2.2, hWd, rfl, ⟨⟨.frz, .frz, .of .frz fun i => (I.clo i).trans clo_mem.symm⟩, .frz, fun k hk => ⟨(sl_diff hsl k hk).1, by have := (sl_diff hsl k hk).2; omega⟩, sl_gate hsl⟩, rfl, rfl⟩
          · rfl
        · rintro d M2 ⟨rfl, h⟩
          exact ⟨true, rfl, rfl, h⟩
      · rintro b2 M2 ⟨rfl, h⟩
        exact ⟨rfl, h⟩
    · rintro M2 ⟨z, _⟩; cases z
    · rintro M2 ⟨_, rfl⟩
      apply at_next
      apply up_of
      exact ⟨⟨_, rfl⟩, rfl⟩
  rintro Γ' ⟨z9, rfl⟩
  walk_at "q"
  apply at_retX (P := fun d M' => d = .bl true ∧ ∃ KP' : List (List Dt), (∀ A ∈ KP', ShD 12 (.lst A)) ∧ KP'.length ≤ KP.length + 100 ∧ M' = st12 a KP' GG L W cl)
  · apply evx_andX (P1 := fun M' => ∃ KP3 : List (List Dt), (∀ A ∈ KP3, ShD 12 (.lst A)) ∧ KP3.length ≤ KP.length + 50 ∧ M' = st12 a KP3 GG L W cl)
    · apply evx_call (PX := fun _ _ => False) (ea_cons (ed_var rfl) (ea_cons (ed_var rfl) (ea_cons (ed_var rfl) (ea_cons (ed_var rfl) ea_nil))))
      · refine ⟨.ob a.d1, .ob a.l, .ob a.d2, gsO GG, lsO L, a.o, a.kp, W, 3, 0, KP2, srtS (W.map (·.1)), ⟨hWd, fun s hs => ?_, fun KP' => ⟨rfl, net12 (KP := KP') I.clo⟩, rfl, hK2, by omega⟩, rfl, trivial, fun KP' q3 q4 => ⟨rfl, KP', q3, by omega, rfl⟩⟩
        obtain ⟨e, he⟩ := key_some hs
        exact ⟨e, he, hslW _ (lookup_mem he), hnmW _ (lookup_mem he)⟩
      · exact fun _ _ z => z.elim
    · rintro M' ⟨KP3, hK3, hl3, rfl⟩
      apply EvX.imp
      · exact hbill KP3 hK3 (by omega) rfl rfl rfl
      · rintro d M' ⟨rfl, KP4, hK4, hl4, rfl⟩
        exact ⟨rfl, KP4, hK4, by omega, rfl⟩
  · rintro d M' ⟨rfl, KP', hK', hl', rfl⟩
    exact hQ _ _ (hR KP' hK' hl')
theorem ok_L_stands (c : Cxt K mg) : FnG P w K mg base (He.ga K "_law_stands") ["_law_net_here", "_law_watch", "_law_own", "_law_gates_here", "_law_lines_here", "_law_kept"] 11 (Vl.spT K (T_L_stands K)) := by
  obtain ⟨fd, F⟩ := F_L_stands c
  exact ⟨⟨fd, okF_L_stands c F, F.bindsN fun _ _ _ _ _ _ us hl => match us, hl with | [_, _, _, _, _, _], _ => rfl⟩, F.kp⟩
end
def T_Watch_forget (K : PySem.W.Frag) : TmV := fun ds M R X => ∃ (x : Dt) (kd : Addr) (W : WM) (j : Nat) (s : Str), ds = [.inst (He.ga K "Watch") (watchF x kd), .str s] ∧ M[j]? = some (kd, .dct (keptK W)) ∧
  (if (W.lookup s).isSome = true then R .non (M.set j (kd, .dct (keptK (dropW W s)))) else X (He.ga K "NoCar") M)
def N_Watch_forget : List Str := ["self", "car"]
theorem sc_Watch_forget : FnScope N_Watch_forget ["self", "car"] (defScope s_Watch_forget) := ⟨rfl, rfl, rfl, by decide +kernel, rfl, by decide +kernel, by decide +kernel⟩
section
variable {P : Program} {w : World} {K : PySem.W.Frag} {mg : Str → Option Value} {base : Heap}
theorem okF_Watch_forget {fd : FuncData} (c : Cxt K mg) (F : FunD K "forget" "Watch.forget" (defArgs s_Watch_forget) (defBody s_Watch_forget) (defScope s_Watch_forget) [] [] (He.ma K (He.ga K "Watch") "forget") fd) : FnOk P w K mg base (L2.CX P w) 1 (He.ma K (He.ga K "Watch") "forget") fd ["self", "car"] (Vl.spT K (T_Watch_forget K)) := by
  refine fnT F sc_Watch_forget (by decide) (fun ds M R X h => by obtain ⟨_, _, _, _, _, rfl, _⟩ := h; rfl) (fun cdv A outer s H E hr => ?_)
  have hu := hu_of hr
  have hu64 := hr.units
  refine ⟨_, (pss_cons (ps_if (pt_cmpR (kniU K rfl hu) (pv 1) (kfld K rfl (pv 0) rfl) (by rfl)) (pss_one (ps_raise rfl (takes_of rfl rfl rfl rfl) (pmk_own PySem.F.excBase_ValueError (x_NoCar c).1 (g_NoCar c) (x_NoCar c).2.1 (raises_own (x_NoCar c).2.2.1 (x_NoCar c).2.2.2) rfl))) pss_nil)
      (pss_one (ps_expr (pe_dpop1 (kfld K rfl (pv 0) rfl) (pv 1) ⟨rfl, rfl, rfl, rfl⟩)))), ?_⟩
  intro B G ds M R X Q ht hQ hX
  obtain ⟨x, kd, W, j, s, rfl, hj, hR⟩ := ht
  change At K B G [some _, some _] M _
  have fld : ∀ {Γ : Gm} {M' : Sto}, Γ[0]? = some (some (.inst (He.ga K "Watch") (watchF x kd))) → EvD K Γ M' (tFld K (tVar 0) "kept") (.ob kd) := fun h => by
    apply ed_fld
    · exact ed_var h
    · exact cl_Watch c
    · exact na_Watch_kept c
    · rfl
  walk_at "sq"
  apply at_if (b := !(W.lookup s).isSome)
  · apply et_test
    rw [← kept_some]
    apply ed_op
    · walk_at "ev"
    · exact fld rfl
    · exact u_niD (.own hj) rfl
  · intro h
    rw [if_neg (by
      cases q : (W.lookup s).isSome with
      | false => exact Bool.noConfusion
      | true => rw [q] at h; cases h)] at hR
    exact at_raise (hX _ _ hR)
  · intro h
    have h' : (W.lookup s).isSome = true := by
      cases q : (W.lookup s).isSome with
      | true => rfl
      | false => rw [q] at h; cases h
    rw [if_pos h'] at hR
    walk_at "nx"
    apply at_pop j (key := Sum.inr s)
    · exact fld rfl
    · exact hj
    · walk_at "ev"
    · rfl
    · rw [kept_some]; exact h'
    rw [kept_drop]
    exact fun F σ H k => hQ _ _ hR .non F _ σ H k .non
theorem ok_Watch_forget (c : Cxt K mg) : FnG P w K mg base (He.ma K (He.ga K "Watch") "forget") ["self", "car"] 1 (Vl.spT K (T_Watch_forget K)) := by
  obtain ⟨fd, F⟩ := F_Watch_forget c
  exact ⟨⟨fd, okF_Watch_forget c F, F.bindsN fun _ _ _ _ _ _ us hl => match us, hl with | [_, _], _ => rfl⟩, F.kp⟩
end
def T_Net_turn (K : PySem.W.Frag) : TmV := fun ds M R X => ∃ (d1 : Addr) (y z : Dt) (j : Nat) (g : List (Str × Bool)) (s : Str) (b : Bool) (_ : g.length ≤ 1000000), ds = [.inst (He.ga K "Net") (netF (.ob d1) y z), .str s, .bl b] ∧ M[j]? = some (d1, .dct (sightK g)) ∧
  (match g.lookup s with | none => X (He.ga K "NoGate") M | some v => if v = b then X (He.ga K "Already") M else R .non (M.set j (d1, .dct (sightK (putS g s b)))))
def N_Net_turn : List Str := ["self", "name", "sees"]
theorem sc_Net_turn : FnScope N_Net_turn ["self", "name", "sees"] (defScope s_Net_turn) := ⟨rfl, rfl, rfl, by decide +kernel, rfl, by decide +kernel, by decide +kernel⟩
section
variable {P : Program} {w : World} {K : PySem.W.Frag} {mg : Str → Option Value} {base : Heap}
theorem okF_Net_turn {fd : FuncData} (c : Cxt K mg) (F : FunD K "turn" "Net.turn" (defArgs s_Net_turn) (defBody s_Net_turn) (defScope s_Net_turn) [] [] (He.ma K (He.ga K "Net") "turn") fd) : FnOk P w K mg base (L2.CX P w) 2 (He.ma K (He.ga K "Net") "turn") fd ["self", "name", "sees"] (Vl.spT K (T_Net_turn K)) := by
  obtain ⟨⟨fd_Net_need, G_Net_need, b_Net_need⟩, k_Net_need⟩ := ok_Net_need (P := P) (w := w) (base := base) c
  refine fnT F sc_Net_turn (by decide) (fun ds M R X h => by obtain ⟨_, _, _, _, _, _, _, _, rfl, _⟩ := h; rfl) (fun cdv A outer s H E hr => ?_)
  have hu := hu_of hr
  have hu64 := hr.units
  refine ⟨_, (pss_cons (ps_expr (pe_meth (pv 0) (cl_Net c) (m_Net_need c) G_Net_need (hr.mono (by decide)) b_Net_need .nil (passes_call (takes_of rfl rfl rfl rfl) (fun _ _ _ _ h => h)) (pa_cons (pv 1) pa_nil)))
      (pss_cons (ps_if (pt_cmpR (keqU K rfl hu64) (pe_ix (kixU K rfl hu) (kfld K rfl (pv 0) rfl) (pv 1) (fun _ _ => rfl)) (pv 2) (nomark _)) (pss_one (ps_raise rfl (takes_of rfl rfl rfl rfl) (pmk_own PySem.F.excBase_ValueError (x_Already c).1 (g_Already c) (x_Already c).2.1 (raises_own (x_Already c).2.2.1 (x_Already c).2.2.2) rfl))) pss_nil)
      (pss_one (ps_asg (pv 2) (pg_sub (kfld K rfl (pv 0) rfl) (pv 1) (set_U hu)))))), ?_⟩
  intro B G ds M R X Q ht hQ hX
  obtain ⟨d1, y, z, j, g, s, b, hg, rfl, hj, hR⟩ := ht
  change At K B G [some _, some _, some _] M _
  have fld : ∀ {Γ : Gm} {M' : Sto}, Γ[0]? = some (some (.inst (He.ga K "Net") (netF (.ob d1) y z))) → EvD K Γ M' (tFld K (tVar 0) "sight") (.ob d1) := fun h => by
    apply ed_fld
    · exact ed_var h
    · exact cl_Net c
    · exact na_Net_sight c
    · rfl
  have hD : Dct M (.ob d1) (sightK g) := .own hj
  walk_at "sq"
  cases hh : g.lookup s with
  | none =>
    rw [hh] at hR
    apply at_dropX (P := fun _ _ => False)
    · apply evx_meth (PX := fun C M' => C = He.ga K "NoGate" ∧ M' = M)
      · walk_at "ev"
      · rfl
      · walk_at "ea"
      · exact ⟨_, y, z, g, s, rfl, hD, by rw [if_neg (by rw [hh]; exact Bool.noConfusion)]; exact ⟨rfl, rfl⟩⟩
      · rintro C M' ⟨rfl, rfl⟩
        exact hX _ _ hR
    · exact fun _ _ p => p.elim
  | some v =>
    rw [hh] at hR
    dsimp only at hR
    apply at_drop
    · apply evd_meth
      · walk_at "ev"
      · rfl
      · walk_at "ea"
      · exact ⟨_, y, z, g, s, rfl, hD, by rw [if_pos (by rw [hh]; rfl)]; exact ⟨rfl, rfl⟩⟩
    walk_at "q"
    walk_at "sq"
    apply at_if (b := decide (v = b))
    · apply et_test
      apply ed_op
      · apply ed_op
        · exact fld rfl
        · walk_at "ev"
        · apply u_ixD hD (key := Sum.inr s) (z := .bl v) rfl
          rw [val_sight, hh]; rfl
      · walk_at "ev"
      · exact u_eqB
    · intro h
      rw [if_pos (of_decide_eq_true h)] at hR
      exact at_raise (hX _ _ hR)
    · intro h
      rw [if_neg (of_decide_eq_false h)] at hR
      walk_at "nx"
      apply at_setD j (key := Sum.inr s) (d := .bl b)
      · walk_at "ev"
      · exact fld rfl
      · exact hj
      · walk_at "ev"
      · rfl
      · unfold sightK; rw [List.length_map]; omega
      rw [put_turn2 (by rw [hh]; rfl)]
      exact fun F σ H k => hQ _ _ hR .non F _ σ H k .non
theorem ok_Net_turn (c : Cxt K mg) : FnG P w K mg base (He.ma K (He.ga K "Net") "turn") ["self", "name", "sees"] 2 (Vl.spT K (T_Net_turn K)) := by
  obtain ⟨fd, F⟩ := F_Net_turn c
  exact ⟨⟨fd, okF_Net_turn c F, F.bindsN fun _ _ _ _ _ _ us hl => match us, hl with | [_, _, _], _ => rfl⟩, F.kp⟩
end
def T_Net_blind (K : PySem.W.Frag) : TmV := fun ds M R X => ∃ (d1 : Addr) (y z : Dt) (j : Nat) (g : List (Str × Bool)) (s : Str) (_ : g.length ≤ 1000000), ds = [.inst (He.ga K "Net") (netF (.ob d1) y z), .str s] ∧ M[j]? = some (d1, .dct (sightK g)) ∧
  (match g.lookup s with | none => X (He.ga K "NoGate") M | some v => if v = false then X (He.ga K "Already") M else R .non (M.set j (d1, .dct (sightK (putS g s false)))))
def N_Net_blind : List Str := ["self", "name"]
theorem sc_Net_blind : FnScope N_Net_blind ["self", "name"] (defScope s_Net_blind) := ⟨rfl, rfl, rfl, by decide +kernel, rfl, by decide +kernel, by decide +kernel⟩
section
variable {P : Program} {w : World} {K : PySem.W.Frag} {mg : Str → Option Value} {base : Heap}
theorem okF_Net_blind {fd : FuncData} (c : Cxt K mg) (F : FunD K "blind" "Net.blind" (defArgs s_Net_blind) (defBody s_Net_blind) (defScope s_Net_blind) [] [] (He.ma K (He.ga K "Net") "blind") fd) : FnOk P w K mg base (L2.CX P w) 3 (He.ma K (He.ga K "Net") "blind") fd ["self", "name"] (Vl.spT K (T_Net_blind K)) := by
  obtain ⟨⟨fd_Net_turn, G_Net_turn, b_Net_turn⟩, k_Net_turn⟩ := ok_Net_turn (P := P) (w := w) (base := base) c
  refine fnT F sc_Net_blind (by decide) (fun ds M R X h => by obtain ⟨_, _, _, _, _, _, _, rfl, _⟩ := h; rfl) (fun cdv A outer s H E hr => ?_)
  have hu := hu_of hr
  have hu64 := hr.units
  refine ⟨_, (pss_one (ps_expr (pe_meth (pv 0) (cl_Net c) (m_Net_turn c) G_Net_turn (hr.mono (by decide)) b_Net_turn .nil (passes_call (takes_of rfl rfl rfl rfl) (fun _ _ _ _ h => h)) (pa_cons (pv 1) (pa_cons pe_bl pa_nil))))), ?_⟩
  intro B G ds M R X Q ht hQ hX
  obtain ⟨d1, y, z, j, g, s, hg, rfl, hj, hR⟩ := ht
  change At K B G [some _, some _] M _
  apply at_dropX (P := fun d M' => R .non M')
  · apply evx_meth (PX := fun C M' => X C M')
    · walk_at "ev"
    · rfl
    · walk_at "ea"
    · refine ⟨d1, y, z, j, g, s, false, hg, rfl, hj, ?_⟩
      cases hh : g.lookup s with
      | none => rw [hh] at hR; exact hR
      | some v => rw [hh] at hR; exact hR
    · exact fun C M' h => hX _ _ h
  · intro d M' h
    exact fun F σ H k => hQ _ _ h .non F _ σ H k .non
theorem ok_Net_blind (c : Cxt K mg) : FnG P w K mg base (He.ma K (He.ga K "Net") "blind") ["self", "name"] 3 (Vl.spT K (T_Net_blind K)) := by
  obtain ⟨fd, F⟩ := F_Net_blind c
  exact ⟨⟨fd, okF_Net_blind c F, F.bindsN fun _ _ _ _ _ _ us hl => match us, hl with | [_, _], _ => rfl⟩, F.kp⟩
end
def T_Net_mend (K : PySem.W.Frag) : TmV := fun ds M R X => ∃ (d1 : Addr) (y z : Dt) (j : Nat) (g : List (Str × Bool)) (s : Str) (_ : g.length ≤ 1000000), ds = [.inst (He.ga K "Net") (netF (.ob d1) y z), .str s] ∧ M[j]? = some (d1, .dct (sightK g)) ∧
  (match g.lookup s with | none => X (He.ga K "NoGate") M | some v => if v = true then X (He.ga K "Already") M else R .non (M.set j (d1, .dct (sightK (putS g s true)))))
def N_Net_mend : List Str := ["self", "name"]
theorem sc_Net_mend : FnScope N_Net_mend ["self", "name"] (defScope s_Net_mend) := ⟨rfl, rfl, rfl, by decide +kernel, rfl, by decide +kernel, by decide +kernel⟩
section
variable {P : Program} {w : World} {K : PySem.W.Frag} {mg : Str → Option Value} {base : Heap}
theorem okF_Net_mend {fd : FuncData} (c : Cxt K mg) (F : FunD K "mend" "Net.mend" (defArgs s_Net_mend) (defBody s_Net_mend) (defScope s_Net_mend) [] [] (He.ma K (He.ga K "Net") "mend") fd) : FnOk P w K mg base (L2.CX P w) 3 (He.ma K (He.ga K "Net") "mend") fd ["self", "name"] (Vl.spT K (T_Net_mend K)) := by
  obtain ⟨⟨fd_Net_turn, G_Net_turn, b_Net_turn⟩, k_Net_turn⟩ := ok_Net_turn (P := P) (w := w) (base := base) c
  refine fnT F sc_Net_mend (by decide) (fun ds M R X h => by obtain ⟨_, _, _, _, _, _, _, rfl, _⟩ := h; rfl) (fun cdv A outer s H E hr => ?_)
  have hu := hu_of hr
  have hu64 := hr.units
  refine ⟨_, (pss_one (ps_expr (pe_meth (pv 0) (cl_Net c) (m_Net_turn c) G_Net_turn (hr.mono (by decide)) b_Net_turn .nil (passes_call (takes_of rfl rfl rfl rfl) (fun _ _ _ _ h => h)) (pa_cons (pv 1) (pa_cons pe_bl pa_nil))))), ?_⟩
  intro B G ds M R X Q ht hQ hX
  obtain ⟨d1, y, z, j, g, s, hg, rfl, hj, hR⟩ := ht
  change At K B G [some _, some _] M _
  apply at_dropX (P := fun d M' => R .non M')
  · apply evx_meth (PX := fun C M' => X C M')
    · walk_at "ev"
    · rfl
    · walk_at "ea"
    · refine ⟨d1, y, z, j, g, s, true, hg, rfl, hj, ?_⟩
      cases hh : g.lookup s with
      | none => rw [hh] at hR; exact hR
      | some v => rw [hh] at hR; exact hR
    · exact fun C M' h => hX _ _ h
  · intro d M' h
    exact fun F σ H k => hQ _ _ h .non F _ σ H k .non
theorem ok_Net_mend (c : Cxt K mg) : FnG P w K mg base (He.ma K (He.ga K "Net") "mend") ["self", "name"] 3 (Vl.spT K (T_Net_mend K)) := by
  obtain ⟨fd, F⟩ := F_Net_mend c
  exact ⟨⟨fd, okF_Net_mend c F, F.bindsN fun _ _ _ _ _ _ us hl => match us, hl with | [_, _], _ => rfl⟩, F.kp⟩
end
def T_Net_reopen (K : PySem.W.Frag) : TmV := fun ds M R X => ∃ (x y : Dt) (d2 : Addr) (j : Nat) (ls : List (Str × Str × Int × Int)) (cl : List Int) (i : Int), ds = [.inst (He.ga K "Net") (netF x y (.ob d2)), .int i] ∧ Lst M y (ls.map lineD) ∧ M[j]? = some (d2, .dct (closedK cl)) ∧ cl.length < 1000000 ∧
  (if ¬(0 ≤ i ∧ i < ls.length) then X (He.ga K "NoRoad") M else if ¬ i ∈ cl then X (He.ga K "Already") M else R .non (M.set j (d2, .dct (closedK (cloAfter cl i true)))))
def N_Net_reopen : List Str := ["self", "number"]
theorem sc_Net_reopen : FnScope N_Net_reopen ["self", "number"] (defScope s_Net_reopen) := ⟨rfl, rfl, rfl, by decide +kernel, rfl, by decide +kernel, by decide +kernel⟩
section
variable {P : Program} {w : World} {K : PySem.W.Frag} {mg : Str → Option Value} {base : Heap}
theorem okF_Net_reopen {fd : FuncData} (c : Cxt K mg) (F : FunD K "reopen" "Net.reopen" (defArgs s_Net_reopen) (defBody s_Net_reopen) (defScope s_Net_reopen) [] [] (He.ma K (He.ga K "Net") "reopen") fd) : FnOk P w K mg base (L2.CX P w) 2 (He.ma K (He.ga K "Net") "reopen") fd ["self", "number"] (Vl.spT K (T_Net_reopen K)) := by
  obtain ⟨⟨fd_Net_need_road, G_Net_need_road, b_Net_need_road⟩, k_Net_need_road⟩ := ok_Net_need_road (P := P) (w := w) (base := base) c
  refine fnT F sc_Net_reopen (by decide) (fun ds M R X h => by obtain ⟨_, _, _, _, _, _, _, rfl, _⟩ := h; rfl) (fun cdv A outer s H E hr => ?_)
  have hu := hu_of hr
  have hu64 := hr.units
  refine ⟨_, (pss_cons (ps_expr (pe_meth (pv 0) (cl_Net c) (m_Net_need_road c) G_Net_need_road (hr.mono (by decide)) b_Net_need_road .nil (passes_call (takes_of rfl rfl rfl rfl) (fun _ _ _ _ h => h)) (pa_cons (pv 1) pa_nil)))
      (pss_cons (ps_if (pt_cmpR (kniU K rfl hu) (pv 1) (kfld K rfl (pv 0) rfl) (by rfl)) (pss_one (ps_raise rfl (takes_of rfl rfl rfl rfl) (pmk_own PySem.F.excBase_ValueError (x_Already c).1 (g_Already c) (x_Already c).2.1 (raises_own (x_Already c).2.2.1 (x_Already c).2.2.2) rfl))) pss_nil)
      (pss_one (ps_expr (pe_dpop1 (kfld K rfl (pv 0) rfl) (pv 1) ⟨rfl, rfl, rfl, rfl⟩))))), ?_⟩
  intro B G ds M R X Q ht hQ hX
  obtain ⟨x, y, d2, j, ls, cl, i, rfl, hL, hj, hcl, hR⟩ := ht
  change At K B G [some _, some _] M _
  have fld : ∀ {Γ : Gm} {M' : Sto}, Γ[0]? = some (some (.inst (He.ga K "Net") (netF x y (.ob d2)))) → EvD K Γ M' (tFld K (tVar 0) "closed") (.ob d2) := fun h => by
    apply ed_fld
    · exact ed_var h
    · exact cl_Net c
    · exact na_Net_closed c
    · rfl
  walk_at "sq"
  by_cases h1 : 0 ≤ i ∧ i < ls.length
  · rw [if_neg (fun z => z h1)] at hR
    apply at_drop
    · apply evd_meth
      · walk_at "ev"
      · rfl
      · walk_at "ea"
      · exact ⟨x, y, _, ls, i, rfl, hL, by rw [if_pos h1]; exact ⟨rfl, rfl⟩⟩
    walk_at "q"
    walk_at "sq"
    apply at_if (b := !decide (i ∈ cl))
    · apply et_test
      rw [← val_closed]
      apply ed_op
      · walk_at "ev"
      · exact fld rfl
      · exact u_niD (.own hj) rfl
    · intro h
      rw [if_pos (by simpa using h)] at hR
      exact at_raise (hX _ _ hR)
    · intro h
      have hi : i ∈ cl := by simpa using h
      rw [if_neg (fun z => z hi)] at hR
      walk_at "nx"
      apply at_pop j (key := Sum.inl i)
      · exact fld rfl
      · exact hj
      · walk_at "ev"
      · rfl
      · rw [val_closed, decide_eq_true hi]
      rw [drop_closed]
      exact fun F σ H k => hQ _ _ hR .non F _ σ H k .non
  · rw [if_pos h1] at hR
    apply at_dropX (P := fun _ _ => False)
    · apply evx_meth (PX := fun C M' => C = He.ga K "NoRoad" ∧ M' = M)
      · walk_at "ev"
      · rfl
      · walk_at "ea"
      · exact ⟨x, y, _, ls, i, rfl, hL, by rw [if_neg h1]; exact ⟨rfl, rfl⟩⟩
      · rintro C M' ⟨rfl, rfl⟩
        exact hX _ _ hR
    · exact fun _ _ p => p.elim
theorem ok_Net_reopen (c : Cxt K mg) : FnG P w K mg base (He.ma K (He.ga K "Net") "reopen") ["self", "number"] 2 (Vl.spT K (T_Net_reopen K)) := by
  obtain ⟨fd, F⟩ := F_Net_reopen c
  exact ⟨⟨fd, okF_Net_reopen c F, F.bindsN fun _ _ _ _ _ _ us hl => match us, hl with | [_, _], _ => rfl⟩, F.kp⟩
end
def T_L_turned (K : PySem.W.Frag) : TmV := fun ds M R _ => ∃ (a : A12) (KP : List (List Dt)) (GG : OG) (L : OL) (W : WM) (cl : List Int) (i : Nat) (num : Int) (_ : I12 GG L W cl i ∧ i ≤ 20 ∧ 0 ≤ num), ds = [netX (He.ga K "Net") a, .ob a.gA, .ob a.lA, .int num] ∧ M = st12 a KP GG L W cl ∧
  ∀ d G' L' cl', I12 G' L' W cl' (i + 1) → R d (st12 a KP G' L' W cl')
def N_L_turned : List Str := ["_law_net_here", "_law_gates_here", "_law_lines_here", "_law_number", "_law_gate", "_law_line_here"]
theorem sc_L_turned : FnScope N_L_turned ["_law_net_here", "_law_gates_here", "_law_lines_here", "_law_number"] (defScope s_L_turned) := ⟨rfl, rfl, rfl, by decide +kernel, rfl, by decide +kernel, by decide +kernel⟩
section
variable {P : Program} {w : World} {K : PySem.W.Frag} {mg : Str → Option Value} {base : Heap}
theorem okF_L_turned {fd : FuncData} (c : Cxt K mg) (F : FunD K "_law_turned" "_law_turned" (defArgs s_L_turned) (defBody s_L_turned) (defScope s_L_turned) [] [] (He.ga K "_law_turned") fd) : FnOk P w K mg base (L2.CX P w) 4 (He.ga K "_law_turned") fd ["_law_net_here", "_law_gates_here", "_law_lines_here", "_law_number"] (Vl.spT K (T_L_turned K)) := by
  obtain ⟨⟨fd_Net_blind, G_Net_blind, b_Net_blind⟩, k_Net_blind⟩ := ok_Net_blind (P := P) (w := w) (base := base) c
  obtain ⟨⟨fd_Net_mend, G_Net_mend, b_Net_mend⟩, k_Net_mend⟩ := ok_Net_mend (P := P) (w := w) (base := base) c
  obtain ⟨⟨fd_L_line, G_L_line, b_L_line⟩, k_L_line⟩ := ok_L_line (P := P) (w := w) (base := base) c
  obtain ⟨⟨fd_Net_road, G_Net_road, b_Net_road⟩, k_Net_road⟩ := ok_Net_road (P := P) (w := w) (base := base) c
  obtain ⟨⟨fd_Net_close, G_Net_close, b_Net_close⟩, k_Net_close⟩ := ok_Net_close (P := P) (w := w) (base := base) c
  obtain ⟨⟨fd_Net_reopen, G_Net_reopen, b_Net_reopen⟩, k_Net_reopen⟩ := ok_Net_reopen (P := P) (w := w) (base := base) c
  refine fnT F sc_L_turned (by decide) (fun ds M R X h => by obtain ⟨_, _, _, _, _, _, _, _, _, rfl, _⟩ := h; rfl) (fun cdv A outer s H E hr => ?_)
  have hu := hu_of hr
  have hu64 := hr.units
  refine ⟨_, PSs.nox (pss_cons (ps_set (i := 4) sc_L_turned.nd rfl (Or.inl rfl) (pe_ix (kixU K rfl hu) (pv 1) (pe_op op_mod (pe_op op_fdiv (pv 3) pe_int) (pe_callB (klenU K rfl) (by rfl) (n_len c) PySem.boot_len (pa_cons (pv 1) pa_nil))) (fun _ _ => rfl)))
      (pss_cons (ps_if (PW.pt (pw_and (pt_cmpR (kltU K rfl hu64) (pe_op op_mod (pv 3) pe_int) pe_int (nomark _)) (pw_and1 (pt_val (pe_ix (kixU K rfl hu) (pv 4) pe_int (fun _ _ => rfl)))))) (pss_cons (ps_expr (pe_meth (pv 0) (cl_Net c) (m_Net_blind c) G_Net_blind (hr.mono (by decide)) b_Net_blind .nil passL (pa_cons (pe_ix (kixU K rfl hu) (pv 4) pe_int (fun _ _ => rfl)) pa_nil)))
      (pss_one (ps_asg pe_bl (pg_sub (pv 4) pe_int (set_U hu))))) (pss_one (ps_if (pt_cmpR (kltU K rfl hu64) (pe_op op_mod (pv 3) pe_int) pe_int (nomark _)) (pss_cons (ps_expr (pe_meth (pv 0) (cl_Net c) (m_Net_mend c) G_Net_mend (hr.mono (by decide)) b_Net_mend .nil passL (pa_cons (pe_ix (kixU K rfl hu) (pv 4) pe_int (fun _ _ => rfl)) pa_nil)))
      (pss_one (ps_asg pe_bl (pg_sub (pv 4) pe_int (set_U hu))))) (pss_one (ps_if (PW.pt (pw_and (pt_cmpR (kltU K rfl hu64) (pe_op op_mod (pv 3) pe_int) pe_int (nomark _)) (pw_and1 (pt_cmpR op_gt (pe_callB (klenU K rfl) (by rfl) (n_len c) PySem.boot_len (pa_cons (pv 2) pa_nil)) pe_int (nomark _))))) (pss_cons (ps_set (i := 5) sc_L_turned.nd rfl (Or.inl rfl) (pe_ix (kixU K rfl hu) (pv 2) (pe_op op_mod (pe_op op_fdiv (pv 3) pe_int) (pe_callB (klenU K rfl) (by rfl) (n_len c) PySem.boot_len (pa_cons (pv 2) pa_nil))) (fun _ _ => rfl)))
      (pss_cons (ps_if (pt_val (pe_ix (kixU K rfl hu) (pv 5) pe_int (fun _ _ => rfl))) (pss_one (ps_expr (pe_meth (pv 0) (cl_Net c) (m_Net_close c) G_Net_close (hr.mono (by decide)) b_Net_close .nil passL (pa_cons (pe_op op_mod (pe_op op_fdiv (pv 3) pe_int) (pe_callB (klenU K rfl) (by rfl) (n_len c) PySem.boot_len (pa_cons (pv 2) pa_nil))) pa_nil)))) (pss_one (ps_expr (pe_meth (pv 0) (cl_Net c) (m_Net_reopen c) G_Net_reopen (hr.mono (by decide)) b_Net_reopen .nil passL (pa_cons (pe_op op_mod (pe_op op_fdiv (pv 3) pe_int) (pe_callB (klenU K rfl) (by rfl) (n_len c) PySem.boot_len (pa_cons (pv 2) pa_nil))) pa_nil)))))
      (pss_one (ps_asg (pe_not (pe_ix (kixU K rfl hu) (pv 5) pe_int (fun _ _ => rfl))) (pg_sub (pv 5) pe_int (set_U hu)))))) (pss_cons (ps_set (i := 5) sc_L_turned.nd rfl (Or.inl rfl) (pe_call G_L_line (hr.mono (by decide)) (by rfl) (g_L_line c) k_L_line b_L_line .nil passL (pa_cons (pe_op op_fdiv (pv 3) pe_int) (pa_cons (pv 1) (pa_cons pe_int pa_nil)))))
      (pss_cons (ps_expr (pe_meth (pv 0) (cl_Net c) (m_Net_road c) G_Net_road (hr.mono (by decide)) b_Net_road .nil passL (pa_cons (pe_ix (kixU K rfl hu) (pv 5) pe_int (fun _ _ => rfl)) (pa_cons (pe_ix (kixU K rfl hu) (pv 5) pe_int (fun _ _ => rfl)) (pa_cons (pe_ix (kixU K rfl hu) (pv 5) pe_int (fun _ _ => rfl)) (pa_cons (pe_ix (kixU K rfl hu) (pv 5) pe_int (fun _ _ => rfl)) pa_nil))))))
      (pss_one (ps_expr (kbm K rfl PySem.F.plainAttrs_list PySem.F.slot_list_append PySem.F.type_list_append (mt_append) (pv 2) (pa_cons (pe_op (kaddU K rfl) (pe_slice (kslU K rfl) (pv 5) po_none (po_some pe_int)) (pe_lst (pa_cons pe_bl pa_nil))) pa_nil)))))))))))
      (pss_one (ps_ret (pv 4))))), ?_⟩
  intro B G ds M R X Q ht hQ hX
  obtain ⟨a, KP, GG, L, W, cl, i0, num, ⟨I, hi0, hnum⟩, rfl, hM, hR⟩ := ht
  change At K B G [some _, some _, some _, some _, none, none] M _
  subst hM
  apply at_nd
  intro nd
  have hWd := I.wd
  have hGl := I.g6
  have hLl := I.l
  have hg2 := hWd.g2
  have hglen : (gsO GG).length = GG.length := by unfold gsO; rw [List.length_map]
  have hobl : ((obG GG).length : Int) = (GG.length : Int) := by unfold obG; rw [List.length_map]
  have hobL : ((obL L).length : Int) = (L.length : Int) := by unfold obL; rw [List.length_map]
  have h7 : num % 7 < 7 := Int.emod_lt_of_pos _ (by decide)
  obtain ⟨num7, hn7⟩ : ∃ x, x = num / 7 := ⟨_, rfl⟩
  have hn70 : 0 ≤ num7 := by omega
  have hk0 := Int.emod_nonneg num7 (show (GG.length : Int) ≠ 0 by omega)
  have hk1 := Int.emod_lt_of_pos num7 (show (0 : Int) < GG.length by omega)
  obtain ⟨k, hk⟩ : ∃ k : Nat, num7 % (GG.length : Int) = (k : Int) := ⟨(num7 % (GG.length : Int)).toNat, by omega⟩
  have hkl : k < GG.length := by omega
  obtain ⟨⟨p, n, v⟩, he⟩ : ∃ e, GG[k]? = some e := ⟨_, List.getElem?_eq_getElem hkl⟩
  have hem := List.mem_of_getElem? he
  obtain ⟨j, hj⟩ := List.getElem?_of_mem (mem_g (a := a) (KP := KP) (L := L) (W := W) (cl := cl) hem)
  have hat : atI (obG GG) (k : Int) = some (.ob p) := atI_map (f := fun e : Addr × Str × Bool => Dt.ob e.1) (n := k) he rfl
  have h7E : ∀ {Γ : Gm} {M' : Sto}, Γ[3]? = some (some (.int num)) → EvD K Γ M' (tOp (rI CDiv fun i j => .int (i / j)) (tVar 3) (tC (.int 7))) (.int num7) := fun h => by
    rw [hn7]
    exact ed_op (ed_var h) ed_int (op2_I (by show L2.CDiv _ _; unfold L2.CDiv; omega))
  walk_at "sq"
  apply at_asg (d := .ob p)
  · apply ed_op (x := .ob a.gA) (y := .int (k : Int))
    · exact ed_var rfl
    · rw [← hk, ← hobl]
      apply ed_op
      · exact h7E rfl
      · exact ed_cb (ea_cons (ed_var rfl) ea_nil) (u_lenL (.own (j := 2) rfl))
      · apply op2_I
        show (0 : Int) < _
        omega
    · exact u_ixL (.own (j := 2) rfl) hat
  walk_at "q"
  walk_at "sq"
  have gE : ∀ (x : Int) (d : Dt) {Γ : Gm}, Γ[4]? = some (some (.ob p)) → atI [Dt.str n, .bl v] x = some d → EvD K Γ (st12 a KP GG L W cl) (tOp (rIxU K) (tVar 4) (tC (.int x))) d := fun x d {Γ} h h2 => ed_op (ed_var h) ed_int (u_ixL (.own hj) h2)
  have hpd1 : a.d1 ≠ p := fun z => by
    have := at_uniq nd (i := 7) (j := j) rfl hj z
    subst this
    have e1 : (st12 a KP GG L W cl)[7]? = some (a.d1, .dct (sightK (gsO GG))) := rfl
    rw [e1] at hj
    cases hj
  have hlk : (gsO GG).lookup n = some v := by
    have hm : (n, v) ∈ gsO GG := List.mem_map.mpr ⟨_, hem, rfl⟩
    cases q : (gsO GG).lookup n with
    | none => exact absurd rfl (lookup_none q _ hm)
    | some w =>
      have hm2 : (n, w) ∈ gsO GG := by
        rw [List.lookup_eq_some_iff] at q
        obtain ⟨l1, l2, e1, _⟩ := q
        rw [e1]; exact List.mem_append_right _ List.mem_cons_self
      exact congrArg some (congrArg Prod.snd (nodup_inj hWd.nd hm2 hm rfl))
  have hj2 : ∀ (o : Ow), ((st12 a KP GG L W cl).set 7 (a.d1, o))[j]? = some (p, .lst [.str n, .bl v]) := fun o => set_other hj (q := (a.d1, .dct (sightK (gsO GG)))) rfl (.inl fun z => hpd1 z.symm)
  have fin : ∀ (b : Bool) {Γ : Gm} {te : TE}, EvD K Γ (((st12 a KP GG L W cl).set 7 (a.d1, .dct (sightK (putS (gsO GG) n b)))).set j (p, .lst [.str n, .bl b])) te (.ob p) → At K B G Γ (((st12 a KP GG L W cl).set 7 (a.d1, .dct (sightK (putS (gsO GG) n b)))).set j (p, .lst [.str n, .bl b])) (tRet te { nx := fun _ H' => Q .non H', rt := Q }) := fun b {Γ te} h => by
    obtain ⟨I2, e2⟩ := i_turn I (b := b) he
    apply at_ret h
    have ha2 : (st12 a KP (GG.set k (p, n, b)) L W cl).map (·.1) = (st12 a KP GG L W cl).map (·.1) := by
      rw [adrs, adrs, map_set_self (f := fun e : Addr × Str × Bool => e.1) (y := (p, n, b)) he rfl]
    have hob : obG (GG.set k (p, n, b)) = obG GG := by
      unfold obG
      exact map_set_self (f := fun e : Addr × Str × Bool => Dt.ob e.1) (y := (p, n, b)) he rfl
    refine rt_sub (M' := st12 a KP (GG.set k (p, n, b)) L W cl) ?_ (ha2 ▸ nd) (hQ _ _ (hR _ _ _ _ I2))
    apply set_sub2 (o := .dct (sightK (gsO GG))) (w := .lst [.str n, .bl v]) rfl hj hpd1 nd ha2
    · rw [← e2]
      exact List.mem_of_getElem? (i := 7) rfl
    · exact mem_g (List.mem_of_getElem? (i := k) (by rw [List.getElem?_set, if_pos rfl, if_pos hkl]))
    · intro x hx
      rcases mem12 hx with hx | ⟨e, he', rfl⟩ | ⟨e, he', rfl⟩ | ⟨e, he', rfl⟩
      · unfold fix12 at hx
        rw [hob, e2] at hx
        simp only [List.mem_cons, List.not_mem_nil, or_false] at hx
        rcases hx with rfl | rfl | rfl | rfl | rfl | rfl | rfl | rfl
        · exact .inr (.inr (List.mem_of_getElem? (i := 0) rfl))
        · exact .inr (.inr (List.mem_of_getElem? (i := 1) rfl))
        · exact .inr (.inr (List.mem_of_getElem? (i := 2) rfl))
        · exact .inr (.inr (List.mem_of_getElem? (i := 3) rfl))
        · exact .inr (.inr (List.mem_of_getElem? (i := 4) rfl))
        · exact .inr (.inr (List.mem_of_getElem? (i := 5) rfl))
        · exact .inr (.inr (List.mem_of_getElem? (i := 6) rfl))
        · exact .inl rfl
      · rcases List.mem_or_eq_of_mem_set he' with h | h
        · exact .inr (.inr (mem_g h))
        · rw [h]; exact .inr (.inl rfl)
      · exact .inr (.inr (mem_l he'))
      · exact .inr (.inr (mem_w he'))
  have mod7 : ∀ (x : Int) {Γ : Gm} {M' : Sto}, Γ[3]? = some (some (.int num)) → EvT K Γ M' (tTest (tOp (rLtU K) (tOp (rI (fun _ j => 0 < j) fun i j => .int (i % j)) (tVar 3) (tC (.int 7))) (tC (.int x)))) (decide (num % 7 < x)) := fun x Γ M' h => et_test (ed_op (ed_op (ed_var h) ed_int (op2_I (by decide))) ed_int u_ltI)
  apply at_if (b := decide (num % 7 < 2) && v)
  · apply et_and
    · exact mod7 2 rfl
    · intro _
      exact et_B (gE 1 _ rfl rfl)
  · intro h
    rw [Bool.and_eq_true_iff] at h
    have hv : v = true := h.2
    walk_at "sq"
    apply at_dropX (P := fun d M' => M' = (st12 a KP GG L W cl).set 7 (a.d1, .dct (sightK (putS (gsO GG) n false))))
    · apply evx_meth (PX := fun _ _ => False)
      · exact ed_var rfl
      · rfl
      · exact ea_cons (gE 0 _ rfl rfl) ea_nil
      · refine ⟨a.d1, .ob a.l, .ob a.d2, 7, gsO GG, n, by omega, rfl, rfl, ?_⟩
        rw [hlk, hv]
        rfl
      · exact fun _ _ z => z.elim
    rintro d M' rfl
    walk_at "q"
    apply at_setL j (a := p) (ds := [.str n, .bl v]) (d := .bl false) (z := 1) (n := 1) ed_bl (ed_var rfl) (hj2 _) ed_int rfl
    walk_at "q"
    exact fin false (ed_var rfl)
  intro hA
  apply at_if (b := decide (num % 7 < 2))
  · exact mod7 2 rfl
  · intro h
    have hv : v = false := by rw [h, Bool.true_and] at hA; exact hA
    walk_at "sq"
    apply at_dropX (P := fun d M' => M' = (st12 a KP GG L W cl).set 7 (a.d1, .dct (sightK (putS (gsO GG) n true))))
    · apply evx_meth (PX := fun _ _ => False)
      · exact ed_var rfl
      · rfl
      · exact ea_cons (gE 0 _ rfl rfl) ea_nil
      · refine ⟨a.d1, .ob a.l, .ob a.d2, 7, gsO GG, n, by omega, rfl, rfl, ?_⟩
        rw [hlk, hv]
        rfl
      · exact fun _ _ z => z.elim
    rintro d M' rfl
    walk_at "q"
    apply at_setL j (a := p) (ds := [.str n, .bl v]) (d := .bl true) (z := 1) (n := 1) ed_bl (ed_var rfl) (hj2 _) ed_int rfl
    walk_at "q"
    exact fin true (ed_var rfl)
  intro hB
  clear fin hj2 gE
  apply at_if (b := decide (num % 7 < 5) && decide ((L.length : Int) > 0))
  · apply et_and
    · exact mod7 5 rfl
    · intro _
      apply et_test
      rw [← hobL]
      apply ed_op
      · exact ed_cb (ea_cons (ed_var rfl) ea_nil) (u_lenL (.own (j := 1) rfl))
      · exact ed_int
      · walk_at "op"
  · intro h
    rw [Bool.and_eq_true_iff] at h
    have hLp : 0 < L.length := by have := of_decide_eq_true h.2; omega
    have hm0 := Int.emod_nonneg num7 (show (L.length : Int) ≠ 0 by omega)
    have hm1 := Int.emod_lt_of_pos num7 (show (0 : Int) < L.length by omega)
    obtain ⟨m, hm⟩ : ∃ m : Nat, num7 % (L.length : Int) = (m : Int) := ⟨(num7 % (L.length : Int)).toNat, by omega⟩
    have hml : m < L.length := by omega
    obtain ⟨⟨q, l⟩, hl⟩ : ∃ e, L[m]? = some e := ⟨_, List.getElem?_eq_getElem hml⟩
    have hlm := List.mem_of_getElem? hl
    obtain ⟨jl, hjl⟩ := List.getElem?_of_mem (mem_l (a := a) (KP := KP) (G := GG) (W := W) (cl := cl) hlm)
    have hatL : atI (obL L) (m : Int) = some (.ob q) := atI_map (f := fun e : Addr × LineT => Dt.ob e.1) (n := m) hl rfl
    have ixE : ∀ {Γ : Gm} {M' : Sto} {jj : Nat}, M'[jj]? = some (a.lA, .lst (obL L)) → Γ[3]? = some (some (.int num)) → Γ[2]? = some (some (.ob a.lA)) → EvD K Γ M' (tOp (rI (fun _ j => 0 < j) fun i j => .int (i % j)) (tOp (rI CDiv fun i j => .int (i / j)) (tVar 3) (tC (.int 7))) (tCB (rLenU K) (tCons (tVar 2) tNil))) (.int (m : Int)) := fun {Γ M' jj} w1 w2 w3 => by
      rw [← hm, ← hobL]
      apply ed_op
      · exact h7E w2
      · exact ed_cb (ea_cons (ed_var w3) ea_nil) (u_lenL (.own w1))
      · apply op2_I
        show (0 : Int) < _
        omega
    have hqd2 : a.d2 ≠ q := fun z => by
      have := at_uniq nd (i := 5) (j := jl) rfl hjl z
      subst this
      have e1 : (st12 a KP GG L W cl)[5]? = some (a.d2, .dct (closedK cl)) := rfl
      rw [e1] at hjl
      cases hjl
    have hll : (lsO L).length = L.length := by unfold lsO; rw [List.length_map]
    have hlg : (lsO L).getD m default = l := by
      unfold lsO
      rw [List.getD_eq_getElem?_getD, List.getElem?_map, hl]; rfl
    have hclo := I.clo (m : Int)
    rw [Int.toNat_natCast, hlg, hll] at hclo
    have hcl1 := I.lc
    have I2 := i_shut I hi0 hl
    walk_at "sq"
    apply at_asg (d := .ob q)
    · exact ed_op (x := .ob a.lA) (y := .int (m : Int)) (ed_var rfl) (ixE (jj := 1) rfl rfl rfl) (u_ixL (.own (j := 1) rfl) hatL)
    walk_at "q"
    walk_at "sq"
    have lE : ∀ (x : Int) (d : Dt) {Γ : Gm} {M' : Sto} {jj : Nat}, M'[jj]? = some (q, .lst (llDs l)) → Γ[5]? = some (some (.ob q)) → atI (llDs l) x = some d → EvD K Γ M' (tOp (rIxU K) (tVar 5) (tC (.int x))) d := fun x d {Γ M' jj} h0 h h2 => ed_op (ed_var h) ed_int (u_ixL (.own h0) h2)
    apply at_join (fun Γ' M' => M' = (st12 a KP GG L W cl).set 5 (a.d2, .dct (closedK (cloAfter cl (m : Int) (!l.o)))) ∧ Γ' = [some (netX (He.ga K "Net") a), some (.ob a.gA), some (.ob a.lA), some (.int num), some (.ob p), some (.ob q)])
    · intro N hN
      apply at_if (b := l.o)
      · exact et_B (lE 4 _ hjl rfl rfl)
      · intro ho
        apply at_dropX (P := fun d M' => M' = (st12 a KP GG L W cl).set 5 (a.d2, .dct (closedK (cloAfter cl (m : Int) (!l.o)))))
        · apply evx_meth (PX := fun _ _ => False)
          · exact ed_var rfl
          · rfl
          · exact ea_cons (ixE (jj := 1) rfl rfl rfl) ea_nil
          · refine ⟨.ob a.d1, .ob a.l, a.d2, 5, (lsO L).map lineQ, cl, (m : Int), rfl, .own (j := 6) rfl, rfl, by omega, ?_⟩
            rw [if_neg (fun z => z ⟨by omega, by rw [List.length_map, hll]; omega⟩), if_neg (fun z => by have := (hclo.mp z).2.2; rw [ho] at this; cases this), ho]
            rfl
          · exact fun _ _ z => z.elim
        rintro d M' rfl
        apply hN
        exact ⟨rfl, rfl⟩
      · intro ho
        apply at_dropX (P := fun d M' => M' = (st12 a KP GG L W cl).set 5 (a.d2, .dct (closedK (cloAfter cl (m : Int) (!l.o)))))
        · apply evx_meth (PX := fun _ _ => False)
          · exact ed_var rfl
          · rfl
          · exact ea_cons (ixE (jj := 1) rfl rfl rfl) ea_nil
          · refine ⟨.ob a.d1, .ob a.l, a.d2, 5, (lsO L).map lineQ, cl, (m : Int), rfl, .own (j := 6) rfl, rfl, by omega, ?_⟩
            rw [if_neg (fun z => z ⟨by omega, by rw [List.length_map, hll]; omega⟩), if_neg (fun z => z (hclo.mpr ⟨by omega, by omega, ho⟩)), ho]
            rfl
          · exact fun _ _ z => z.elim
        rintro d M' rfl
        apply hN
        exact ⟨rfl, rfl⟩
    rintro Γ' M' ⟨rfl, rfl⟩
    have hjl2 : ((st12 a KP GG L W cl).set 5 (a.d2, .dct (closedK (cloAfter cl (m : Int) (!l.o)))))[jl]? = some (q, .lst (llDs l)) := set_other hjl (q := (a.d2, .dct (closedK cl))) rfl (.inl fun z => hqd2 z.symm)
    apply at_setL jl (a := q) (ds := llDs l) (d := .bl (!l.o)) (z := 4) (n := 4) (ed_notV (lE 4 _ hjl2 rfl rfl)) (ed_var rfl) hjl2 ed_int rfl
    walk_at "q"
    apply at_ret (ed_var rfl)
    have ha2 : (st12 a KP GG (L.set m (q, { l with o := !l.o })) W (cloAfter cl (m : Int) (!l.o))).map (·.1) = (st12 a KP GG L W cl).map (·.1) := by
      rw [adrs, adrs, map_set_self (f := fun e : Addr × LineT => e.1) (y := (q, { l with o := !l.o })) hl rfl]
    have hob : obL (L.set m (q, { l with o := !l.o })) = obL L := by
      unfold obL
      exact map_set_self (f := fun e : Addr × LineT => Dt.ob e.1) (y := (q, { l with o := !l.o })) hl rfl
    have hlq : (lsO (L.set m (q, { l with o := !l.o }))).map lineQ = (lsO L).map lineQ := by
      unfold lsO
      rw [List.map_map, List.map_map]
      exact map_set_self (f := lineQ ∘ fun e : Addr × LineT => e.2) (y := (q, { l with o := !l.o })) hl rfl
    refine rt_sub (M' := st12 a KP GG (L.set m (q, { l with o := !l.o })) W (cloAfter cl (m : Int) (!l.o))) ?_ (ha2 ▸ nd) (hQ _ _ (hR _ _ _ _ I2))
    apply set_sub2 (o := .dct (closedK cl)) (w := .lst (llDs l)) rfl hjl hqd2 nd ha2
    · exact List.mem_of_getElem? (i := 5) rfl
    · exact mem_l (List.mem_of_getElem? (i := m) (by rw [List.getElem?_set, if_pos rfl, if_pos hml]))
    · intro x hx
      rcases mem12 hx with hx | ⟨e, he', rfl⟩ | ⟨e, he', rfl⟩ | ⟨e, he', rfl⟩
      · unfold fix12 at hx
        rw [hob, hlq] at hx
        simp only [List.mem_cons, List.not_mem_nil, or_false] at hx
        rcases hx with rfl | rfl | rfl | rfl | rfl | rfl | rfl | rfl
        · exact .inr (.inr (List.mem_of_getElem? (i := 0) rfl))
        · exact .inr (.inr (List.mem_of_getElem? (i := 1) rfl))
        · exact .inr (.inr (List.mem_of_getElem? (i := 2) rfl))
        · exact .inr (.inr (List.mem_of_getElem? (i := 3) rfl))
        · exact .inr (.inr (List.mem_of_getElem? (i := 4) rfl))
        · exact .inl rfl
        · exact .inr (.inr (List.mem_of_getElem? (i := 6) rfl))
        · exact .inr (.inr (List.mem_of_getElem? (i := 7) rfl))
      · exact .inr (.inr (mem_g he'))
      · rcases List.mem_or_eq_of_mem_set he' with h | h
        · exact .inr (.inr (mem_l h))
        · rw [h]; exact .inr (.inl rfl)
      · exact .inr (.inr (mem_w he'))
  intro _
  walk_at "sq"
  obtain ⟨l, hl⟩ : ∃ l, l = lineOf num7 (gsO GG) 1 := ⟨_, rfl⟩
  have hlok : LineOk (gsO GG) 1 l := by rw [hl]; exact lineOf_ok hg2 hWd.nd (Int.le_refl 1)
  have hcg : ∀ e ∈ GG, gCell e ∈ st12 a KP GG L W cl := fun e he => mem_g he
  apply at_asgN (o := .lst (llDs l))
  · rw [hl]
    apply evn_callV (ds := [.int num7, .ob a.gA, .int 1]) (ds' := [.int num7, .lst ((gsO GG).map gateD), .int 1])
    · exact ea_cons (h7E rfl) (ea_cons (ed_var rfl) (ea_cons ed_int ea_nil))
    · exact SeesL.cons Sees.rfl (SeesL.cons (Sees.lst (j := 2) rfl (sees_gates hcg)) SeesL.rfl)
    · exact ⟨num7, gsO GG, 1, rfl, ⟨hg2, by omega, by decide, by decide⟩, fun a => ⟨a, rfl, rfl⟩⟩
    · rfl
  intro p5
  walk_at "q"
  walk_at "sq"
  have lE : ∀ (x : Int) (d : Dt) {Γ : Gm} {M' : Sto}, Γ[5]? = some (some (.ob p5)) → atI (llDs l) x = some d → EvD K Γ ((p5, .lst (llDs l)) :: M') (tOp (rIxU K) (tVar 5) (tC (.int x))) d := fun x d {Γ M'} h h2 => ed_op (ed_var h) ed_int (u_ixL (.own (j := 0) rfl) h2)
  apply at_dropX (P := fun d M' => M' = (p5, Ow.lst (llDs l)) :: (st12 a KP GG L W cl).set 6 (a.l, .lst (((lsO L).map lineQ ++ [(l.a, l.b, l.m, l.t)]).map lineD)))
  · apply evx_meth (PX := fun _ _ => False)
    · exact ed_var rfl
    · rfl
    · exact ea_cons (lE 0 _ rfl rfl) (ea_cons (lE 1 _ rfl rfl) (ea_cons (lE 2 _ rfl rfl) (ea_cons (lE 3 _ rfl rfl) ea_nil)))
    · have hll : ((lsO L).map lineQ).length = L.length := by unfold lsO; rw [List.length_map, List.length_map]
      have hlo := hlok.lo
      have hhi := hlok.hi
      have ht0 := hlok.t0
      have ht1 := hlok.t1
      refine ⟨.ob a.d1, .ob a.d2, a.l, 7, gsO GG, (lsO L).map lineQ, l.a, l.b, l.m, l.t, by omega, rfl, .own (j := 8) rfl, rfl, ?_⟩
      rw [if_neg (fun z => z ⟨mem_look.mp hlok.a, mem_look.mp hlok.b⟩), if_neg hlok.ne, if_neg (fun z => z ⟨⟨by omega, by omega⟩, by omega, by omega⟩), if_neg (by omega)]
      rfl
    · exact fun _ _ z => z.elim
  rintro d M' rfl
  walk_at "q"
  apply at_appX (P := fun d M' => ∃ q, d = .ob q ∧ M' = (q, Ow.lst (llDs { l with o := true })) :: (p5, Ow.lst (llDs l)) :: (st12 a KP GG L W cl).set 6 (a.l, .lst (((lsO L).map lineQ ++ [(l.a, l.b, l.m, l.t)]).map lineD)))
  · exact ed_var rfl
  · exact (show ((p5, Ow.lst (llDs l)) :: (st12 a KP GG L W cl).set 6 (a.l, .lst (((lsO L).map lineQ ++ [(l.a, l.b, l.m, l.t)]).map lineD)))[2]? = some (a.lA, .lst (obL L)) from rfl)
  · apply EvN.toX
    rw [show llDs { l with o := true } = [Dt.str l.a, .str l.b, .int l.m, .int l.t] ++ [.bl true] from rfl]
    apply en_op (x := .lst [Dt.str l.a, .str l.b, .int l.m, .int l.t]) (y := .lst [.bl true])
    · exact EvD.is (en_slL (ds := llDs l) (x := .ob p5) (ed_var rfl) (.own (j := 0) rfl) ep_none (ep_some ed_int)).toD rfl
    · exact (en_lst (ea_cons ed_bl ea_nil) (by walk_at "side")).toD
    · exact u_addL .frz .frz (by show 4 + 1 ≤ 10000000; decide)
  · rintro d M' ⟨q, rfl, rfl⟩
    refine ⟨3, obL L, rfl, by omega, ?_⟩
    walk_at "q"
    apply at_nd
    intro nd3
    apply at_ret (ed_var rfl)
    have hob : obL (L ++ [(q, { l with o := true })]) = obL L ++ [.ob q] := by unfold obL; rw [List.map_append]; rfl
    have hlq : (lsO (L ++ [(q, { l with o := true })])).map lineQ = (lsO L).map lineQ ++ [(l.a, l.b, l.m, l.t)] := by unfold lsO; rw [List.map_append, List.map_append]; rfl
    have hne : a.l ≠ a.lA := fun z => by
      have := at_uniq nd (i := 6) (j := 1) (p := (a.l, .lst (((lsO L).map lineQ).map lineD))) (q := (a.lA, .lst (obL L))) rfl rfl z
      cases this
    have hsame : (((st12 a KP GG L W cl).set 6 (a.l, .lst (((lsO L).map lineQ ++ [(l.a, l.b, l.m, l.t)]).map lineD))).set 1 (a.lA, .lst (obL L ++ [.ob q]))).map (·.1) = (st12 a KP GG L W cl).map (·.1) := by
      refine (map_set_self (l := (st12 a KP GG L W cl).set 6 (a.l, .lst (((lsO L).map lineQ ++ [(l.a, l.b, l.m, l.t)]).map lineD))) (k := 1) (f := fun e : Addr × Ow => e.1) (x := (a.lA, .lst (obL L))) (y := (a.lA, .lst (obL L ++ [.ob q]))) rfl rfl).trans ?_
      exact map_set_self (l := st12 a KP GG L W cl) (k := 6) (f := fun e : Addr × Ow => e.1) (x := (a.l, .lst (((lsO L).map lineQ).map lineD))) (y := (a.l, .lst (((lsO L).map lineQ ++ [(l.a, l.b, l.m, l.t)]).map lineD))) rfl rfl
    have ndq : (q :: (st12 a KP GG L W cl).map (·.1)).Nodup := by
      rw [List.map_cons, List.map_cons, hsame] at nd3
      obtain ⟨n1, n2⟩ := List.nodup_cons.mp nd3
      obtain ⟨n3, n4⟩ := List.nodup_cons.mp n2
      exact List.nodup_cons.mpr ⟨fun z => n1 (List.mem_cons_of_mem _ z), n4⟩
    have ndN : ((st12 a KP GG (L ++ [(q, { l with o := true })]) W cl).map (·.1)).Nodup := by
      rw [adrs] at ndq ⊢
      refine (List.Perm.nodup_iff ?_).mpr ndq
      rw [List.map_append]
      have p1 : (adr12 a ++ (GG.map (·.1) ++ ((L.map (·.1) ++ [q]) ++ W.map (·.2.1)))).Perm (adr12 a ++ (q :: (GG.map (·.1) ++ (L.map (·.1) ++ W.map (·.2.1))))) := by
        apply List.Perm.append_left
        refine List.Perm.trans ?_ List.perm_middle
        apply List.Perm.append_left
        rw [List.append_assoc]
        exact List.perm_middle
      exact p1.trans List.perm_middle
    refine rt_sub (M' := st12 a KP GG (L ++ [(q, { l with o := true })]) W cl) (fun x hx => ?_) ndN (hQ _ _ (hR _ _ _ _ (i_road I hi0 (line_o hlok) rfl)))
    have := new_sub2 (M := st12 a KP GG L W cl) (N := st12 a KP GG (L ++ [(q, { l with o := true })]) W cl) (i := 6) (j := 1) (a := a.l) (b := a.lA) (q := q) (o := .lst (((lsO L).map lineQ).map lineD)) (o' := .lst (((lsO L).map lineQ ++ [(l.a, l.b, l.m, l.t)]).map lineD)) (w := .lst (obL L)) (w' := .lst (obL L ++ [.ob q])) (c := .lst (llDs { l with o := true })) rfl rfl hne ndN ?_ ?_ ?_ ?_ x hx
    · rcases List.mem_cons.mp this with h | h
      · rw [h]; exact List.mem_cons_self
      · exact List.mem_cons_of_mem _ (List.mem_cons_of_mem _ h)
    · exact mem_l (List.mem_append_right _ List.mem_cons_self)
    · rw [← hlq]; exact List.mem_of_getElem? (i := 6) rfl
    · rw [← hob]; exact List.mem_of_getElem? (i := 1) rfl
    · intro x hx
      rcases mem12 hx with hx | ⟨e, he', rfl⟩ | ⟨e, he', rfl⟩ | ⟨e, he', rfl⟩
      · unfold fix12 at hx
        rw [hob, hlq] at hx
        simp only [List.mem_cons, List.not_mem_nil, or_false] at hx
        rcases hx with rfl | rfl | rfl | rfl | rfl | rfl | rfl | rfl
        · exact .inr (.inr (.inr (List.mem_of_getElem? (i := 0) rfl)))
        · exact .inr (.inr (.inl rfl))
        · exact .inr (.inr (.inr (List.mem_of_getElem? (i := 2) rfl)))
        · exact .inr (.inr (.inr (List.mem_of_getElem? (i := 3) rfl)))
        · exact .inr (.inr (.inr (List.mem_of_getElem? (i := 4) rfl)))
        · exact .inr (.inr (.inr (List.mem_of_getElem? (i := 5) rfl)))
        · exact .inr (.inl rfl)
        · exact .inr (.inr (.inr (List.mem_of_getElem? (i := 7) rfl)))
      · exact .inr (.inr (.inr (mem_g he')))
      · rcases List.mem_append.mp he' with h | h
        · exact .inr (.inr (.inr (mem_l h)))
        · rw [List.mem_singleton.mp h]; exact .inl rfl
      · exact .inr (.inr (.inr (mem_w he')))
theorem ok_L_turned (c : Cxt K mg) : FnG P w K mg base (He.ga K "_law_turned") ["_law_net_here", "_law_gates_here", "_law_lines_here", "_law_number"] 4 (Vl.spT K (T_L_turned K)) := by
  obtain ⟨fd, F⟩ := F_L_turned c
  exact ⟨⟨fd, okF_L_turned c F, F.bindsN fun _ _ _ _ _ _ us hl => match us, hl with | [_, _, _, _], _ => rfl⟩, F.kp⟩
end
def T_L_cell_at : TmV := fun ds M R _ => ∃ (ns : List Int) (i : Int), ds = [.lsr (ns.map Dt.int), .int i] ∧ 0 ≤ i ∧ R (.int (cellAt ns i)) M
def N_L_cell_at : List Str := ["_law_script", "_law_k"]
theorem sc_L_cell_at : FnScope N_L_cell_at ["_law_script", "_law_k"] (defScope s_L_cell_at) := ⟨rfl, rfl, rfl, by decide +kernel, rfl, by decide +kernel, by decide +kernel⟩
section
variable {P : Program} {w : World} {K : PySem.W.Frag} {mg : Str → Option Value} {base : Heap}
theorem okF_L_cell_at {fd : FuncData} (c : Cxt K mg) (F : FunD K "_law_cell_at" "_law_cell_at" (defArgs s_L_cell_at) (defBody s_L_cell_at) (defScope s_L_cell_at) [] [] (He.ga K "_law_cell_at") fd) : FnOk P w K mg base (L2.CX P w) 1 (He.ga K "_law_cell_at") fd ["_law_script", "_law_k"] (Vl.spT K T_L_cell_at) := by
  refine fnT F sc_L_cell_at (by decide) (fun ds M R X h => by obtain ⟨_, _, rfl, _⟩ := h; rfl) (fun cdv A outer s H E hr => ?_)
  have hu := hu_of hr
  have hu64 := hr.units
  refine ⟨_, PSs.nox (pss_cons (ps_if (pt_cmpR (kltU K rfl hu64) (pv 1) (pe_callB (klenU K rfl) (by rfl) (n_len c) PySem.boot_len (pa_cons (pv 0) pa_nil)) (nomark _)) (pss_one (ps_ret (pe_ix (kixU K rfl hu) (pv 0) (pv 1) (fun _ _ => rfl)))) pss_nil)
      (pss_one (ps_ret pe_int))), ?_⟩
  intro B G ds M R X Q ht hQ hX
  obtain ⟨ns, i, rfl, h0, hR⟩ := ht
  change At K B G [some _, some _] M _
  apply at_seq; walk_at "if"
  · intro hb
    have hb' : i < (ns.length : Int) := by simpa using hb
    apply at_ret
    · walk_at "ev"
    · refine hQ _ _ ?_
      simpa [cellAt, hb'] using hR
  · intro hb
    have hb' : ¬ i < (ns.length : Int) := by simpa using hb
    walk_at "nx"
    apply at_ret
    · walk_at "ev"
    · refine hQ _ _ ?_
      simpa [cellAt, hb'] using hR
theorem ok_L_cell_at (c : Cxt K mg) : FnG P w K mg base (He.ga K "_law_cell_at") ["_law_script", "_law_k"] 1 (Vl.spT K T_L_cell_at) := by
  obtain ⟨fd, F⟩ := F_L_cell_at c
  exact ⟨⟨fd, okF_L_cell_at c F, F.bindsN fun _ _ _ _ _ _ us hl => match us, hl with | [_, _], _ => rfl⟩, F.kp⟩
end
def T_law : TmV := fun ds M R _ => ∃ (ns : List Int), ds = [.lsr (ns.map Dt.int)] ∧ ns.length ≤ 63 ∧ ∀ M', R (.bl true) M'
def N_law : List Str := ["_law_script", "_law_base", "_law_gates_here", "_law_turn", "_law_lines_here", "_law_k", "_law_net_here", "_law_watch", "_law_own", "_law_cars", "_law_kept", "_law_number", "_law_car"]
theorem sc_law : FnScope N_law ["_law_script"] (defScope s_law) := ⟨rfl, rfl, rfl, by decide +kernel, rfl, by decide +kernel, by decide +kernel⟩
section
variable {P : Program} {w : World} {K : PySem.W.Frag} {mg : Str → Option Value} {base : Heap}
theorem okF_law {fd : FuncData} (c : Cxt K mg) (F : FunD K "law" "law" (defArgs s_law) (defBody s_law) (defScope s_law) [] [] (He.ga K "law") fd) : FnOk P w K mg base (L2.CX P w) 12 (He.ga K "law") fd ["_law_script"] (Vl.spT K T_law) := by
  obtain ⟨⟨fd_L_mixed, G_L_mixed, b_L_mixed⟩, k_L_mixed⟩ := ok_L_mixed (P := P) (w := w) (base := base) c
  obtain ⟨⟨fd_L_net, G_L_net, b_L_net⟩, k_L_net⟩ := ok_L_net (P := P) (w := w) (base := base) c
  obtain ⟨⟨fd_Watch___init__, G_Watch___init__, b_Watch___init__⟩, k_Watch___init__⟩ := ok_Watch___init__ (P := P) (w := w) (base := base) c
  obtain ⟨⟨fd_L_kept_well, G_L_kept_well, b_L_kept_well⟩, k_L_kept_well⟩ := ok_L_kept_well (P := P) (w := w) (base := base) c
  obtain ⟨⟨fd_L_line, G_L_line, b_L_line⟩, k_L_line⟩ := ok_L_line (P := P) (w := w) (base := base) c
  obtain ⟨⟨fd_L_name, G_L_name, b_L_name⟩, k_L_name⟩ := ok_L_name (P := P) (w := w) (base := base) c
  obtain ⟨⟨fd_L_sighted, G_L_sighted, b_L_sighted⟩, k_L_sighted⟩ := ok_L_sighted (P := P) (w := w) (base := base) c
  obtain ⟨⟨fd_L_stands, G_L_stands, b_L_stands⟩, k_L_stands⟩ := ok_L_stands (P := P) (w := w) (base := base) c
  obtain ⟨⟨fd_Watch_forget, G_Watch_forget, b_Watch_forget⟩, k_Watch_forget⟩ := ok_Watch_forget (P := P) (w := w) (base := base) c
  obtain ⟨⟨fd_L_turned, G_L_turned, b_L_turned⟩, k_L_turned⟩ := ok_L_turned (P := P) (w := w) (base := base) c
  obtain ⟨⟨fd_L_cell_at, G_L_cell_at, b_L_cell_at⟩, k_L_cell_at⟩ := ok_L_cell_at (P := P) (w := w) (base := base) c
  refine fnT F sc_law (by decide) (fun ds M R X h => by obtain ⟨_, rfl, _⟩ := h; rfl) (fun cdv A outer s H E hr => ?_)
  have hu := hu_of hr
  have hu64 := hr.units
  refine ⟨_, PSs.nox (pss_cons (ps_set (i := 1) sc_law.nd rfl (Or.inr rfl) (pe_call G_L_mixed (hr.mono (by decide)) (by rfl) (g_L_mixed c) k_L_mixed b_L_mixed .nil passL (pa_cons (pv 0) (pa_cons pe_int pa_nil))))
      (pss_cons (ps_set (i := 2) sc_law.nd rfl (Or.inr rfl) (pe_lc (own := [("_law_turn", 3)]) (g := gName 3) (tt := tYes) rfl sc_law.nd (pi_range1 (by rfl) (n_range c) (pa_cons (pe_op (kaddU K rfl) pe_int (pe_op op_mod (pe_call G_L_cell_at (hr.mono (by decide)) (by rfl) (g_L_cell_at c) k_L_cell_at b_L_cell_at .nil passL (pa_cons (pv 0) (pa_cons pe_int pa_nil))) pe_int)) pa_nil)) (blkOk_by (own := [("_law_turn", 3)]) (N := N_law) (sc := defScope s_law) (by decide +kernel)) (fun _ _ _ _ _ => pg_name (i := 3) sc_law.nd rfl (Or.inl rfl)) (fun _ _ _ _ _ => pts_nil) (fun _ _ _ _ _ => (pe_lst (pa_cons (pe_call G_L_name (hr.mono (by decide)) (by rfl) (g_L_name c) k_L_name b_L_name .nil passL (pa_cons (pv 1) (pa_cons (pv 3) pa_nil))) (pa_cons (pe_cmpR (kneU K rfl hu64) (pe_op op_mod (pv 3) pe_int) pe_int (nomark _)) pa_nil))))))
      (pss_cons (ps_setLc (i := 4) (own := [("_law_k", 5)]) (g := gName 5) (tt := tYes) rfl sc_law.nd rfl rfl (sw_true rfl rfl rfl (by decide +kernel)) (pi_range1 (by rfl) (n_range c) (pa_cons (pe_op op_mod (pe_call G_L_mixed (hr.mono (by decide)) (by rfl) (g_L_mixed c) k_L_mixed b_L_mixed .nil passL (pa_cons (pv 0) (pa_cons pe_int pa_nil))) pe_int) pa_nil)) (blkOk_by (own := [("_law_k", 5)]) (N := N_law) (sc := defScope s_law) (by decide +kernel)) (fun _ _ _ _ _ => pg_name (i := 5) sc_law.nd rfl (Or.inl rfl)) (fun _ _ _ _ _ => pts_nil) (fun _ _ _ _ _ => (pe_call G_L_line (hr.mono (by decide)) (by rfl) (g_L_line c) k_L_line b_L_line .nil passL (pa_cons (pe_call G_L_mixed (hr.mono (by decide)) (by rfl) (g_L_mixed c) k_L_mixed b_L_mixed .nil passL (pa_cons (pv 0) (pa_cons (pe_op (kaddU K rfl) pe_int (pv 5)) pa_nil))) (pa_cons (pv 2) (pa_cons pe_int pa_nil))))))
      (pss_cons (ps_set (i := 6) sc_law.nd rfl (Or.inl rfl) (pe_call G_L_net (hr.mono (by decide)) (by rfl) (g_L_net c) k_L_net b_L_net .nil passL (pa_cons (pv 2) (pa_cons (pv 4) pa_nil))))
      (pss_cons (ps_set (i := 7) sc_law.nd rfl (Or.inl rfl) (pe_make (M_Watch c) G_Watch___init__ (hr.mono (by decide)) (by rfl) (g_Watch c) b_Watch___init__ .nil passL (pa_cons (pv 6) pa_nil)))
      (pss_cons (ps_set (i := 8) sc_law.nd rfl (Or.inl rfl) pe_dnewK)
      (pss_cons (ps_setLc (i := 9) (own := [("_law_turn", 3)]) (g := gName 3) (tt := tYes) rfl sc_law.nd rfl rfl (sw_true rfl rfl rfl (by decide +kernel)) (pi_range1 (by rfl) (n_range c) (pa_cons pe_int pa_nil)) (blkOk_by (own := [("_law_turn", 3)]) (N := N_law) (sc := defScope s_law) (by decide +kernel)) (fun _ _ _ _ _ => pg_name (i := 3) sc_law.nd rfl (Or.inl rfl)) (fun _ _ _ _ _ => pts_nil) (fun _ _ _ _ _ => (pe_call G_L_name (hr.mono (by decide)) (by rfl) (g_L_name c) k_L_name b_L_name .nil passL (pa_cons (pe_op op_fdiv (pv 1) pe_int) (pa_cons (pv 3) pa_nil)))))
      (pss_cons (ps_set (i := 10) sc_law.nd rfl (Or.inl rfl) (pe_lst pa_nil))
      (pss_cons (ps_for PassesOwn.never rfl (pi_range1 (by rfl) (n_range c) (pa_cons (pe_callB (call_min2X rfl) (by rfl) (n_min c) (by decide +kernel) (pa_cons pe_int (pa_cons (pe_op op_fdiv (pe_callB (klenU K rfl) (by rfl) (n_len c) PySem.boot_len (pa_cons (pv 0) pa_nil)) pe_int) pa_nil))) pa_nil)) (pg_name (i := 5) sc_law.nd rfl (Or.inl rfl)) (pss_cons (ps_set (i := 11) sc_law.nd rfl (Or.inl rfl) (pe_call G_L_mixed (hr.mono (by decide)) (by rfl) (g_L_mixed c) k_L_mixed b_L_mixed .nil passL (pa_cons (pv 0) (pa_cons (pe_op op_mulU pe_int (pv 5)) pa_nil))))
      (pss_cons (ps_set (i := 12) sc_law.nd rfl (Or.inl rfl) (pe_ix (kixU K rfl hu) (pv 9) (pe_op op_mod (pe_op op_fdiv (pv 11) pe_int) pe_int) (fun _ _ => rfl)))
      (pss_cons (ps_if (pt_cmpR (kltU K rfl hu64) (pe_op op_mod (pv 11) pe_int) pe_int (nomark _)) (pss_one (ps_expr (pe_call G_L_sighted (hr.mono (by decide)) (by rfl) (g_L_sighted c) k_L_sighted b_L_sighted .nil passL (pa_cons (pv 7) (pa_cons (pv 8) (pa_cons (pv 12) (pa_cons (pv 2) (pa_cons (pe_op op_fdiv (pv 11) pe_int) (pa_cons (pe_op op_mod (pe_call G_L_mixed (hr.mono (by decide)) (by rfl) (g_L_mixed c) k_L_mixed b_L_mixed .nil passL (pa_cons (pv 0) (pa_cons (pe_op (kaddU K rfl) (pe_op op_mulU pe_int (pv 5)) pe_int) pa_nil))) pe_int) pa_nil))))))))) (pss_one (ps_if (PW.pt (pw_and (pt_cmpR (keqU K rfl hu64) (pe_op op_mod (pv 11) pe_int) pe_int (nomark _)) (pw_and1 (pt_cmpR (kinU K rfl hu) (pv 12) (pv 8) (by rfl))))) (pss_cons (ps_expr (pe_meth (pv 7) (cl_Watch c) (m_Watch_forget c) G_Watch_forget (hr.mono (by decide)) b_Watch_forget .nil passL (pa_cons (pv 12) pa_nil)))
      (pss_one (ps_expr (pe_dpop1 (pv 8) (pv 12) ⟨rfl, rfl, rfl, rfl⟩)))) (pss_one (ps_expr (pe_call G_L_turned (hr.mono (by decide)) (by rfl) (g_L_turned c) k_L_turned b_L_turned .nil passL (pa_cons (pv 6) (pa_cons (pv 2) (pa_cons (pv 4) (pa_cons (pe_call G_L_mixed (hr.mono (by decide)) (by rfl) (g_L_mixed c) k_L_mixed b_L_mixed .nil passL (pa_cons (pv 0) (pa_cons (pe_op (kaddU K rfl) (pe_op op_mulU pe_int (pv 5)) pe_int) pa_nil))) pa_nil))))))))))
      (pss_one (ps_if (pt_not (pt_val (pe_call G_L_stands (hr.mono (by decide)) (by rfl) (g_L_stands c) k_L_stands b_L_stands .nil passL (pa_cons (pv 6) (pa_cons (pv 7) (pa_cons (pv 8) (pa_cons (pv 2) (pa_cons (pv 4) (pa_cons (pv 10) pa_nil))))))))) (pss_one (ps_ret pe_bl)) pss_nil))))))
      (pss_one (ps_ret (pe_call G_L_kept_well (hr.mono (by decide)) (by rfl) (g_L_kept_well c) k_L_kept_well b_L_kept_well .nil passL (pa_cons (pv 10) pa_nil))))))))))))), ?_⟩
  intro B G ds M R X Q ht hQ hX
  obtain ⟨ns, rfl, hn, hR⟩ := ht
  change At K B G [some _, none, none, none, none, none, none, none, none, none, none, none, none] M _
  have mix : ∀ (i : Nat) {Γ : Gm} {M' : Sto} {t u : TE}, EvD K Γ M' t (.lsr (ns.map Dt.int)) → EvD K Γ M' u (.int (i : Int)) → EvD K Γ M' (tCall (Vl.spT K T_L_mixed) [] E0 (tCons t (tCons u tNil))) (.int (mixed ns i)) := fun i Γ M' t u h hu => by
    apply evd_call (ea_cons h (ea_cons hu ea_nil))
    exact ⟨ns, i, rfl, by omega, rfl, rfl⟩
  have cell : ∀ (i : Nat) {Γ : Gm} {M' : Sto} {t : TE}, EvD K Γ M' t (.lsr (ns.map Dt.int)) → EvD K Γ M' (tCall (Vl.spT K T_L_cell_at) [] E0 (tCons t (tCons (tC (.int (i : Int))) tNil))) (.int (cellAt ns i)) := fun i Γ M' t h => by
    apply evd_call (ea_cons h (ea_cons ed_int ea_nil))
    exact ⟨ns, i, rfl, by omega, rfl, rfl⟩
  have hm0 := mixed_nn ns 3
  have hm1 := mixed_lt ns 3
  walk_at "sq"
  apply at_asg (d := .int (mixed ns 3))
  · exact mix 3 (ed_var rfl) ed_int
  walk_at "q"
  obtain ⟨b, hb⟩ : ∃ b, b = mixed ns 3 := ⟨_, rfl⟩
  rw [← hb]
  have hb0 : 0 ≤ b := by omega
  have hb1 : b < 2 ^ 40 := by omega
  clear hb hm0 hm1
  walk_at "sq"
  have c0 := Int.emod_nonneg (cellAt ns 0) (show (5 : Int) ≠ 0 by decide)
  have c1 := Int.emod_lt_of_pos (cellAt ns 0) (show (0 : Int) < 5 by decide)
  obtain ⟨n, hnn⟩ : ∃ n : Nat, 2 + cellAt ns 0 % 5 = (n : Int) := ⟨(2 + cellAt ns 0 % 5).toNat, by omega⟩
  have hn2 : 2 ≤ n := by omega
  have hn6 : n ≤ 6 := by omega
  apply at_asgX
  · apply evx_lcN (n := (n : Int)) (o := fun t : Nat => Ow.lst [.str (nameOf b (t : Int)), .bl (see12 t)])
    · rw [← hnn]
      exact ea_cons (ed_op ed_int (ed_op (cell 0 (ed_var rfl)) ed_int (op2_I (by decide))) u_addI) ea_nil
    · omega
    · omega
    · intro i X hi
      walk_at "q"
      apply en_lst
      · apply ea_cons
        · apply evd_call (ea_cons (ed_var rfl) (ea_cons (ed_var rfl) ea_nil))
          exact ⟨b, (i : Int), rfl, ⟨hb0, hb1, by omega, by omega⟩, rfl, rfl⟩
        apply ea_cons
        · exact ed_op (ed_op (ed_var rfl) ed_int (op2_I (by decide))) ed_int u_neI
        exact ea_nil
      · walk_at "side"
  rintro d M' ⟨gA, as, hasl, rfl, rfl⟩
  walk_at "q"
  rw [Int.toNat_natCast] at hasl ⊢
  obtain ⟨GG, hGG⟩ : ∃ GG : OG, GG = as.zip (gs12 b n) := ⟨_, rfl⟩
  have hlen0 : as.length = (gs12 b n).length := by rw [gs12_len]; exact hasl
  have hgsO : gsO GG = gs12 b n := by rw [hGG]; exact zip_snd hlen0
  have hobG : as.map Dt.ob = obG GG := by rw [hGG]; exact (zip_fst Dt.ob hlen0).symm
  have hcG : as.zip ((List.range n).map fun t : Nat => Ow.lst [.str (nameOf b (t : Int)), .bl (see12 t)]) = GG.map gCell := by
    rw [hGG, show ((List.range n).map fun t : Nat => Ow.lst [.str (nameOf b (t : Int)), .bl (see12 t)]) = (gs12 b n).map fun g => Ow.lst [.str g.1, .bl g.2] by unfold gs12; rw [List.map_map]; rfl, zip_cell]
    rfl
  rw [hcG, hobG]
  have hGl : GG.length = n := by rw [hGG, List.length_zip, hasl, gs12_len]; omega
  walk_at "sq"
  have e0 := Int.emod_nonneg (mixed ns 19) (show (7 : Int) ≠ 0 by decide)
  have e1 := Int.emod_lt_of_pos (mixed ns 19) (show (0 : Int) < 7 by decide)
  obtain ⟨n2, hnl⟩ : ∃ n2 : Nat, mixed ns 19 % 7 = (n2 : Int) := ⟨(mixed ns 19 % 7).toNat, by omega⟩
  have hn26 : n2 ≤ 6 := by omega
  have hcg : ∀ (X : Sto), ∀ e ∈ GG, gCell e ∈ X ++ ((gA, Ow.lst (obG GG)) :: ((GG.map gCell).reverse ++ M)) := fun X e he => List.mem_append_right _ (List.mem_cons_of_mem _ (List.mem_append_left _ (List.mem_reverse.mpr (List.mem_map.mpr ⟨e, he, rfl⟩))))
  apply at_asgX
  · apply evx_lcN (n := (n2 : Int)) (o := fun k : Nat => Ow.lst (llDs (lineOf (mixed ns (40 + (k : Int))) (gsO GG) 1)))
    · rw [← hnl]
      exact ea_cons (ed_op (mix 19 (ed_var rfl) ed_int) ed_int (op2_I (by decide))) ea_nil
    · omega
    · omega
    · intro i X hi
      walk_at "q"
      apply evn_callV (ds := [.int (mixed ns (40 + (i : Int))), .ob gA, .int 1]) (ds' := [.int (mixed ns (40 + (i : Int))), .lst ((gsO GG).map gateD), .int 1])
      · apply ea_cons
        · apply EvD.is
          · apply mix (40 + i) (ed_var rfl)
            apply EvD.is
            · exact ed_op ed_int (ed_var rfl) u_addI
            · congr 1
          · congr 2
        exact ea_cons (ed_var rfl) (ea_cons ed_int ea_nil)
      · refine SeesL.cons Sees.rfl (SeesL.cons (Sees.lst (j := X.length) ?_ (sees_gates (hcg X))) SeesL.rfl)
        rw [List.getElem?_append_right (Nat.le_refl _), Nat.sub_self]; rfl
      · exact ⟨mixed ns (40 + (i : Int)), gsO GG, 1, rfl, ⟨by rw [hgsO, gs12_len]; exact hn2, by rw [hgsO, gs12_len]; omega, by decide, by decide⟩, fun a => ⟨a, rfl, rfl⟩⟩
      · rfl
  rintro d M' ⟨lA, as2, hasl2, rfl, rfl⟩
  walk_at "q"
  rw [Int.toNat_natCast] at hasl2 ⊢
  obtain ⟨L, hL⟩ : ∃ L : OL, L = as2.zip (ls12 ns (gs12 b n) n2) := ⟨_, rfl⟩
  have hll0 : (ls12 ns (gs12 b n) n2).length = n2 := by unfold ls12; rw [List.length_map, List.length_range]
  have hlen1 : as2.length = (ls12 ns (gs12 b n) n2).length := by rw [hll0]; exact hasl2
  have hlsO : lsO L = ls12 ns (gs12 b n) n2 := by rw [hL]; exact zip_snd hlen1
  have hobL : as2.map Dt.ob = obL L := by rw [hL]; exact (zip_fst Dt.ob hlen1).symm
  have hcL : as2.zip ((List.range n2).map fun k : Nat => Ow.lst (llDs (lineOf (mixed ns (40 + (k : Int))) (gsO GG) 1))) = L.map lCell := by
    rw [hL, hgsO, show ((List.range n2).map fun k : Nat => Ow.lst (llDs (lineOf (mixed ns (40 + (k : Int))) (gs12 b n) 1))) = (ls12 ns (gs12 b n) n2).map fun l => Ow.lst (llDs l) by unfold ls12; rw [List.map_map]; rfl, zip_cell]
    rfl
  rw [hcL, hobL]
  have hLl : L.length = n2 := by rw [hL, List.length_zip, hasl2, hll0]; omega
  have hWd : WdOk (gsO GG) (lsO L) 1 := by rw [hgsO, hlsO]; exact wd12 ns b hn2 hn6 hn26
  walk_at "sq"
  apply at_asgX (P := fun d M' => ∃ d1 l d2, d = .inst (He.ga K "Net") (netF (.ob d1) (.ob l) (.ob d2)) ∧ M' = (d2, Ow.dct (closedK (closedOf (lsO L)))) :: (l, Ow.lst (((lsO L).map lineQ).map lineD)) :: (d1, Ow.dct (sightK (gsO GG))) :: (lA, Ow.lst (obL L)) :: ((L.map lCell).reverse ++ ((gA, Ow.lst (obG GG)) :: ((GG.map gCell).reverse ++ M))))
  · apply evx_call (PX := fun _ _ => False) (ea_cons (ed_var rfl) (ea_cons (ed_var rfl) ea_nil))
    · refine ⟨gA, lA, (L.map lCell).reverse.length + 1, 0, GG, L, ⟨?_, rfl, fun e he => ?_, fun e he => ?_⟩, rfl, hWd, fun d1 l d2 => ⟨d1, l, d2, rfl, rfl⟩⟩
      · rw [List.getElem?_cons_succ, List.getElem?_append_right (Nat.le_refl _), Nat.sub_self]; rfl
      · exact List.mem_cons_of_mem _ (hcg _ e he)
      · exact List.mem_cons_of_mem _ (List.mem_append_left _ (List.mem_reverse.mpr (List.mem_map.mpr ⟨e, he, rfl⟩)))
    · exact fun _ _ z => z.elim
  rintro d M' ⟨d1, l, d2, rfl, rfl⟩
  walk_at "q"
  walk_at "sq"
  apply at_asgX
  · apply evx_mkWatch (C := He.ga K "Watch") (x := .inst (He.ga K "Net") (netF (.ob d1) (.ob l) (.ob d2)))
    · exact ed_var rfl
    · exact cl_Watch c
    · rintro f (rfl | rfl)
      · exact na_Watch_net c
      · exact na_Watch_kept c
  rintro d M0 ⟨kd, rfl, rfl⟩
  walk_at "q"
  walk_at "sq"
  apply at_asgN (o := .dct [])
  · exact en_dnew
  intro o
  walk_at "q"
  walk_at "sq"
  apply at_asg (d := .lst ((List.range 2).map fun t : Nat => Dt.str (nameOf (b / 5) (t : Int))))
  · apply EvN.toD
    have e : ((List.range 2).map fun t : Nat => Dt.str (nameOf (b / 5) (t : Int))) = outL (fun _ => true) (fun t : Nat => Dt.str (nameOf (b / 5) (t : Int))) (List.range ((2 : Int)).toNat) := by
      rw [outL_all]; rfl
    rw [e]
    apply en_lcR (n := 2) (fun _ => true) (fun t : Nat => Dt.str (nameOf (b / 5) (t : Int)))
    · walk_at "ea"
    · omega
    · omega
    · intro i hi
      refine ⟨et_yes, fun _ => ?_⟩
      walk_at "q"
      apply evd_call
      · walk_at "ea"
      · exact ⟨b / 5, (i : Int), rfl, ⟨by omega, by omega, by omega, by omega⟩, rfl, rfl⟩
  walk_at "q"
  walk_at "sq"
  apply at_asgN (o := .lst [])
  · exact en_lst ea_nil (by walk_at "side")
  intro kp
  walk_at "q"
  obtain ⟨a, ha⟩ : ∃ a : A12, a = ⟨kp, lA, gA, o, kd, d2, l, d1⟩ := ⟨_, rfl⟩
  have hper := perm12 (a := a) (KP := []) (G := GG) (L := L) (cl := closedOf (lsO L)) (M := M)
  rw [ha] at hper
  refine at_perm hper ?_
  refine at_cells (M' := st12 ⟨kp, lA, gA, o, kd, d2, l, d1⟩ [] GG L [] (closedOf (lsO L))) ?_ (List.sublist_append_left _ _)
  rw [← ha]
  have hI : I12 GG L [] (closedOf (lsO L)) 0 := ⟨hWd, by omega, by omega, fun i => clo_mem, by
    have : (closedOf (lsO L)).length ≤ (lsO L).length := by
      unfold closedOf
      rw [List.length_map]
      exact Nat.le_trans (List.length_filter_le _ _) (by rw [List.length_range]; exact Nat.le_refl _)
    have h2 : (lsO L).length = L.length := by unfold lsO; rw [List.length_map]
    omega, Nat.le_refl _, List.nodup_nil, fun e he => nomatch he⟩
  have hnet : (Dt.inst (He.ga K "Net") (netF (.ob d1) (.ob l) (.ob d2))) = netX (He.ga K "Net") a := by rw [ha]; rfl
  have hwat : (Dt.inst (He.ga K "Watch") (watchF (.inst (He.ga K "Net") (netF (.ob d1) (.ob l) (.ob d2))) kd)) = watX (He.ga K "Net") (He.ga K "Watch") a := by rw [ha]; rfl
  have hgAe : gA = a.gA := by rw [ha]
  have hlAe : lA = a.lA := by rw [ha]
  have hoe : o = a.o := by rw [ha]
  have hkpe : kp = a.kp := by rw [ha]
  rw [hwat, hnet, hgAe, hlAe, hoe, hkpe]
  clear hper hnet hwat hgAe hlAe hoe hkpe
  walk_at "sq"
  obtain ⟨nn, hnn3, hnn9⟩ : ∃ nn : Nat, (if ((ns.map Dt.int).length : Int) / 2 < 9 then ((ns.map Dt.int).length : Int) / 2 else 9) = (nn : Int) ∧ nn ≤ 9 := by
    have := Int.ediv_nonneg (show (0 : Int) ≤ ((ns.map Dt.int).length : Int) by omega) (show (0 : Int) ≤ 2 by decide)
    refine ⟨(if ((ns.map Dt.int).length : Int) / 2 < 9 then ((ns.map Dt.int).length : Int) / 2 else 9).toNat, ?_, ?_⟩
    · split <;> omega
    · split <;> omega
  apply at_forR1 (n := (nn : Int)) (I := fun i Γ' M' => ∃ (KP : List (List Dt)) (G' : OG) (L' : OL) (W : WM) (cl : List Int) (z3 z5 z11 z12 : Option Dt), I12 G' L' W cl i ∧ (∀ A ∈ KP, ShD 12 (.lst A)) ∧ KP.length ≤ 1000 * i ∧ Γ' = [some (Dt.lsr (ns.map Dt.int)), some (.int b), some (.ob a.gA), z3, some (.ob a.lA), z5, some (netX (He.ga K "Net") a), some (watX (He.ga K "Net") (He.ga K "Watch") a), some (.ob a.o), some (.lst ((List.range 2).map fun t : Nat => Dt.str (nameOf (b / 5) (t : Int)))), some (.ob a.kp), z11, z12] ∧ M' = st12 a KP G' L' W cl)
  · rw [← hnn3]
    apply ea_cons
    · apply ed_cb
      · apply ea_cons ed_int
        apply ea_cons
        · apply ed_op
          · exact ed_cb (ea_cons (ed_var rfl) ea_nil) u_lenR
          · exact ed_int
          · walk_at "op"
        exact ea_nil
      · exact c_min2
    exact ea_nil
  · omega
  · exact ⟨[], GG, L, [], _, _, _, _, _, hI, (by intro A hA; cases hA), Nat.zero_le _, rfl, rfl⟩
  · rintro i Γ' M1 hi ⟨KP, G', L', W, cl, z3, z5, z11, z12, I, hKP, hKl, rfl, rfl⟩
    have hi9 : i < 9 := by omega
    apply atg_name
    walk_at "q"
    walk_at "sq"
    have hmx := mixed_nn ns ((2 * i : Nat) : Int)
    obtain ⟨num, hnum⟩ : ∃ num, num = mixed ns ((2 * i : Nat) : Int) := ⟨_, rfl⟩
    rw [← hnum] at hmx
    apply at_asg (d := .int num)
    · rw [hnum]
      apply mix (2 * i) (ed_var rfl)
      apply EvD.is
      · apply ed_op
        · exact ed_int
        · exact ed_var rfl
        · apply u_mulI
          unfold L2.CMul
          omega
      · congr 1
    walk_at "q"
    walk_at "sq"
    have k0 := Int.emod_nonneg (num / 11) (show (2 : Int) ≠ 0 by decide)
    have k1 := Int.emod_lt_of_pos (num / 11) (show (0 : Int) < 2 by decide)
    obtain ⟨s, hs, hsn⟩ : ∃ s, atI ((List.range 2).map fun t : Nat => Dt.str (nameOf (b / 5) (t : Int))) (num / 11 % 2) = some (.str s) ∧ isNm s = true := by
      rcases (show num / 11 % 2 = 0 ∨ num / 11 % 2 = 1 by omega) with h | h
      · exact ⟨nameOf (b / 5) 0, by rw [h]; rfl, name_nm (by decide) (by decide)⟩
      · exact ⟨nameOf (b / 5) 1, by rw [h]; rfl, name_nm (by decide) (by decide)⟩
    apply at_asg (d := .str s)
    · apply ed_op (ed_var rfl)
      · walk_at "ev"
      · exact u_ixL .frz hs
    walk_at "q"
    walk_at "sq"
    have mixO : ∀ {Γ : Gm} {M' : Sto}, Γ[0]? = some (some (Dt.lsr (ns.map Dt.int))) → Γ[5]? = some (some (.int (i : Int))) → EvD K Γ M' (tCall (Vl.spT K T_L_mixed) [] E0 (tCons (tVar 0) (tCons (tOp (rAddU K) (tOp rMulU (tC (.int 2)) (tVar 5)) (tC (.int 1))) tNil))) (.int (mixed ns ((2 * i + 1 : Nat) : Int))) := fun h h2 => by
      apply mix (2 * i + 1) (ed_var h)
      apply EvD.is
      · apply ed_op
        · apply ed_op
          · exact ed_int
          · exact ed_var h2
          · apply u_mulI
            unfold L2.CMul
            omega
        · exact ed_int
        · exact u_addI
      · congr 1
    have hmx2 := mixed_nn ns ((2 * i + 1 : Nat) : Int)
    have mod11 : ∀ {Γ : Gm} {M' : Sto}, Γ[11]? = some (some (.int num)) → EvD K Γ M' (tOp (rI (fun _ j => 0 < j) fun i j => .int (i % j)) (tVar 11) (tC (.int 11))) (.int (num % 11)) := fun h => ed_op (ed_var h) ed_int (op2_I (by decide))
    apply at_join (fun Γ' M' => ∃ (G2 : OG) (L2 : OL) (W2 : WM) (cl2 : List Int), I12 G2 L2 W2 cl2 (i + 1) ∧ M' = st12 a KP G2 L2 W2 cl2 ∧ Γ' = [some (Dt.lsr (ns.map Dt.int)), some (.int b), some (.ob a.gA), z3, some (.ob a.lA), some (.int (i : Int)), some (netX (He.ga K "Net") a), some (watX (He.ga K "Net") (He.ga K "Watch") a), some (.ob a.o), some (.lst ((List.range 2).map fun t : Nat => Dt.str (nameOf (b / 5) (t : Int)))), some (.ob a.kp), some (.int num), some (.str s)])
    · intro N hN
      apply at_if (b := decide (num % 11 < 6))
      · exact et_test (ed_op (mod11 rfl) ed_int u_ltI)
      · intro _
        apply at_dropX (P := fun d M' => ∃ W', I12 G' L' W' cl (i + 1) ∧ M' = st12 a KP G' L' W' cl)
        · apply evx_call (PX := fun _ _ => False) (ds := [watX (He.ga K "Net") (He.ga K "Watch") a, .ob a.o, .str s, .ob a.gA, .int (num / 22), .int (mixed ns ((2 * i + 1 : Nat) : Int) % 9)])
          · apply ea_cons (ed_var rfl)
            apply ea_cons (ed_var rfl)
            apply ea_cons (ed_var rfl)
            apply ea_cons (ed_var rfl)
            apply ea_cons
            · walk_at "ev"
            apply ea_cons
            · exact ed_op (mixO rfl rfl) ed_int (op2_I (by decide))
            exact ea_nil
          · have g0 := Int.emod_nonneg (mixed ns ((2 * i + 1 : Nat) : Int)) (show (9 : Int) ≠ 0 by decide)
            have g1 := Int.emod_lt_of_pos (mixed ns ((2 * i + 1 : Nat) : Int)) (show (0 : Int) < 9 by decide)
            exact ⟨a, KP, G', L', W, cl, i, num / 22, _, s, ⟨I, by omega, ⟨by omega, g0, by omega⟩, hsn⟩, rfl, rfl, fun d W' h => ⟨W', h, rfl⟩⟩
          · exact fun _ _ z => z.elim
        rintro d M' ⟨W', I', rfl⟩
        apply hN
        exact ⟨G', L', W', cl, I', rfl, rfl⟩
      intro _
      apply at_if (b := decide (num % 11 = 6) && (W.lookup s).isSome)
      · apply et_and
        · exact et_test (ed_op (mod11 rfl) ed_int u_eqI)
        · intro _
          apply et_test
          rw [← own_some]
          exact ed_op (ed_var rfl) (ed_var rfl) (u_inD (.own (j := 3) rfl) rfl)
      · intro h
        rw [Bool.and_eq_true_iff] at h
        walk_at "sq"
        apply at_nd
        intro nd
        apply at_dropX (P := fun d M' => M' = (st12 a KP G' L' W cl).set 4 (a.kd, .dct (keptK (dropW W s))))
        · apply evx_meth (PX := fun _ _ => False)
          · exact ed_var rfl
          · rfl
          · exact ea_cons (ed_var rfl) ea_nil
          · refine ⟨_, a.kd, W, 4, s, rfl, rfl, ?_⟩
            rw [if_pos h.2]
          · exact fun _ _ z => z.elim
        rintro d M' rfl
        walk_at "q"
        apply at_pop 3 (key := Sum.inr s)
        · exact ed_var rfl
        · rfl
        · exact ed_var rfl
        · rfl
        · rw [own_some]; exact h.2
        rw [own_drop]
        walk_at "q"
        have ndN := drop_nd (s := s) nd
        have hne : a.kd ≠ a.o := fun z => by
          have := at_uniq nd (i := 4) (j := 3) (p := (a.kd, .dct (keptK W))) (q := (a.o, .dct (ownK W))) rfl rfl z
          cases this
        refine at_sub (M' := st12 a KP G' L' (dropW W s) cl) ?_ ndN (hN _ _ ⟨G', L', dropW W s, cl, i_drop I, rfl, rfl⟩)
        refine set_sub3 (i := 4) (j := 3) (o := .dct (keptK W)) (w := .dct (ownK W)) rfl rfl hne ndN ?_ ?_ ?_
        · exact List.mem_of_getElem? (i := 4) rfl
        · exact List.mem_of_getElem? (i := 3) rfl
        · intro x hx
          rcases mem12 hx with hx | ⟨e, he', rfl⟩ | ⟨e, he', rfl⟩ | ⟨e, he', rfl⟩
          · unfold fix12 at hx
            simp only [List.mem_cons, List.not_mem_nil, or_false] at hx
            rcases hx with rfl | rfl | rfl | rfl | rfl | rfl | rfl | rfl
            · exact .inr (.inr (List.mem_of_getElem? (i := 0) rfl))
            · exact .inr (.inr (List.mem_of_getElem? (i := 1) rfl))
            · exact .inr (.inr (List.mem_of_getElem? (i := 2) rfl))
            · exact .inr (.inl rfl)
            · exact .inl rfl
            · exact .inr (.inr (List.mem_of_getElem? (i := 5) rfl))
            · exact .inr (.inr (List.mem_of_getElem? (i := 6) rfl))
            · exact .inr (.inr (List.mem_of_getElem? (i := 7) rfl))
          · exact .inr (.inr (mem_g he'))
          · exact .inr (.inr (mem_l he'))
          · exact .inr (.inr (mem_w (List.mem_filter.mp he').1))
      · intro _
        apply at_dropX (P := fun d M' => ∃ G2 L2 cl2, I12 G2 L2 W cl2 (i + 1) ∧ M' = st12 a KP G2 L2 W cl2)
        · apply evx_call (PX := fun _ _ => False) (ds := [netX (He.ga K "Net") a, .ob a.gA, .ob a.lA, .int (mixed ns ((2 * i + 1 : Nat) : Int))])
          · exact ea_cons (ed_var rfl) (ea_cons (ed_var rfl) (ea_cons (ed_var rfl) (ea_cons (mixO rfl rfl) ea_nil)))
          · exact ⟨a, KP, G', L', W, cl, i, _, ⟨I, by omega, hmx2⟩, rfl, rfl, fun d G2 L2 cl2 h => ⟨G2, L2, cl2, h, rfl⟩⟩
          · exact fun _ _ z => z.elim
        rintro d M' ⟨G2, L2, cl2, I', rfl⟩
        apply hN
        exact ⟨G2, L2, W, cl2, I', rfl, rfl⟩
    clear I
    rintro Γ' M' ⟨G2, L2, W2, cl2, I, rfl, rfl⟩
    walk_at "q"
    apply at_ifX (P := fun b' M2 => b' = false ∧ ∃ KP2 : List (List Dt), (∀ A ∈ KP2, ShD 12 (.lst A)) ∧ KP2.length ≤ KP.length + 100 ∧ M2 = st12 a KP2 G2 L2 W2 cl2)
    · apply etx_not (P := fun b' M2 => b' = true ∧ ∃ KP2 : List (List Dt), (∀ A ∈ KP2, ShD 12 (.lst A)) ∧ KP2.length ≤ KP.length + 100 ∧ M2 = st12 a KP2 G2 L2 W2 cl2)
      · apply etx_B
        · apply evx_call (PX := fun _ _ => False) (P := fun d M2 => d = .bl true ∧ ∃ KP2 : List (List Dt), (∀ A ∈ KP2, ShD 12 (.lst A)) ∧ KP2.length ≤ KP.length + 100 ∧ M2 = st12 a KP2 G2 L2 W2 cl2)
          · exact ea_cons (ed_var rfl) (ea_cons (ed_var rfl) (ea_cons (ed_var rfl) (ea_cons (ed_var rfl) (ea_cons (ed_var rfl) (ea_cons (ed_var rfl) ea_nil)))))
          · exact ⟨a, KP, G2, L2, W2, cl2, i + 1, ⟨I, by omega⟩, ⟨hKP, by omega⟩, rfl, rfl, fun KP' h1 h2 => ⟨rfl, KP', h1, h2, rfl⟩⟩
          · exact fun _ _ z => z.elim
        · rintro d M2 ⟨rfl, h⟩
          exact ⟨true, rfl, rfl, h⟩
      · rintro b2 M2 ⟨rfl, h⟩
        exact ⟨rfl, h⟩
    · rintro M2 ⟨z, _⟩; cases z
    · rintro M2 ⟨_, KP2, hK2, hl2, rfl⟩
      apply at_next
      apply up_of
      exact ⟨KP2, G2, L2, W2, cl2, _, _, _, _, I, hK2, by omega, rfl, rfl⟩
  rintro Γ' M1 ⟨KP, G', L', W, cl, z3, z5, z11, z12, I, hKP, hKl, rfl, rfl⟩
  walk_at "q"
  apply at_ret (d := .bl true)
  · apply evd_call (ea_cons (ed_var rfl) ea_nil)
    exact ⟨_, KP, hKP, rfl, .own (j := 0) rfl, rfl, rfl⟩
  · exact hQ _ _ (hR _)
theorem ok_law (c : Cxt K mg) : FnG P w K mg base (He.ga K "law") ["_law_script"] 12 (Vl.spT K T_law) := by
  obtain ⟨fd, F⟩ := F_law c
  exact ⟨⟨fd, okF_law c F, F.bindsN fun _ _ _ _ _ _ us hl => match us, hl with | [_], _ => rfl⟩, F.kp⟩
end
theorem facts {P : Program} {w : World} {K : PySem.W.Frag} {h : Heap} {mg : Str → Option Value} {f : Addr} (X : K.In h) (G : h.Ns mainGlobals mg) (hfa : mg ("law" : Str) = some (.ref f)) (c : He.SaysD fa fn K) :
    ∃ fd : FuncData, (∀ (s : Shared) (v : Value), BindsTo s fd ⟨[v], []⟩ [("_law_script", v)]) ∧ ∀ base : Heap, K.In base → base.Ns mainGlobals mg → FnOk P w K mg base (L2.CX P w) 12 f fd ["_law_script"] (Vl.spT K T_law) := by
  have cx : Cxt K mg := ⟨⟨h, X, G⟩, c⟩
  obtain ⟨fd, F⟩ := F_law cx
  have e := hfa.symm.trans (g_law cx)
  cases e
  have b := FunD.bindsA (ps := ["_law_script"]) F fun _ _ _ _ _ _ us hl => match us, hl with | [_], _ => rfl
  exact ⟨fd, fun s v => b s [v] rfl, fun base hb hg => okF_law cx F⟩
end Tg
open PySem PySem.W PySem.Calls PyProof.Rows
theorem PySem.Challenge.cw_tollguess_k12_whole_as_it_is_now_holds : PySem.Challenge.rw_tollguess_k12_whole_as_it_is_now.Holds := by
  w_on; o_law
  refine HandSHeadRun.head_any (r := PySem.W.OpenLaw.row PySem.Challenge.rw_tollguess_k12_whole_as_it_is_now) (q := view (PySem.W.OpenLaw.row PySem.Challenge.rw_tollguess_k12_whole_as_it_is_now).prog [61]) (H := Tg.hk) (ob := Tg.ob) (M := 8000) (loose := Tg.loose) (d := HandSHeadRun.topDef (PySem.W.OpenLaw.row PySem.Challenge.rw_tollguess_k12_whole_as_it_is_now).prog 61) (kwd := []) Tg.ob_eq
    (by kernel_rfl) (fun s => by kernel_rfl) Tg.run (by kernel_rfl) (by kernel_rfl) (by kernel_rfl) (by rfl) (by first | assumption | decide +kernel) (by decide +kernel) ⟨rfl, rfl, rfl, rfl, rfl, by decide +kernel⟩ ?hw ?hc
  case hw => w_witness2
  case hc =>
    apply Vl.lawWalk (T := Tg.T_law) (k := 12) rfl (by kernel_rfl) (show L2.Room 12 callerA from ⟨rfl, by decide, by decide⟩) ?F (fun ns hl => ⟨ns, rfl, hl, by first | rfl | exact fun _ => rfl⟩)
    intro w mg fa h Y G hmg0
    obtain ⟨K, KX, c⟩ := Y
    have hmg : mg ("law" : PySem.Str) = some (.ref fa) := by
      have e : (HandSHeadRun.topDef (PySem.W.OpenLaw.row PySem.Challenge.rw_tollguess_k12_whole_as_it_is_now).prog 61).name = ("law" : PySem.Str) := by kernel_rfl
      rw [← e]
      exact hmg0
    obtain ⟨fd, hb, hF⟩ := Tg.facts KX G hmg c
    exact ⟨K, fd, KX, hb, hF⟩
