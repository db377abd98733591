import PyProof.Rows.All
import Wide.All
import OpenK.AllK
import Wide.FinOn
import HandS.ForMost
import HandS.ForExc
import HandS.Evl
import HandS.Style
import HandS.Text
import HandS.Defaults
import HandS.IsInst
import HandS.Head0
import HandS.Head1
import HandS.Head2
import HandS.HeadEnd
import HandS.HeadHook1
import HandS.HeadHook2
import PySem.Challenge.RW_tollguess_k01_names
set_option autoImplicit false
set_option Elab.async false
set_option linter.all false
set_option maxRecDepth 100000
set_option maxHeartbeats 4000000
namespace Vl
open PySem PySem.Spec PyProof.Rows L2 Evl

/-- data as a tree; ob: an object by its place; inst: an instance that is not stored to any more -/
inductive Dt where
  | non | bl (b : Bool) | int (i : Int) | str (s : Str)
  | lst (ds : List Dt) | tup (ds : List Dt) | dct (kvs : List (Key × Dt))
  | lsr (ds : List Dt)
  | ob (a : Addr)
  | ty (n : String)
  | inst (C : Addr) (fs : List (Str × Dt))

mutual
inductive Rep (K : PySem.W.Frag) (H : Hp) : V → Dt → Prop
  | non : Rep K H .non .non
  | bl {b} : Rep K H (.bl b) (.bl b)
  | int {i} : Rep K H (.int i) (.int i)
  | str {s} : Rep K H (.str s) (.str s)
  | lst {a xs ds} : H a = some (.lst xs) → Reps K H xs ds → Rep K H (.ref a) (.lst ds)
  | tup {a xs ds} : H a = some (.tup xs) → Reps K H xs ds → Rep K H (.ref a) (.tup ds)
  | dct {a vs kvs} : H a = some (.dK vs) → RepK K H vs kvs → Rep K H (.ref a) (.dct kvs)
  | lsr {a xs ds} : SqL K H a xs → Reps K H xs ds → Rep K H (.ref a) (.lsr ds)
  | ob {a} : Rep K H (.ref a) (.ob a)
  | ty {n} : Rep K H (.ty n) (.ty n)
  | inst {a C dx fs ds} : H a = some (.ins C dx fs) → RepF K H fs ds → Rep K H (.ref a) (.inst C ds)
inductive Reps (K : PySem.W.Frag) (H : Hp) : List V → List Dt → Prop
  | nil : Reps K H [] []
  | cons {v d vs ds} : Rep K H v d → Reps K H vs ds → Reps K H (v :: vs) (d :: ds)
inductive RepK (K : PySem.W.Frag) (H : Hp) : List (Key × V) → List (Key × Dt) → Prop
  | nil : RepK K H [] []
  | cons {k v d vs ds} : Rep K H v d → RepK K H vs ds → RepK K H ((k, v) :: vs) ((k, d) :: ds)
inductive RepF (K : PySem.W.Frag) (H : Hp) : List (Str × V) → List (Str × Dt) → Prop
  | nil : RepF K H [] []
  | cons {k v d vs ds} : Rep K H v d → RepF K H vs ds → RepF K H ((k, v) :: vs) ((k, d) :: ds)
end

section
variable {K : PySem.W.Frag} {H H' : Hp}
mutual
theorem Rep.mono (e : Ex H H') : ∀ {v : V} {d : Dt}, Rep K H v d → Rep K H' v d
  | _, _, .non => .non
  | _, _, .bl => .bl
  | _, _, .int => .int
  | _, _, .str => .str
  | _, _, .lst h r => .lst (e _ _ h) (Reps.mono e r)
  | _, _, .tup h r => .tup (e _ _ h) (Reps.mono e r)
  | _, _, .dct h r => .dct (e _ _ h) (RepK.mono e r)
  | _, _, .lsr h r => .lsr (ex_l e h) (Reps.mono e r)
  | _, _, .ob => .ob
  | _, _, .ty => .ty
  | _, _, .inst h r => .inst (e _ _ h) (RepF.mono e r)
theorem Reps.mono (e : Ex H H') : ∀ {vs : List V} {ds : List Dt}, Reps K H vs ds → Reps K H' vs ds
  | _, _, .nil => .nil
  | _, _, .cons r t => .cons (Rep.mono e r) (Reps.mono e t)
theorem RepK.mono (e : Ex H H') : ∀ {vs : List (Key × V)} {ds : List (Key × Dt)}, RepK K H vs ds → RepK K H' vs ds
  | _, _, .nil => .nil
  | _, _, .cons r t => .cons (Rep.mono e r) (RepK.mono e t)
theorem RepF.mono (e : Ex H H') : ∀ {vs : List (Str × V)} {ds : List (Str × Dt)}, RepF K H vs ds → RepF K H' vs ds
  | _, _, .nil => .nil
  | _, _, .cons r t => .cons (Rep.mono e r) (RepF.mono e t)
end
theorem Reps.length : ∀ {vs : List V} {ds : List Dt}, Reps K H vs ds → vs.length = ds.length
  | _, _, .nil => rfl
  | _, _, .cons _ t => congrArg (· + 1) (Reps.length t)
theorem Reps.get : ∀ {vs : List V} {ds : List Dt} {i : Nat} {d : Dt}, Reps K H vs ds → ds[i]? = some d → ∃ v, vs[i]? = some v ∧ Rep K H v d
  | _, _, _, _, .nil, e => by simp at e
  | _, _, 0, _, .cons r _, e => by simp at e; subst e; exact ⟨_, rfl, r⟩
  | _, _, i + 1, d, .cons _ t, e => by
    obtain ⟨v, h1, h2⟩ := Reps.get (i := i) (d := d) t (by simpa using e)
    exact ⟨v, by simpa using h1, h2⟩
theorem Reps.getV : ∀ {vs : List V} {ds : List Dt} {i : Nat} {v : V}, Reps K H vs ds → vs[i]? = some v → ∃ d, ds[i]? = some d ∧ Rep K H v d
  | _, _, _, _, .nil, e => by simp at e
  | _, _, 0, _, .cons r _, e => by simp at e; subst e; exact ⟨_, rfl, r⟩
  | _, _, i + 1, v, .cons _ t, e => by
    obtain ⟨d, h1, h2⟩ := Reps.getV (i := i) (v := v) t (by simpa using e)
    exact ⟨d, by simpa using h1, h2⟩
theorem Reps.append : ∀ {vs ws : List V} {ds es : List Dt}, Reps K H vs ds → Reps K H ws es → Reps K H (vs ++ ws) (ds ++ es)
  | _, _, _, _, .nil, s => s
  | _, _, _, _, .cons r t, s => .cons r (Reps.append t s)
theorem Reps.set {v : V} {d : Dt} (r : Rep K H v d) : ∀ {vs : List V} {ds : List Dt} (i : Nat), Reps K H vs ds → Reps K H (vs.set i v) (ds.set i d)
  | _, _, _, .nil => .nil
  | _, _, 0, .cons _ t => .cons r t
  | _, _, i + 1, .cons q t => .cons q (Reps.set r i t)
theorem Reps.take : ∀ {vs : List V} {ds : List Dt} (n : Nat), Reps K H vs ds → Reps K H (vs.take n) (ds.take n)
  | _, _, 0, _ => .nil
  | _, _, _ + 1, .nil => .nil
  | _, _, n + 1, .cons r t => .cons r (Reps.take n t)
theorem Reps.drop : ∀ {vs : List V} {ds : List Dt} (n : Nat), Reps K H vs ds → Reps K H (vs.drop n) (ds.drop n)
  | _, _, 0, r => r
  | _, _, _ + 1, .nil => .nil
  | _, _, n + 1, .cons _ t => Reps.drop n t
theorem Reps.erase : ∀ {vs : List V} {ds : List Dt} (n : Nat), Reps K H vs ds → Reps K H (vs.eraseIdx n) (ds.eraseIdx n)
  | _, _, _, .nil => .nil
  | _, _, 0, .cons _ t => t
  | _, _, n + 1, .cons r t => .cons r (Reps.erase n t)
theorem Reps.reverse : ∀ {vs : List V} {ds : List Dt}, Reps K H vs ds → Reps K H vs.reverse ds.reverse
  | _, _, .nil => .nil
  | _, _, .cons r t => by rw [List.reverse_cons, List.reverse_cons]; exact (Reps.reverse t).append (.cons r .nil)
theorem Reps.ints : ∀ {ns : List Int}, Reps K H (ns.map V.int) (ns.map Dt.int)
  | [] => .nil
  | _ :: _ => .cons .int Reps.ints
theorem Reps.strs : ∀ {ns : List Str}, Reps K H (ns.map V.str) (ns.map Dt.str)
  | [] => .nil
  | _ :: _ => .cons .str Reps.strs
theorem Reps.of_ints : ∀ {ns : List Int} {vs : List V}, Reps K H vs (ns.map Dt.int) → vs = ns.map V.int
  | [], _, .nil => rfl
  | _ :: _, _, .cons .int t => by rw [Reps.of_ints t]; rfl
theorem Reps.of_strs : ∀ {ns : List Str} {vs : List V}, Reps K H vs (ns.map Dt.str) → vs = ns.map V.str
  | [], _, .nil => rfl
  | _ :: _, _, .cons .str t => by rw [Reps.of_strs t]; rfl
theorem Reps.of_bls : ∀ {ns : List Bool} {vs : List V}, Reps K H vs (ns.map Dt.bl) → vs = ns.map V.bl
  | [], _, .nil => rfl
  | _ :: _, _, .cons .bl t => by rw [Reps.of_bls t]; rfl
theorem Reps.bls : ∀ {ns : List Bool}, Reps K H (ns.map V.bl) (ns.map Dt.bl)
  | [] => .nil
  | _ :: _ => .cons .bl Reps.bls
theorem RepK.length : ∀ {vs : List (Key × V)} {ds : List (Key × Dt)}, RepK K H vs ds → vs.length = ds.length
  | _, _, .nil => rfl
  | _, _, .cons _ t => congrArg (· + 1) (RepK.length t)
theorem RepF.length : ∀ {vs : List (Str × V)} {ds : List (Str × Dt)}, RepF K H vs ds → vs.length = ds.length
  | _, _, .nil => rfl
  | _, _, .cons _ t => congrArg (· + 1) (RepF.length t)
theorem RepF.look : ∀ {vs : List (Str × V)} {ds : List (Str × Dt)} {f : Str} {d : Dt}, RepF K H vs ds → ds.lookup f = some d → ∃ v, vs.lookup f = some v ∧ Rep K H v d
  | _, _, _, _, .nil, e => by simp at e
  | _, _, f, d, .cons (k := k) (v := v) (vs := vs) (ds := ds) (d := d0) r t, e => by
    rw [List.lookup_cons] at e ⊢
    by_cases h : (f == k) = true
    · rw [h] at e ⊢; cases e; exact ⟨_, rfl, r⟩
    · have h' : (f == k) = false := by simpa using h
      rw [h'] at e ⊢; exact RepF.look t e
theorem RepF.none : ∀ {vs : List (Str × V)} {ds : List (Str × Dt)} {f : Str}, RepF K H vs ds → ds.lookup f = none → vs.lookup f = none
  | _, _, _, .nil, _ => rfl
  | _, _, f, .cons (k := k) r t, e => by
    rw [List.lookup_cons] at e ⊢
    by_cases h : (f == k) = true
    · rw [h] at e; cases e
    · have h' : (f == k) = false := by simpa using h
      rw [h'] at e ⊢; exact RepF.none t e

/-! ### dicts -/
def valD (kvs : List (Key × Dt)) (k : Key) : Option Dt := (kvs.find? fun kv => decide (kv.1 = k)).map (·.2)
def putD (kvs : List (Key × Dt)) (k : Key) (v : Dt) : List (Key × Dt) :=
  if kvs.any (fun kv => decide (kv.1 = k)) then kvs.map (fun kv => if kv.1 = k then (kv.1, v) else kv) else kvs ++ [(k, v)]
def dropD (kvs : List (Key × Dt)) (k : Key) : List (Key × Dt) := kvs.filter fun kv => decide (kv.1 ≠ k)
theorem valD_nil {k : Key} : valD [] k = none := rfl
theorem valD_pos {p : Key × Dt} {r : List (Key × Dt)} {k : Key} (e : p.1 = k) : valD (p :: r) k = some p.2 := by simp [valD, List.find?_cons, e]
theorem valD_neg {p : Key × Dt} {r : List (Key × Dt)} {k : Key} (e : ¬ p.1 = k) : valD (p :: r) k = valD r k := by simp [valD, List.find?_cons, e]
theorem RepK.val : ∀ {vs : List (Key × V)} {ds : List (Key × Dt)} {k : Key} {d : Dt}, RepK K H vs ds → valD ds k = some d → ∃ v, valV vs k = some v ∧ Rep K H v d
  | _, _, _, _, .nil, e => by cases e
  | _, _, k, d, .cons (k := k0) (v := v0) (d := d0) (vs := vs) (ds := ds) r t, e => by
    by_cases h : k0 = k
    · rw [valD_pos (p := (k0, d0)) h] at e
      rw [valV_pos (p := (k0, v0)) h]
      cases e
      exact ⟨_, rfl, r⟩
    · rw [valD_neg (p := (k0, d0)) h] at e
      rw [valV_neg (p := (k0, v0)) h]
      exact RepK.val t e
theorem RepK.vno : ∀ {vs : List (Key × V)} {ds : List (Key × Dt)} {k : Key}, RepK K H vs ds → valD ds k = none → valV vs k = none
  | _, _, _, .nil, _ => rfl
  | _, _, k, .cons (k := k0) (v := v0) (d := d0) (vs := vs) (ds := ds) r t, e => by
    by_cases h : k0 = k
    · rw [valD_pos (p := (k0, d0)) h] at e; cases e
    · rw [valD_neg (p := (k0, d0)) h] at e
      rw [valV_neg (p := (k0, v0)) h]
      exact RepK.vno t e
theorem RepK.isSome {vs : List (Key × V)} {ds : List (Key × Dt)} (r : RepK K H vs ds) (k : Key) : (valV vs k).isSome = (valD ds k).isSome := by
  cases e : valD ds k with
  | none => rw [r.vno e]; rfl
  | some d => obtain ⟨v, h, _⟩ := r.val e; rw [h]; rfl
theorem RepK.any : ∀ {vs : List (Key × V)} {ds : List (Key × Dt)} (k : Key), RepK K H vs ds → (vs.any fun kv => decide (kv.1 = k)) = ds.any fun kv => decide (kv.1 = k)
  | _, _, _, .nil => rfl
  | _, _, k, .cons r t => by rw [List.any_cons, List.any_cons, RepK.any k t]
theorem RepK.append : ∀ {vs ws : List (Key × V)} {ds es : List (Key × Dt)}, RepK K H vs ds → RepK K H ws es → RepK K H (vs ++ ws) (ds ++ es)
  | _, _, _, _, .nil, s => s
  | _, _, _, _, .cons r t, s => .cons r (RepK.append t s)
theorem RepK.repl {v : V} {d : Dt} (k : Key) (r : Rep K H v d) : ∀ {vs : List (Key × V)} {ds : List (Key × Dt)}, RepK K H vs ds → RepK K H (vs.map fun kv => if kv.1 = k then (kv.1, v) else kv) (ds.map fun kv => if kv.1 = k then (kv.1, d) else kv)
  | _, _, .nil => .nil
  | _, _, .cons (k := k0) q t => by
    rw [List.map_cons, List.map_cons]
    by_cases h : k0 = k
    · rw [if_pos h, if_pos h]; exact .cons r (RepK.repl k r t)
    · rw [if_neg h, if_neg h]; exact .cons q (RepK.repl k r t)
theorem RepK.put {vs : List (Key × V)} {ds : List (Key × Dt)} {v : V} {d : Dt} (t : RepK K H vs ds) (k : Key) (r : Rep K H v d) : RepK K H (putK vs k v) (putD ds k d) := by
  unfold putK putD
  rw [t.any k]
  split
  · exact RepK.repl k r t
  · exact t.append (.cons r .nil)
theorem RepK.drop : ∀ {vs : List (Key × V)} {ds : List (Key × Dt)} (k : Key), RepK K H vs ds → RepK K H (dropK vs k) (dropD ds k)
  | _, _, _, .nil => .nil
  | _, _, k, .cons (k := k0) (v := v0) (d := d0) (vs := vs) (ds := ds) r t => by
    have ih := RepK.drop k t
    unfold dropK dropD at ih ⊢
    rw [List.filter_cons, List.filter_cons]
    by_cases h : k0 = k
    · rw [if_neg (by simp [h]), if_neg (by simp [h])]; exact ih
    · rw [if_pos (by simp [h]), if_pos (by simp [h])]; exact .cons r ih
theorem RepK.keys : ∀ {vs : List (Key × V)} {ds : List (Key × Dt)}, RepK K H vs ds → vs.map (·.1) = ds.map (·.1)
  | _, _, .nil => rfl
  | _, _, .cons r t => by rw [List.map_cons, List.map_cons, RepK.keys t]
end
end Vl
namespace Vl
open PySem PySem.Spec PyProof.Rows L2 Evl

/-! ### own cells -/
inductive Ow where
  | lst (ds : List Dt) | dct (kvs : List (Key × Dt))
def OwAt (K : PySem.W.Frag) (F H : Hp) (a : Addr) : Ow → Prop
  | .lst ds => ∃ xs, H a = some (.lst xs) ∧ Reps K F xs ds
  | .dct kvs => ∃ vs, H a = some (.dK vs) ∧ RepK K F vs kvs
abbrev Sto := List (Addr × Ow)
abbrev Gm := List (Option Dt)
/-- B: what is to stay; G: what was frozen at the entry; F: what is frozen now; M: own cells -/
structure Ok (K : PySem.W.Frag) (B G F : Hp) (Γ : Gm) (M : Sto) (σ : L2.St) (H : Hp) : Prop where
  fh : Ex F H
  gf : Ex G F
  bh : Ex B H
  nw : ∀ a, B a ≠ none → F a = G a
  len : Γ.length = σ.length
  env : ∀ (i : Nat) (d : Dt), Γ[i]? = some (some d) → ∃ v, σ[i]? = some (some v) ∧ Rep K F v d
  cel : ∀ p, p ∈ M → F p.1 = none ∧ B p.1 = none ∧ OwAt K F H p.1 p.2
  nd : (M.map (·.1)).Nodup

section
variable {K : PySem.W.Frag} {B G F F' H H' : Hp} {Γ Γ' : Gm} {M M' : Sto} {σ : L2.St} {a p : Addr} {o : Ow}
theorem ex_upd2 {o : HO} (e : Ex F H) : Ex (upd F p o) (upd H p o) := fun b u h => by
  by_cases hb : b = p
  · subst hb; rw [upd_same] at h ⊢; exact h
  · rw [upd_ne hb] at h ⊢; exact e b u h
theorem ex_none (e : Ex F H) (h : H p = none) : F p = none := by
  cases q : F p with
  | none => rfl
  | some o => rw [e _ _ q] at h; cases h
theorem OwAt.there (h : OwAt K F H a o) : ∃ u, H a = some u := by
  cases o with
  | lst ds => obtain ⟨xs, e, _⟩ := h; exact ⟨_, e⟩
  | dct ds => obtain ⟨xs, e, _⟩ := h; exact ⟨_, e⟩
theorem OwAt.mono (h : OwAt K F H a o) (e : Ex F F') (eh : H' a = H a) : OwAt K F' H' a o := by
  cases o with
  | lst ds => obtain ⟨xs, e1, r⟩ := h; exact ⟨xs, eh.trans e1, r.mono e⟩
  | dct ds => obtain ⟨xs, e1, r⟩ := h; exact ⟨xs, eh.trans e1, r.mono e⟩
/-- the object of a cell's content -/
theorem Ok.ne_cell (k : Ok K B G F Γ M σ H) (h : H p = none) : ∀ q ∈ M, q.1 ≠ p := fun q hq e => by
  obtain ⟨_, _, c⟩ := k.cel q hq
  obtain ⟨u, hu⟩ := c.there
  rw [e, h] at hu; cases hu
/-- a new frozen object -/
theorem Ok.new {o : HO} (k : Ok K B G F Γ M σ H) (h : H p = none) : Ok K B G (upd F p o) Γ M σ (upd H p o) where
  fh := ex_upd2 k.fh
  gf := k.gf.trans (Ex.new (ex_none k.fh h))
  bh := k.bh.trans (Ex.new h)
  nw := fun b hb => by
    have : b ≠ p := fun e => hb (by rw [e]; exact ex_none k.bh h)
    rw [upd_ne this]; exact k.nw b hb
  len := k.len
  env := fun i d e => let ⟨v, h1, r⟩ := k.env i d e; ⟨v, h1, r.mono (Ex.new (ex_none k.fh h))⟩
  cel := fun q hq => by
    have ne := k.ne_cell h q hq
    obtain ⟨c1, c2, c3⟩ := k.cel q hq
    exact ⟨by rw [upd_ne ne]; exact c1, c2, c3.mono (Ex.new (ex_none k.fh h)) (upd_ne ne)⟩
  nd := k.nd
/-- a new own cell -/
theorem Ok.cell {u : HO} (k : Ok K B G F Γ M σ H) (h : H p = none) (hu : OwAt K F (upd H p u) p o) : Ok K B G F Γ ((p, o) :: M) σ (upd H p u) where
  fh := k.fh.trans (Ex.new h)
  gf := k.gf
  bh := k.bh.trans (Ex.new h)
  nw := k.nw
  len := k.len
  env := k.env
  cel := fun q hq => by
    rcases List.mem_cons.mp hq with rfl | hq
    · exact ⟨ex_none k.fh h, ex_none k.bh h, hu⟩
    · obtain ⟨c1, c2, c3⟩ := k.cel q hq
      exact ⟨c1, c2, c3.mono (Ex.refl F) (upd_ne (k.ne_cell h q hq))⟩
  nd := by
    rw [List.map_cons]
    refine List.nodup_cons.mpr ⟨fun m => ?_, k.nd⟩
    obtain ⟨q, hq, e⟩ := List.mem_map.mp m
    exact k.ne_cell h q hq e
theorem Ok.at_ (k : Ok K B G F Γ M σ H) {j : Nat} (h : M[j]? = some (a, o)) : F a = none ∧ B a = none ∧ OwAt K F H a o := k.cel (a, o) (List.mem_of_getElem? h)
theorem nd_set {M : Sto} {j : Nat} {a : Addr} {o o' : Ow} (h : M[j]? = some (a, o)) : (M.set j (a, o')).map (·.1) = M.map (·.1) := by
  obtain ⟨hj, e⟩ := List.getElem?_eq_some_iff.mp h
  apply List.ext_getElem
  · simp
  · intro i h1 h2
    simp only [List.getElem_map, List.getElem_set]
    split
    · rename_i hij; subst hij; simp [e]
    · rfl
/-- a cell written -/
theorem Ok.wr {u : HO} {o' : Ow} {j : Nat} (k : Ok K B G F Γ M σ H) (h : M[j]? = some (a, o)) (hu : OwAt K F (upd H a u) a o') : Ok K B G F Γ (M.set j (a, o')) σ (upd H a u) where
  fh := Ex.mut k.fh (k.at_ h).1
  gf := k.gf
  bh := Ex.mut k.bh (k.at_ h).2.1
  nw := k.nw
  len := k.len
  env := k.env
  cel := fun q hq => by
    obtain ⟨i, hi, e⟩ := List.getElem_of_mem hq
    rw [List.getElem_set] at e
    split at e
    · subst e; exact ⟨(k.at_ h).1, (k.at_ h).2.1, hu⟩
    · rename_i hij
      have hi' : i < M.length := by simpa using hi
      have hm : q ∈ M := e ▸ List.getElem_mem hi'
      obtain ⟨c1, c2, c3⟩ := k.cel q hm
      refine ⟨c1, c2, c3.mono (Ex.refl F) (upd_ne fun e2 => hij ?_)⟩
      have a1 : (M.map (·.1))[j]? = some a := by rw [List.getElem?_map, h]; rfl
      have a2 : (M.map (·.1))[i]? = some a := by rw [List.getElem?_map, List.getElem?_eq_getElem hi', e, ← e2]; rfl
      exact nd_ix k.nd a1 a2
  nd := by rw [nd_set h]; exact k.nd
/-- a slot stored -/
theorem Ok.setS {i : Nat} {v : V} {d : Dt} (k : Ok K B G F Γ M σ H) (r : Rep K F v d) : Ok K B G F (Γ.set i (some d)) M (σ.set i (some v)) H where
  fh := k.fh
  gf := k.gf
  bh := k.bh
  nw := k.nw
  len := by rw [List.length_set, List.length_set]; exact k.len
  env := fun j d' e => by
    by_cases hj : i = j
    · subst hj
      by_cases hl : i < Γ.length
      · rw [List.getElem?_set_self hl] at e
        cases e
        exact ⟨v, List.getElem?_set_self (k.len ▸ hl), r⟩
      · rw [List.getElem?_eq_none (by simpa using hl)] at e; cases e
    · rw [List.getElem?_set_ne hj] at e
      obtain ⟨v', h1, r'⟩ := k.env j d' e
      exact ⟨v', by rw [List.getElem?_set_ne hj]; exact h1, r'⟩
  cel := k.cel
  nd := k.nd
/-- slots forgotten -/
theorem Ok.weak (k : Ok K B G F Γ M σ H) {σ' : L2.St} (hl : Γ'.length = σ'.length) (h : ∀ (i : Nat) (d : Dt), Γ'[i]? = some (some d) → Γ[i]? = some (some d)) (hs : ∀ (i : Nat) (v : V), Γ'[i]? ≠ none → σ[i]? = some (some v) → Γ'[i]? ≠ some none → σ'[i]? = some (some v)) : Ok K B G F Γ' M σ' H where
  fh := k.fh
  gf := k.gf
  bh := k.bh
  nw := k.nw
  len := hl
  env := fun j d e => by
    obtain ⟨v, h1, r⟩ := k.env j d (h j d e)
    exact ⟨v, hs j v (by rw [e]; exact fun z => nomatch z) h1 (by rw [e]; exact fun z => nomatch z), r⟩
  cel := k.cel
  nd := k.nd
theorem Ok.less (k : Ok K B G F Γ M σ H) (hl : Γ'.length = Γ.length) (h : ∀ (i : Nat) (d : Dt), Γ'[i]? = some (some d) → Γ[i]? = some (some d)) : Ok K B G F Γ' M σ H :=
  k.weak (hl.trans k.len) h fun _ _ _ e _ => e
/-- cells dropped -/
theorem Ok.drop (k : Ok K B G F Γ M σ H) (h : M'.Sublist M) : Ok K B G F Γ M' σ H where
  fh := k.fh
  gf := k.gf
  bh := k.bh
  nw := k.nw
  len := k.len
  env := k.env
  cel := fun p hp => k.cel p (h.subset hp)
  nd := (h.map _).nodup k.nd
/-- a cell is frozen: it is not changed any more -/
theorem Ok.freeze {j : Nat} {u : HO} (k : Ok K B G F Γ M σ H) (h : M[j]? = some (a, o)) (hu : H a = some u) : Ok K B G (upd F a u) Γ (M.eraseIdx j) σ H where
  fh := fun b w e => by
    by_cases hb : b = a
    · subst hb; rw [upd_same] at e; rw [hu]; exact e
    · rw [upd_ne hb] at e; exact k.fh b w e
  gf := k.gf.trans (Ex.new (k.at_ h).1)
  bh := k.bh
  nw := fun b hb => by
    have : b ≠ a := fun e => hb (by rw [e]; exact (k.at_ h).2.1)
    rw [upd_ne this]; exact k.nw b hb
  len := k.len
  env := fun i d e => let ⟨v, h1, r⟩ := k.env i d e; ⟨v, h1, r.mono (Ex.new (k.at_ h).1)⟩
  cel := fun q hq => by
    obtain ⟨c1, c2, c3⟩ := k.cel q ((List.eraseIdx_sublist M j).subset hq)
    have ne : q.1 ≠ a := fun e => by
      have nd : (M.map (·.1)).Nodup := k.nd
      have hj : j < M.length := (List.getElem?_eq_some_iff.mp h).1
      have hq' : q ∈ M.take j ++ M.drop (j + 1) := by rw [← List.eraseIdx_eq_take_drop_succ]; exact hq
      have split : M = M.take j ++ (a, o) :: M.drop (j + 1) := by
        have e1 : M[j] = (a, o) := (List.getElem?_eq_some_iff.mp h).2
        rw [← e1, ← List.drop_eq_getElem_cons hj, List.take_append_drop]
      rw [split, List.map_append, List.map_cons] at nd
      rcases List.mem_append.mp hq' with z | z
      · exact (List.nodup_append.mp nd).2.2 q.1 (List.mem_map.mpr ⟨q, z, rfl⟩) a (List.mem_cons_self) e
      · exact (List.nodup_cons.mp (List.nodup_append.mp nd).2.1).1 (List.mem_map.mpr ⟨q, z, e⟩)
    exact ⟨by rw [upd_ne ne]; exact c1, c2, c3.mono (Ex.new (k.at_ h).1) rfl⟩
  nd := ((List.eraseIdx_sublist M j).map _).nodup k.nd
/-- what is kept may be widened -/
theorem Ok.toG {G' : Hp} (k : Ok K B G F Γ M σ H) (e : Ex G' F) (h : ∀ a, B a ≠ none → G' a = G a) : Ok K B G' F Γ M σ H :=
  ⟨k.fh, e, k.bh, fun a ha => (k.nw a ha).trans (h a ha).symm, k.len, k.env, k.cel, k.nd⟩
end

/-! ### judgements -/
/-- an expression: P tells the value and the cells behind -/
def EvX (K : PySem.W.Frag) (B G : Hp) (Γ : Gm) (M : Sto) (t : TE) (P : Dt → Sto → Prop) : Prop :=
  ∀ F σ H (Q : VK), Ok K B G F Γ M σ H → (∀ v F' H' d M', Ok K B G F' Γ M' σ H' → Ex F F' → Rep K F' v d → P d M' → Q v H') → t σ H Q
def EvD (K : PySem.W.Frag) (Γ : Gm) (M : Sto) (t : TE) (d : Dt) : Prop :=
  ∀ B G F σ H (Q : VK), Ok K B G F Γ M σ H → (∀ v F' H', Ok K B G F' Γ M σ H' → Ex F F' → Rep K F' v d → Q v H') → t σ H Q
def EvN (K : PySem.W.Frag) (Γ : Gm) (M : Sto) (t : TE) (o : Ow) : Prop :=
  ∀ B G F σ H (Q : VK), Ok K B G F Γ M σ H → (∀ a F' H', Ok K B G F' Γ ((a, o) :: M) σ H' → Ex F F' → Q (.ref a) H') → t σ H Q
def EvT (K : PySem.W.Frag) (Γ : Gm) (M : Sto) (t : TT) (b : Bool) : Prop :=
  ∀ B G F σ H (Q : Bool → Hp → Prop), Ok K B G F Γ M σ H → (∀ F' H', Ok K B G F' Γ M σ H' → Ex F F' → Q b H') → t σ H Q
def EvTX (K : PySem.W.Frag) (B G : Hp) (Γ : Gm) (M : Sto) (t : TT) (P : Bool → Sto → Prop) : Prop :=
  ∀ F σ H (Q : Bool → Hp → Prop), Ok K B G F Γ M σ H → (∀ F' H' b M', Ok K B G F' Γ M' σ H' → Ex F F' → P b M' → Q b H') → t σ H Q
def EvA (K : PySem.W.Frag) (Γ : Gm) (M : Sto) (t : TA) (ds : List Dt) : Prop :=
  ∀ B G F σ H (Q : List V → Hp → Prop), Ok K B G F Γ M σ H → (∀ vs F' H', Ok K B G F' Γ M σ H' → Ex F F' → Reps K F' vs ds → Q vs H') → t σ H Q
def EvAX (K : PySem.W.Frag) (B G : Hp) (Γ : Gm) (M : Sto) (t : TA) (P : List Dt → Sto → Prop) : Prop :=
  ∀ F σ H (Q : List V → Hp → Prop), Ok K B G F Γ M σ H → (∀ vs F' H' ds M', Ok K B G F' Γ M' σ H' → Ex F F' → Reps K F' vs ds → P ds M' → Q vs H') → t σ H Q
/-- a place in the text: whatever the state there, N holds -/
def At (K : PySem.W.Frag) (B G : Hp) (Γ : Gm) (M : Sto) (N : L2.St → Hp → Prop) : Prop := ∀ F σ H, Ok K B G F Γ M σ H → N σ H
/-- a value handed back -/
def Rt (K : PySem.W.Frag) (B G : Hp) (d : Dt) (M : Sto) (Q : VK) : Prop := ∀ v F Γ σ H, Ok K B G F Γ M σ H → Rep K F v d → Q v H
def Xt (K : PySem.W.Frag) (B G : Hp) (C : Addr) (M : Sto) (E : XK) : Prop := ∀ F Γ σ H, Ok K B G F Γ M σ H → E (.ref C) none H
/-- a later entry: more is frozen -/
structure Le (B G G' : Hp) : Prop where
  ex : Ex G G'
  eq : ∀ a, B a ≠ none → G' a = G a
theorem Le.refl {B G : Hp} : Le B G G := ⟨Ex.refl G, fun _ _ => rfl⟩
theorem Le.trans {B G G' G2 : Hp} (a : Le B G G') (b : Le B G' G2) : Le B G G2 := ⟨a.ex.trans b.ex, fun x h => (b.eq x h).trans (a.eq x h)⟩
section
variable {K : PySem.W.Frag} {B G G' F F' H H' : Hp} {Γ Γ' : Gm} {M M' : Sto} {σ : L2.St} {a p : Addr} {o : Ow} {N : L2.St → Hp → Prop}
theorem Ok.le (k : Ok K B G' F Γ M σ H) (l : Le B G G') : Ok K B G F Γ M σ H := k.toG (l.ex.trans k.gf) fun a h => (l.eq a h).symm
theorem Ok.here (k : Ok K B G F Γ M σ H) : Ok K B F F Γ M σ H ∧ Le B G F := ⟨k.toG (Ex.refl F) k.nw, k.gf, k.nw⟩
theorem At.le (h : At K B G Γ M N) (l : Le B G G') : At K B G' Γ M N := fun F σ H k => h F σ H (k.le l)
theorem Rt.le {d : Dt} {Q : VK} (h : Rt K B G d M Q) (l : Le B G G') : Rt K B G' d M Q := fun v F Γ σ H k r => h v F Γ σ H (k.le l) r
theorem Xt.le {C : Addr} {E : XK} (h : Xt K B G C M E) (l : Le B G G') : Xt K B G' C M E := fun F Γ σ H k => h F Γ σ H (k.le l)

variable {t ta tb te : TE} {tt u : TT} {x y z d : Dt} {r : R2}
theorem EvD.toX (h : EvD K Γ M t d) : EvX K B G Γ M t (fun d' M' => d' = d ∧ M' = M) := fun F σ H Q k q => h B G F σ H Q k fun v F' H' k' e r => q v F' H' d M k' e r ⟨rfl, rfl⟩
theorem EvN.toX (h : EvN K Γ M t o) : EvX K B G Γ M t (fun d' M' => ∃ a, d' = .ob a ∧ M' = (a, o) :: M) := fun F σ H Q k q => h B G F σ H Q k fun a F' H' k' e => q (.ref a) F' H' (.ob a) _ k' e .ob ⟨a, rfl, rfl⟩
theorem EvX.imp {P P' : Dt → Sto → Prop} (h : EvX K B G Γ M t P) (i : ∀ d M, P d M → P' d M) : EvX K B G Γ M t P' := fun F σ H Q k q => h F σ H Q k fun v F' H' d M' k' e r p => q v F' H' d M' k' e r (i d M' p)
/-- a new list that is not changed any more -/
theorem EvN.toD {ds : List Dt} (h : EvN K Γ M t (.lst ds)) : EvD K Γ M t (.lst ds) := fun B G F σ H Q k q => h B G F σ H Q k fun a F' H' k' e => by
  obtain ⟨f1, _, xs, hx, rx⟩ := k'.cel (a, .lst ds) List.mem_cons_self
  exact q (.ref a) (upd F' a (.lst xs)) H' (k'.freeze (j := 0) rfl hx) (e.trans (Ex.new f1)) (.lst upd_same (rx.mono (Ex.new f1)))
theorem EvN.toDD {ds : List (Key × Dt)} (h : EvN K Γ M t (.dct ds)) : EvD K Γ M t (.dct ds) := fun B G F σ H Q k q => h B G F σ H Q k fun a F' H' k' e => by
  obtain ⟨f1, _, xs, hx, rx⟩ := k'.cel (a, .dct ds) List.mem_cons_self
  exact q (.ref a) (upd F' a (.dK xs)) H' (k'.freeze (j := 0) rfl hx) (e.trans (Ex.new f1)) (.dct upd_same (rx.mono (Ex.new f1)))

/-! ### expressions -/
theorem ed_var {i : Nat} (h : Γ[i]? = some (some d)) : EvD K Γ M (tVar i) d := fun B G F σ H Q k q => by
  obtain ⟨v, h1, r⟩ := k.env i d h
  exact ⟨v, h1, q v F H k (Ex.refl F) r⟩
theorem ed_int {i : Int} : EvD K Γ M (tC (.int i)) (.int i) := fun _ _ F _ H _ k q => q _ F H k (Ex.refl F) .int
theorem ed_bl {b : Bool} : EvD K Γ M (tC (.bl b)) (.bl b) := fun _ _ F _ H _ k q => q _ F H k (Ex.refl F) .bl
theorem ed_str {s : Str} : EvD K Γ M (tC (.str s)) (.str s) := fun _ _ F _ H _ k q => q _ F H k (Ex.refl F) .str
theorem ed_non : EvD K Γ M (tC .non) .non := fun _ _ F _ H _ k q => q _ F H k (Ex.refl F) .non
theorem EvD.is {d' : Dt} (h : EvD K Γ M t d) (e : d = d') : EvD K Γ M t d' := e ▸ h
theorem EvT.is {b b' : Bool} (h : EvT K Γ M tt b) (e : b = b') : EvT K Γ M tt b' := e ▸ h

/-- an operation on data -/
def Op2 (K : PySem.W.Frag) (M : Sto) (r : R2) (x y z : Dt) : Prop :=
  ∀ B G F Γ σ H u w (Q : VK), Ok K B G F Γ M σ H → Rep K F u x → Rep K F w y → (∀ v F' H', Ok K B G F' Γ M σ H' → Ex F F' → Rep K F' v z → Q v H') → r u w H Q
def OpN (K : PySem.W.Frag) (M : Sto) (r : R2) (x y : Dt) (o : Ow) : Prop :=
  ∀ B G F Γ σ H u w (Q : VK), Ok K B G F Γ M σ H → Rep K F u x → Rep K F w y → (∀ a F' H', Ok K B G F' Γ ((a, o) :: M) σ H' → Ex F F' → Q (.ref a) H') → r u w H Q
theorem ed_op (ha : EvD K Γ M ta x) (hb : EvD K Γ M tb y) (hr : Op2 K M r x y z) : EvD K Γ M (tOp r ta tb) z := fun B G F σ H Q k q =>
  ha B G F σ H _ k fun u F1 H1 k1 e1 r1 => hb B G F1 σ H1 _ k1 fun w F2 H2 k2 e2 r2 => hr B G F2 Γ σ H2 u w Q k2 (r1.mono e2) r2 fun v F3 H3 k3 e3 r3 => q v F3 H3 k3 (e1.trans (e2.trans e3)) r3
theorem en_op (ha : EvD K Γ M ta x) (hb : EvD K Γ M tb y) (hr : OpN K M r x y o) : EvN K Γ M (tOp r ta tb) o := fun B G F σ H Q k q =>
  ha B G F σ H _ k fun u F1 H1 k1 e1 r1 => hb B G F1 σ H1 _ k1 fun w F2 H2 k2 e2 r2 => hr B G F2 Γ σ H2 u w Q k2 (r1.mono e2) r2 fun v F3 H3 k3 e3 => q v F3 H3 k3 (e1.trans (e2.trans e3))
/-- a one-place operation -/
def Op1 (K : PySem.W.Frag) (M : Sto) (r : V → Hp → VK → Prop) (x z : Dt) : Prop :=
  ∀ B G F Γ σ H u (Q : VK), Ok K B G F Γ M σ H → Rep K F u x → (∀ v F' H', Ok K B G F' Γ M σ H' → Ex F F' → Rep K F' v z → Q v H') → r u H Q
theorem ed_un {r : V → Hp → VK → Prop} (ha : EvD K Γ M ta x) (hr : Op1 K M r x z) : EvD K Γ M (tUn r ta) z := fun B G F σ H Q k q =>
  ha B G F σ H _ k fun u F1 H1 k1 e1 r1 => hr B G F1 Γ σ H1 u Q k1 r1 fun v F3 H3 k3 e3 r3 => q v F3 H3 k3 (e1.trans e3) r3
/-- a call of a built-in by its values -/
def OpC (K : PySem.W.Frag) (M : Sto) (r : List V → Hp → VK → Prop) (xs : List Dt) (z : Dt) : Prop :=
  ∀ B G F Γ σ H us (Q : VK), Ok K B G F Γ M σ H → Reps K F us xs → (∀ v F' H', Ok K B G F' Γ M σ H' → Ex F F' → Rep K F' v z → Q v H') → r us H Q
def OpCN (K : PySem.W.Frag) (M : Sto) (r : List V → Hp → VK → Prop) (xs : List Dt) (o : Ow) : Prop :=
  ∀ B G F Γ σ H us (Q : VK), Ok K B G F Γ M σ H → Reps K F us xs → (∀ a F' H', Ok K B G F' Γ ((a, o) :: M) σ H' → Ex F F' → Q (.ref a) H') → r us H Q
theorem ed_cb {r : List V → Hp → VK → Prop} {tq : TA} {xs : List Dt} (ha : EvA K Γ M tq xs) (hr : OpC K M r xs z) : EvD K Γ M (tCB r tq) z := fun B G F σ H Q k q =>
  ha B G F σ H _ k fun us F1 H1 k1 e1 r1 => hr B G F1 Γ σ H1 us Q k1 r1 fun v F3 H3 k3 e3 r3 => q v F3 H3 k3 (e1.trans e3) r3
theorem en_cb {r : List V → Hp → VK → Prop} {tq : TA} {xs : List Dt} (ha : EvA K Γ M tq xs) (hr : OpCN K M r xs o) : EvN K Γ M (tCB r tq) o := fun B G F σ H Q k q =>
  ha B G F σ H _ k fun us F1 H1 k1 e1 r1 => hr B G F1 Γ σ H1 us Q k1 r1 fun v F3 H3 k3 e3 => q v F3 H3 k3 (e1.trans e3)
theorem ea_nil : EvA K Γ M tNil [] := fun B G F σ H Q k q => q [] F H k (Ex.refl F) .nil
theorem ea_cons {tq : TA} {xs : List Dt} (h : EvD K Γ M ta x) (hr : EvA K Γ M tq xs) : EvA K Γ M (tCons ta tq) (x :: xs) := fun B G F σ H Q k q =>
  h B G F σ H _ k fun u F1 H1 k1 e1 r1 => hr B G F1 σ H1 _ k1 fun us F2 H2 k2 e2 r2 => q (u :: us) F2 H2 k2 (e1.trans e2) (.cons (r1.mono e2) r2)
theorem sz_le {n : Nat} (h : n ≤ 10000000) : n ≤ sizeLine := Nat.le_trans h (by decide)
theorem sz_lt {n : Nat} (h : n < 10000000) : n < sizeLine := Nat.lt_of_lt_of_le h (by decide)
theorem ed_tup {tq : TA} {xs : List Dt} (h : EvA K Γ M tq xs) (hl : xs.length ≤ 10000000) : EvD K Γ M (tTup tq) (.tup xs) := fun B G F σ H Q k q =>
  h B G F σ H _ k fun us F1 H1 k1 e1 r1 => ⟨sz_le (r1.length ▸ hl), fun p hp => q (.ref p) (upd F1 p (.tup us)) _ (k1.new hp) (e1.trans (Ex.new (ex_none k1.fh hp))) (.tup upd_same (r1.mono (Ex.new (ex_none k1.fh hp))))⟩
theorem en_lst {tq : TA} {xs : List Dt} (h : EvA K Γ M tq xs) (hl : xs.length ≤ 10000000) : EvN K Γ M (tLst tq) (.lst xs) := fun B G F σ H Q k q =>
  h B G F σ H _ k fun us F1 H1 k1 e1 r1 => ⟨sz_le (r1.length ▸ hl), fun p hp => q p F1 _ (k1.cell hp ⟨us, upd_same, r1⟩) e1⟩
theorem en_dnew : EvN K Γ M tDNewK (.dct []) := fun B G F σ H Q k q => fun p hp => q p F _ (k.cell hp ⟨[], upd_same, .nil⟩) (Ex.refl F)
/-- a if t else b -/
theorem ed_if {b : Bool} (h : EvT K Γ M tt b) (h1 : b = true → EvD K Γ M ta d) (h2 : b = false → EvD K Γ M tb d) : EvD K Γ M (tIf tt ta tb) d := fun B G F σ H Q k q =>
  h B G F σ H _ k fun F1 H1 k1 e1 => by
    cases b with
    | true => exact h1 rfl B G F1 σ H1 Q k1 fun v F2 H2 k2 e2 r2 => q v F2 H2 k2 (e1.trans e2) r2
    | false => exact h2 rfl B G F1 σ H1 Q k1 fun v F2 H2 k2 e2 r2 => q v F2 H2 k2 (e1.trans e2) r2

/-! ### tests -/
theorem et_test {b : Bool} (h : EvD K Γ M t (.bl b)) : EvT K Γ M (tTest t) b := fun B G F σ H Q k q => h B G F σ H _ k fun v F1 H1 k1 e1 r1 => by
  cases r1; exact ⟨b, rfl, q F1 H1 k1 e1⟩
theorem et_B {b : Bool} (h : EvD K Γ M t (.bl b)) : EvT K Γ M (tB t) b := fun B G F σ H Q k q => h B G F σ H _ k fun v F1 H1 k1 e1 r1 => by
  cases r1; exact ⟨b, rfl, q F1 H1 k1 e1⟩
theorem et_and {a b : Bool} (h1 : EvT K Γ M tt a) (h2 : a = true → EvT K Γ M u b) : EvT K Γ M (tAnd tt u) (a && b) := fun B G F σ H Q k q => h1 B G F σ H _ k fun F1 H1 k1 e1 => by
  cases a with
  | true => exact h2 rfl B G F1 σ H1 Q k1 fun F2 H2 k2 e2 => q F2 H2 k2 (e1.trans e2)
  | false => exact q F1 H1 k1 e1
theorem et_or {a b : Bool} (h1 : EvT K Γ M tt a) (h2 : a = false → EvT K Γ M u b) : EvT K Γ M (tOr tt u) (a || b) := fun B G F σ H Q k q => h1 B G F σ H _ k fun F1 H1 k1 e1 => by
  cases a with
  | false => exact h2 rfl B G F1 σ H1 Q k1 fun F2 H2 k2 e2 => q F2 H2 k2 (e1.trans e2)
  | true => exact q F1 H1 k1 e1
theorem et_not {a : Bool} (h1 : EvT K Γ M tt a) : EvT K Γ M (tNot tt) (!a) := fun B G F σ H Q k q => h1 B G F σ H _ k fun F1 H1 k1 e1 => q F1 H1 k1 e1
theorem ed_andV {a b : Bool} (h1 : EvD K Γ M ta (.bl a)) (h2 : a = true → EvD K Γ M tb (.bl b)) : EvD K Γ M (tAndV ta tb) (.bl (a && b)) := fun B G F σ H Q k q => h1 B G F σ H _ k fun v F1 H1 k1 e1 r1 => by
  cases r1
  refine ⟨a, rfl, ?_⟩
  cases a with
  | true => exact h2 rfl B G F1 σ H1 Q k1 fun v F2 H2 k2 e2 r2 => q v F2 H2 k2 (e1.trans e2) r2
  | false => exact q _ F1 H1 k1 e1 .bl
theorem ed_orV {a b : Bool} (h1 : EvD K Γ M ta (.bl a)) (h2 : a = false → EvD K Γ M tb (.bl b)) : EvD K Γ M (tOrV ta tb) (.bl (a || b)) := fun B G F σ H Q k q => h1 B G F σ H _ k fun v F1 H1 k1 e1 r1 => by
  cases r1
  refine ⟨a, rfl, ?_⟩
  cases a with
  | false => exact h2 rfl B G F1 σ H1 Q k1 fun v F2 H2 k2 e2 r2 => q v F2 H2 k2 (e1.trans e2) r2
  | true => exact q _ F1 H1 k1 e1 .bl
theorem ed_notV {a : Bool} (h1 : EvD K Γ M ta (.bl a)) : EvD K Γ M (tNotV ta) (.bl (!a)) := fun B G F σ H Q k q => h1 B G F σ H _ k fun v F1 H1 k1 e1 r1 => by
  cases r1
  exact ⟨a, rfl, q _ F1 H1 k1 e1 .bl⟩
theorem EvT.toX {b : Bool} (h : EvT K Γ M tt b) : EvTX K B G Γ M tt (fun b' M' => b' = b ∧ M' = M) := fun F σ H Q k q => h B G F σ H Q k fun F' H' k' e => q F' H' b M k' e ⟨rfl, rfl⟩
theorem etx_B {P : Dt → Sto → Prop} {P' : Bool → Sto → Prop} (h : EvX K B G Γ M t P) (hp : ∀ d M', P d M' → ∃ b, d = .bl b ∧ P' b M') : EvTX K B G Γ M (tB t) P' := fun F σ H Q k q => h F σ H _ k fun v F1 H1 d M1 k1 e1 r1 p => by
  obtain ⟨b, rfl, p'⟩ := hp d M1 p
  cases r1; exact ⟨b, rfl, q F1 H1 b M1 k1 e1 p'⟩
theorem etx_not {P : Bool → Sto → Prop} {P' : Bool → Sto → Prop} (h : EvTX K B G Γ M tt P) (hp : ∀ b M', P b M' → P' (!b) M') : EvTX K B G Γ M (tNot tt) P' := fun F σ H Q k q => h F σ H _ k fun F1 H1 b M1 k1 e1 p => q F1 H1 _ M1 k1 e1 (hp b M1 p)
theorem etx_and {P P1 P' : Bool → Sto → Prop} (h1 : EvTX K B G Γ M tt P) (h2 : ∀ M1, P true M1 → EvTX K B G Γ M1 u P') (h3 : ∀ M1, P false M1 → P' false M1) : EvTX K B G Γ M (tAnd tt u) P' := fun F σ H Q k q => h1 F σ H _ k fun F1 H1 b M1 k1 e1 p => by
  cases b with
  | true => exact h2 M1 p F1 σ H1 Q k1 fun F2 H2 b2 M2 k2 e2 p2 => q F2 H2 b2 M2 k2 (e1.trans e2) p2
  | false => exact q F1 H1 false M1 k1 e1 (h3 M1 p)
theorem etx_or {P P1 P' : Bool → Sto → Prop} (h1 : EvTX K B G Γ M tt P) (h2 : ∀ M1, P false M1 → EvTX K B G Γ M1 u P') (h3 : ∀ M1, P true M1 → P' true M1) : EvTX K B G Γ M (tOr tt u) P' := fun F σ H Q k q => h1 F σ H _ k fun F1 H1 b M1 k1 e1 p => by
  cases b with
  | false => exact h2 M1 p F1 σ H1 Q k1 fun F2 H2 b2 M2 k2 e2 p2 => q F2 H2 b2 M2 k2 (e1.trans e2) p2
  | true => exact q F1 H1 true M1 k1 e1 (h3 M1 p)
end
end Vl
namespace Vl
open PySem PySem.Spec PyProof.Rows L2 Evl

/-! ### rules that do for several kinds of values -/
def rIxD : R2 := fun x y H Q => ∃ a v, x = .ref a ∧ DGet H a y (some v) ∧ Q v H
def rIxU (K : PySem.W.Frag) : R2 := fun x y H Q => rIxL K x y H Q ∨ (rIxT K x y H Q ∨ (rIxS x y H Q ∨ rIxD x y H Q))
def rInD : R2 := fun y x H Q => ∃ a o, x = .ref a ∧ DGet H a y o ∧ Q (.bl o.isSome) H
def rNiD : R2 := fun y x H Q => ∃ a o, x = .ref a ∧ DGet H a y o ∧ Q (.bl (!o.isSome)) H
def rInS : R2 := fun x y H Q => ∃ (c : Nat) (z : Str), x = .str ⟨#[c]⟩ ∧ y = .str z ∧ Q (.bl (decide (c ∈ z.cps.toList))) H
def rNiS : R2 := fun x y H Q => ∃ (c : Nat) (z : Str), x = .str ⟨#[c]⟩ ∧ y = .str z ∧ Q (.bl (!decide (c ∈ z.cps.toList))) H
def rInU (K : PySem.W.Frag) : R2 := fun x y H Q => rIn K false x y H Q ∨ (rInS x y H Q ∨ rInD x y H Q)
def rNiU (K : PySem.W.Frag) : R2 := fun x y H Q => rIn K true x y H Q ∨ (rNiS x y H Q ∨ rNiD x y H Q)
def rAddS : R2 := fun x y H Q => ∃ i j, x = .str i ∧ y = .str j ∧ i.length + j.length ≤ sizeLine ∧ Q (.str (i ++ j)) H
abbrev rAddI : R2 := rI0 fun i j => .int (i + j)
def rAddU (K : PySem.W.Frag) : R2 := fun x y H Q => rAddI x y H Q ∨ (rAddS x y H Q ∨ (rCat x y H Q ∨ rCatT K x y H Q))
abbrev rMulI : R2 := rI CMul fun i j => .int (i * j)
def rMulU : R2 := fun x y H Q => rMulI x y H Q ∨ rRep x y H Q
abbrev rLtI : R2 := rI0 fun i j => .bl (decide (i < j))
def rLtU (K : PySem.W.Frag) : R2 := fun x y H Q => rLtI x y H Q ∨ rLtT K x y H Q
def rEqU (K : PySem.W.Frag) : R2 := fun x y H Q => rEq x y H Q ∨ rEqD K x y H Q
def rNeU (K : PySem.W.Frag) : R2 := fun x y H Q => rNe x y H Q ∨ rNeD K x y H Q
def rLenD : List V → Hp → VK → Prop := fun xs H Q => ∃ a kvs, xs = [V.ref a] ∧ H a = some (.dK kvs) ∧ Q (.int kvs.length) H
def rLenX (K : PySem.W.Frag) : List V → Hp → VK → Prop := fun xs H Q => ∃ x n, xs = [x] ∧ LenV K x H n ∧ Q (.int n) H
def rLenU (K : PySem.W.Frag) : List V → Hp → VK → Prop := fun xs H Q => rLenX K xs H Q ∨ rLenD xs H Q
def rSetD : V → V → V → Hp → (Hp → Prop) → Prop := fun o i v H Q => ∃ a H4, o = .ref a ∧ DPut H a i v H4 ∧ Q H4
def rSetU : V → V → V → Hp → (Hp → Prop) → Prop := fun o i v H Q => rSetL o i v H Q ∨ rSetD o i v H Q
section
variable {X : Cx}
theorem ix_dict (hu : X.A.units + 1 < cLine) : IxR X rIxD := by
  intro value slice pins s σ H x y v u Q I rx ry h hs
  obtain ⟨a, w, ex, g, q⟩ := h
  subst ex
  obtain rfl : v = Value.ref a := rx
  unfold subscriptTail
  refine wpAny_bind ?_
  rw [getitemInPython_of_ne (dict_typeIs I g).not_modules]
  refine wpAny_bind (wpAny_specialOf (dict_typeIs I g) PySem.F.slot_dict_getitem.lookup ?_)
  have fin : wpAny (model X.prog X.w) X.A (subscripted slice false (.ref a) u) (fun r s₃ => wpAny (model X.prog X.w) X.A (letTemporaryGo value (.ref a) r >>= fun _ => pure r) (EP X pins σ Q) X.xe s₃) X.xe s := by
    rw [hs]
    exact wpAny_operating (wpAny_mono (d_getItem hu I g ry fun w' s3 I3 rw' => (show EP X pins σ Q w' s3 from ⟨w, H, I3, rw', q⟩)) (fun r s₃ h₃ => wpAny_bind (wpAny_letTemporaryGo (wpAny_pure h₃))) fun _ _ x => x)
  first
    | exact wpAny_pure (wpAny_bind fin)
    | exact wpAny_bind (wpAny_pure (wpAny_bind fin))
    | exact wpAny_bind fin
theorem ix_U (hu : X.A.units + 1 < cLine) : IxR X (rIxU X.K) := ix_list.or (ix_tup.or (ix_str.or (ix_dict hu)))
theorem op_in_dict (hu : X.A.units + 1 < cLine) : OpR X (compareOp .In) rInD := by
  intro pins s σ H x y v u Q I rx ry h
  obtain ⟨a, o, ex, g, q⟩ := h
  subst ex
  obtain rfl : u = Value.ref a := ry
  exact d_in hu I g rx fun s3 I3 => ⟨.bl o.isSome, H, I3, rfl, q⟩
theorem op_ni_dict (hu : X.A.units + 1 < cLine) : OpR X (compareOp .NotIn) rNiD := by
  intro pins s σ H x y v u Q I rx ry h
  obtain ⟨a, o, ex, g, q⟩ := h
  subst ex
  obtain rfl : u = Value.ref a := ry
  exact d_notIn hu I g rx fun s3 I3 => ⟨.bl (!o.isSome), H, I3, rfl, q⟩
theorem op_inU (hu : X.A.units + 1 < cLine) : OpR X (compareOp .In) (rInU X.K) := op_in_seq.or ((show OpR X _ rInS from op_in_sign).or (op_in_dict hu))
theorem op_niU (hu : X.A.units + 1 < cLine) : OpR X (compareOp .NotIn) (rNiU X.K) := op_notIn_seq.or ((show OpR X _ rNiS from op_notIn_sign).or (op_ni_dict hu))
theorem op_addU : OpR X (binaryOp .Add) (rAddU X.K) := op_add.or ((show OpR X _ rAddS from op_add_str).or (op_cat.or op_catT))
theorem op_mulU : OpR X (binaryOp .Mult) rMulU := op_mul.or op_rep
theorem op_ltU (hu : X.A.units + 64 < cLine) : OpR X (compareOp .Lt) (rLtU X.K) := op_lt.or (op_ltT (by omega))
theorem op_eqU (hu : X.A.units + 64 < cLine) : OpR X (compareOp .Eq) (rEqU X.K) := op_eq.or (op_eqD hu)
theorem op_neU (hu : X.A.units + 64 < cLine) : OpR X (compareOp .NotEq) (rNeU X.K) := op_ne.or (op_neD hu)
theorem call_lenU : CallR X (.builtin "len") (rLenU X.K) := (show CallR X _ (rLenX X.K) from call_len).or (show CallR X _ rLenD from call_lenD)
theorem set_dict (hu : X.A.units + 1 < cLine) : PSet X rSetD := by
  intro pins s σ H o i v ov iv u Q I ro ri rv h
  obtain ⟨a, H4, ex, g, q⟩ := h
  subst ex
  obtain rfl : ov = Value.ref a := ro
  exact d_setItem hu I g ri rv fun s4 I4 => ⟨H4, I4, q⟩
theorem set_U (hu : X.A.units + 1 < cLine) : PSet X rSetU := by
  intro pins s σ H o i v ov iv u Q I ro ri rv h
  rcases h with h | h
  · exact set_list pins s σ H o i v ov iv u Q I ro ri rv h
  · exact set_dict hu pins s σ H o i v ov iv u Q I ro ri rv h
/-- o.m(e, ..), what is let out wished for at the caller's slots -/
def tMethS (C : Addr) (m : Str) (sp : Sp) (E : L2.St → XK) (ta : TE) (t : TA) : TE := fun σ H Q => ta σ H fun x H1 => ∃ a dx fs, x = .ref a ∧ H1 a = some (.ins C dx fs) ∧ fs.lookup m = none ∧
  t σ H1 fun vs H2 => sp (x :: vs) H2 Q (E σ)
theorem pe_methS {C f : Addr} {m : Str} {CX : CXT} {k : Nat} {fd : FuncData} {ps : List Str} {sp : Sp} {E : L2.St → XK} {o e : Expr} {es : List Expr} {ta : TE} {t : TA} {pos apos : Pos} {pl : Sem Bool} (he : PE X o ta) (c : Cls X.K C) (hm : Meth X.K C m f) (F : FnOk X.prog X.w X.K X.mg X.base CX k f fd ps sp) (hr : Room k X.A) (hb : Binds X.K fd ps []) (hx : ∀ σ, PassesAt CX X σ (E σ)) (ha : PA X (e :: es) t)
    (hst : starEach (e :: es) X.env = (false, eval e X.env) :: starEach es X.env := by rfl) (hpl : (backTo pos (starEach es X.env)).any (·.1) = false := by rfl)
    (ht : eval (.Call (.Attribute o m apos) (e :: es) [] pos) X.env = (do
      let ov ← eval o X.env
      standAt apos.atName
      let (f, first) ← holding [ov] (getMethod ov m pl)
      callWith pos f first (backTo pos (starEach (e :: es) X.env)) (backToKw pos (keywordEach [] X.env))) := by rfl) :
    PE X (.Call (.Attribute o m apos) (e :: es) [] pos) (tMethS C m sp E ta t) := by
  refine ⟨fun pins s σ H Q I h => ?_⟩
  refine PySem.W.methodCall_KW (pl := pl) (thn (he.run pins s σ H _ I h) fun u s1 ⟨x, H1, I1, rx, a, dx, fs, ex, ea, l, q⟩ => ?_) ht
  subst ex
  obtain rfl : u = Value.ref a := rx
  refine getmeth_ok I1 ea c hm l ?_
  refine PySem.W.callWith_K (first := [.ref a]) (h₀ := X.base) I.ok.mod.kin hm.kp (thn (ha.run pos pins s1 σ H1 _ I1 q) fun us s2 ⟨vs, H2, I2, r, q2⟩ => ⟨I2.kIn, ?_⟩) hst hpl
  exact run_fnS (us := .ref a :: us) (vs := .ref a :: vs) F hr hb (hx σ) I2 (.cons rfl r) q2
end

/-! ### operations on data -/
/-! a tree of data as the model's own -/
mutual
def toPD : Dt → Option PyData
  | .non => some .none
  | .bl b => some (.bool b)
  | .int i => some (.int i)
  | .str s => some (.str s)
  | .lst ds => (toPDs ds).map .list
  | .tup ds => (toPDs ds).map .tuple
  | _ => none
def toPDs : List Dt → Option (List PyData)
  | [] => some []
  | d :: ds => (toPD d).bind fun p => (toPDs ds).map fun ps => p :: ps
end
section
variable {K : PySem.W.Frag} {H : Hp}
mutual
theorem Rep.dp : ∀ {v : V} {d : Dt} {p : PyData}, Rep K H v d → toPD d = some p → Dp K H v p
  | _, _, _, .non, e => by cases e; exact .non
  | _, _, _, .bl, e => by cases e; exact .bl _
  | _, _, _, .int, e => by cases e; exact .int _
  | _, _, _, .str, e => by cases e; exact .str _
  | _, _, _, .lst (ds := ds) h r, e => by
    have e' : (toPDs ds).map PyData.list = some _ := e
    obtain ⟨ps, h1, h2⟩ := Option.map_eq_some_iff.mp e'
    subst h2
    exact .lst (SqL.of h) (Reps.dp r h1)
  | _, _, _, .tup (ds := ds) h r, e => by
    have e' : (toPDs ds).map PyData.tuple = some _ := e
    obtain ⟨ps, h1, h2⟩ := Option.map_eq_some_iff.mp e'
    subst h2
    exact .tup (SqT.of h) (Reps.dp r h1)
  | _, _, _, .dct _ _, e => by cases e
  | _, _, _, .lsr _ _, e => by cases e
  | _, _, _, .ob, e => by cases e
  | _, _, _, .ty, e => by cases e
  | _, _, _, .inst _ _, e => by cases e
theorem Reps.dp : ∀ {vs : List V} {ds : List Dt} {ps : List PyData}, Reps K H vs ds → toPDs ds = some ps → DpAll K H vs ps
  | _, _, _, .nil, e => by cases e; exact .nil
  | _, _, _, .cons (d := d) (ds := ds) r t, e => by
    have e' : ((toPD d).bind fun p => (toPDs ds).map fun ps => p :: ps) = some _ := e
    obtain ⟨p, h1, h2⟩ := Option.bind_eq_some_iff.mp e'
    obtain ⟨ps, h3, h4⟩ := Option.map_eq_some_iff.mp h2
    subst h4
    exact .cons (Rep.dp r h1) (Reps.dp t h3)
end
end
def Dt.isNon : Dt → Bool
  | .non => true
  | _ => false
/-- a key of a dict as data -/
def kD : Key → Dt
  | .inl i => .int i
  | .inr s => .str s
def flatD : Dt → Bool
  | .non => true
  | .bl _ => true
  | .int _ => true
  | .str _ => true
  | _ => false
/-- the value of flat data -/
def vD : Dt → V
  | .bl b => .bl b
  | .int i => .int i
  | .str s => .str s
  | _ => .non
section
variable {K : PySem.W.Frag} {M : Sto} {H : Hp}
theorem Rep.key {v : V} {k : Key} (r : Rep K H v (kD k)) : v = kV k := by
  cases k <;> cases r <;> rfl
theorem Rep.flat {v : V} {d : Dt} (r : Rep K H v d) (h : flatD d = true) : v = vD d ∧ flatV v = true := by
  cases r <;> first | exact ⟨rfl, rfl⟩ | cases h
theorem Rep.isNon {v : V} {d : Dt} (r : Rep K H v d) : decide (v = .non) = d.isNon := by
  cases r <;> first | rfl | simp [Dt.isNon]
theorem Rep.ofFlat {d : Dt} (h : flatD d = true) : Rep K H (vD d) d := by
  cases d <;> first | exact .non | exact .bl | exact .int | exact .str | cases h
/-- where a sequence stands: frozen, or an own cell -/
inductive Lst (M : Sto) : Dt → List Dt → Prop
  | frz {ds} : Lst M (.lst ds) ds
  | own {j : Nat} {a ds} : M[j]? = some (a, .lst ds) → Lst M (.ob a) ds
inductive Dct (M : Sto) : Dt → List (Key × Dt) → Prop
  | frz {ds} : Dct M (.dct ds) ds
  | own {j : Nat} {a ds} : M[j]? = some (a, .dct ds) → Dct M (.ob a) ds
theorem Lst.at_ {B G F : Hp} {Γ : Gm} {σ : L2.St} {v : V} {d : Dt} {ds : List Dt} (l : Lst M d ds) (k : Ok K B G F Γ M σ H) (r : Rep K F v d) : ∃ a xs, v = .ref a ∧ H a = some (.lst xs) ∧ Reps K F xs ds := by
  cases l with
  | frz => cases r with | lst h t => exact ⟨_, _, rfl, k.fh _ _ h, t⟩
  | own h => cases r; obtain ⟨_, _, xs, e, t⟩ := k.at_ h; exact ⟨_, xs, rfl, e, t⟩
theorem Dct.at_ {B G F : Hp} {Γ : Gm} {σ : L2.St} {v : V} {d : Dt} {ds : List (Key × Dt)} (l : Dct M d ds) (k : Ok K B G F Γ M σ H) (r : Rep K F v d) : ∃ a xs, v = .ref a ∧ H a = some (.dK xs) ∧ RepK K F xs ds := by
  cases l with
  | frz => cases r with | dct h t => exact ⟨_, _, rfl, k.fh _ _ h, t⟩
  | own h => cases r; obtain ⟨_, _, xs, e, t⟩ := k.at_ h; exact ⟨_, xs, rfl, e, t⟩
theorem op2_I0 {g : Int → Int → Int} {i j : Int} : Op2 K M (rI0 fun i j => .int (g i j)) (.int i) (.int j) (.int (g i j)) := fun B G F Γ σ H u w Q k r1 r2 q => by
  cases r1; cases r2; exact ⟨i, j, rfl, rfl, q _ F H k (Ex.refl F) .int⟩
theorem op2_IB {g : Int → Int → Bool} {i j : Int} : Op2 K M (rI0 fun i j => .bl (g i j)) (.int i) (.int j) (.bl (g i j)) := fun B G F Γ σ H u w Q k r1 r2 q => by
  cases r1; cases r2; exact ⟨i, j, rfl, rfl, q _ F H k (Ex.refl F) .bl⟩
theorem op2_I {C : Int → Int → Prop} {g : Int → Int → Int} {i j : Int} (h : C i j) : Op2 K M (rI C fun i j => .int (g i j)) (.int i) (.int j) (.int (g i j)) := fun B G F Γ σ H u w Q k r1 r2 q => by
  cases r1; cases r2; exact ⟨i, j, rfl, rfl, h, q _ F H k (Ex.refl F) .int⟩
theorem op2_l {r r' : R2} {x y z : Dt} (h : Op2 K M r x y z) : Op2 K M (fun a b H Q => r a b H Q ∨ r' a b H Q) x y z := fun B G F Γ σ H u w Q k r1 r2 q => .inl (h B G F Γ σ H u w Q k r1 r2 q)
theorem op2_r {r r' : R2} {x y z : Dt} (h : Op2 K M r' x y z) : Op2 K M (fun a b H Q => r a b H Q ∨ r' a b H Q) x y z := fun B G F Γ σ H u w Q k r1 r2 q => .inr (h B G F Γ σ H u w Q k r1 r2 q)
theorem opn_l {r r' : R2} {x y : Dt} {z : Ow} (h : OpN K M r x y z) : OpN K M (fun a b H Q => r a b H Q ∨ r' a b H Q) x y z := fun B G F Γ σ H u w Q k r1 r2 q => .inl (h B G F Γ σ H u w Q k r1 r2 q)
theorem opn_r {r r' : R2} {x y : Dt} {z : Ow} (h : OpN K M r' x y z) : OpN K M (fun a b H Q => r a b H Q ∨ r' a b H Q) x y z := fun B G F Γ σ H u w Q k r1 r2 q => .inr (h B G F Γ σ H u w Q k r1 r2 q)
theorem u_addI {i j : Int} : Op2 K M (rAddU K) (.int i) (.int j) (.int (i + j)) := op2_l op2_I0
theorem u_addS {s t : Str} (h : s.length + t.length ≤ 10000000) : Op2 K M (rAddU K) (.str s) (.str t) (.str (s ++ t)) := op2_r (op2_l fun B G F Γ σ H u w Q k r1 r2 q => by
  cases r1; cases r2; exact ⟨s, t, rfl, rfl, sz_le h, q _ F H k (Ex.refl F) .str⟩)
theorem u_addL {x y : Dt} {ds es : List Dt} (lx : Lst M x ds) (ly : Lst M y es) (h : ds.length + es.length ≤ 10000000) : OpN K M (rAddU K) x y (.lst (ds ++ es)) := opn_r (opn_r (opn_l fun B G F Γ σ H u w Q k r1 r2 q => by
  obtain ⟨a, xs, rfl, h1, t1⟩ := lx.at_ k r1
  obtain ⟨b, ys, rfl, h2, t2⟩ := ly.at_ k r2
  exact ⟨a, b, xs, ys, rfl, rfl, h1, h2, by rw [t1.length, t2.length]; exact sz_le h, fun p hp => q p F _ (k.cell hp ⟨_, upd_same, t1.append t2⟩) (Ex.refl F)⟩))
theorem u_addT {ds es : List Dt} (h1 : ds ≠ []) (h2 : es ≠ []) (h : ds.length + es.length ≤ 10000000) : Op2 K M (rAddU K) (.tup ds) (.tup es) (.tup (ds ++ es)) := op2_r (op2_r (op2_r fun B G F Γ σ H u w Q k r1 r2 q => by
  cases r1 with | tup e1 t1 => cases r2 with | tup e2 t2 =>
  have n1 : ∀ {zs : List V} {fs : List Dt}, Reps K F zs fs → fs ≠ [] → zs ≠ [] := fun t n z => by subst z; cases t; exact n rfl
  refine ⟨_, _, _, _, rfl, rfl, SqT.of (k.fh _ _ e1), SqT.of (k.fh _ _ e2), n1 t1 h1, by rw [t1.length, t2.length]; exact sz_le h, ?_⟩
  first
    | exact ⟨fun z => absurd z (n1 t2 h2), fun _ p hp => q (.ref p) (upd F p _) _ (k.new hp) (Ex.new (ex_none k.fh hp)) (.tup upd_same ((t1.append t2).mono (Ex.new (ex_none k.fh hp))))⟩
    | exact fun z p hp => q (.ref p) (upd F p _) _ (k.new hp) (Ex.new (ex_none k.fh hp)) (.tup upd_same ((t1.append t2).mono (Ex.new (ex_none k.fh hp))))))
theorem u_mulI {i j : Int} (h : CMul i j) : Op2 K M rMulU (.int i) (.int j) (.int (i * j)) := op2_l (op2_I h)
theorem u_ltI {i j : Int} : Op2 K M (rLtU K) (.int i) (.int j) (.bl (decide (i < j))) := op2_l op2_IB
theorem u_eqI {i j : Int} : Op2 K M (rEqU K) (.int i) (.int j) (.bl (decide (i = j))) := op2_l fun B G F Γ σ H u w Q k r1 r2 q => by
  cases r1; cases r2; exact ⟨rfl, q _ F H k (Ex.refl F) (by rw [show decide (V.int i = V.int j) = decide (i = j) by simp]; exact .bl)⟩
theorem u_eqS {i j : Str} : Op2 K M (rEqU K) (.str i) (.str j) (.bl (decide (i = j))) := op2_l fun B G F Γ σ H u w Q k r1 r2 q => by
  cases r1; cases r2; exact ⟨rfl, q _ F H k (Ex.refl F) (by rw [show decide (V.str i = V.str j) = decide (i = j) by simp]; exact .bl)⟩
theorem u_eqB {i j : Bool} : Op2 K M (rEqU K) (.bl i) (.bl j) (.bl (decide (i = j))) := op2_l fun B G F Γ σ H u w Q k r1 r2 q => by
  cases r1; cases r2; exact ⟨rfl, q _ F H k (Ex.refl F) (by rw [show decide (V.bl i = V.bl j) = decide (i = j) by simp]; exact .bl)⟩
theorem u_neI {i j : Int} : Op2 K M (rNeU K) (.int i) (.int j) (.bl (!decide (i = j))) := op2_l fun B G F Γ σ H u w Q k r1 r2 q => by
  cases r1; cases r2; exact ⟨rfl, q _ F H k (Ex.refl F) (by rw [show decide (V.int i = V.int j) = decide (i = j) by simp]; exact .bl)⟩
theorem u_neS {i j : Str} : Op2 K M (rNeU K) (.str i) (.str j) (.bl (!decide (i = j))) := op2_l fun B G F Γ σ H u w Q k r1 r2 q => by
  cases r1; cases r2; exact ⟨rfl, q _ F H k (Ex.refl F) (by rw [show decide (V.str i = V.str j) = decide (i = j) by simp]; exact .bl)⟩
theorem u_neB {i j : Bool} : Op2 K M (rNeU K) (.bl i) (.bl j) (.bl (!decide (i = j))) := op2_l fun B G F Γ σ H u w Q k r1 r2 q => by
  cases r1; cases r2; exact ⟨rfl, q _ F H k (Ex.refl F) (by rw [show decide (V.bl i = V.bl j) = decide (i = j) by simp]; exact .bl)⟩
theorem u_neIN {i : Int} : Op2 K M (rNeU K) (.int i) .non (.bl true) := op2_l fun B G F Γ σ H u w Q k r1 r2 q => by
  cases r1; cases r2; exact ⟨rfl, q _ F H k (Ex.refl F) .bl⟩
theorem u_neNN : Op2 K M (rNeU K) .non .non (.bl false) := op2_l fun B G F Γ σ H u w Q k r1 r2 q => by
  cases r1; cases r2; exact ⟨rfl, q _ F H k (Ex.refl F) .bl⟩
/-! data as it is seen with the own cells within -/
mutual
inductive Sees (M : Sto) : Dt → Dt → Prop
  | rfl {d} : Sees M d d
  | lst {j : Nat} {a ds es} : M[j]? = some (a, .lst ds) → SeesL M ds es → Sees M (.ob a) (.lst es)
  | dct {j : Nat} {a ds es} : M[j]? = some (a, .dct ds) → SeesK M ds es → Sees M (.ob a) (.dct es)
  | llst {ds es} : SeesL M ds es → Sees M (.lst ds) (.lst es)
  | ltup {ds es} : SeesL M ds es → Sees M (.tup ds) (.tup es)
  | linst {C ds es} : SeesF M ds es → Sees M (.inst C ds) (.inst C es)
inductive SeesL (M : Sto) : List Dt → List Dt → Prop
  | rfl {ds} : SeesL M ds ds
  | cons {d e ds es} : Sees M d e → SeesL M ds es → SeesL M (d :: ds) (e :: es)
inductive SeesK (M : Sto) : List (Key × Dt) → List (Key × Dt) → Prop
  | rfl {ds} : SeesK M ds ds
  | cons {k d e ds es} : Sees M d e → SeesK M ds es → SeesK M ((k, d) :: ds) ((k, e) :: es)
inductive SeesF (M : Sto) : List (Str × Dt) → List (Str × Dt) → Prop
  | rfl {ds} : SeesF M ds ds
  | cons {k d e ds es} : Sees M d e → SeesF M ds es → SeesF M ((k, d) :: ds) ((k, e) :: es)
end
/-! F with the cells -/
open Classical in
def withC (F H : Hp) (M : Sto) : Hp := fun a => if a ∈ M.map (·.1) then H a else F a
section
variable {B G F F' : Hp} {Γ : Gm} {σ : L2.St}
theorem Ok.exC (k : Ok K B G F Γ M σ H) : Ex F (withC F H M) := fun a o e => by
  unfold withC
  split
  · exact k.fh a o e
  · exact e
theorem Ok.exC2 (k : Ok K B G F Γ M σ H) : Ex (withC F H M) H := fun a o e => by
  unfold withC at e
  split at e
  · exact e
  · exact k.fh a o e
theorem withC_at {a : Addr} {o : Ow} {j : Nat} (h : M[j]? = some (a, o)) : withC F H M a = H a := by
  unfold withC
  rw [if_pos (List.mem_map.mpr ⟨(a, o), List.mem_of_getElem? h, rfl⟩)]
mutual
theorem Sees.rep (k : Ok K B G F Γ M σ H) : ∀ {v : V} {d e : Dt}, Sees M d e → Rep K (withC F H M) v d → Rep K (withC F H M) v e
  | _, _, _, .rfl, r => r
  | _, _, _, .lst h s, r => by
    cases r
    obtain ⟨_, _, xs, hx, t⟩ := k.at_ h
    exact .lst ((withC_at h).trans hx) (SeesL.rep k s (t.mono k.exC))
  | _, _, _, .dct h s, r => by
    cases r
    obtain ⟨_, _, xs, hx, t⟩ := k.at_ h
    exact .dct ((withC_at h).trans hx) (SeesK.rep k s (t.mono k.exC))
  | _, _, _, .llst s, r => by cases r with | lst h t => exact .lst h (SeesL.rep k s t)
  | _, _, _, .ltup s, r => by cases r with | tup h t => exact .tup h (SeesL.rep k s t)
  | _, _, _, .linst s, r => by cases r with | inst h t => exact .inst h (SeesF.rep k s t)
theorem SeesL.rep (k : Ok K B G F Γ M σ H) : ∀ {v : List V} {d e : List Dt}, SeesL M d e → Reps K (withC F H M) v d → Reps K (withC F H M) v e
  | _, _, _, .rfl, r => r
  | _, _, _, .cons s t, r => by cases r with | cons r1 r2 => exact .cons (Sees.rep k s r1) (SeesL.rep k t r2)
theorem SeesK.rep (k : Ok K B G F Γ M σ H) : ∀ {v : List (Key × V)} {d e : List (Key × Dt)}, SeesK M d e → RepK K (withC F H M) v d → RepK K (withC F H M) v e
  | _, _, _, .rfl, r => r
  | _, _, _, .cons s t, r => by cases r with | cons r1 r2 => exact .cons (Sees.rep k s r1) (SeesK.rep k t r2)
theorem SeesF.rep (k : Ok K B G F Γ M σ H) : ∀ {v : List (Str × V)} {d e : List (Str × Dt)}, SeesF M d e → RepF K (withC F H M) v d → RepF K (withC F H M) v e
  | _, _, _, .rfl, r => r
  | _, _, _, .cons s t, r => by cases r with | cons r1 r2 => exact .cons (Sees.rep k s r1) (SeesF.rep k t r2)
end
end
/-- == of data: through the cells -/
theorem u_eqD {x y x' y' : Dt} {p q : PyData} (sx : Sees M x x') (sy : Sees M y y') (hx : toPD x' = some p) (hy : toPD y' = some q) (h1 : SeqAt.shaped p = true) (h2 : SeqAt.shaped q = true) : Op2 K M (rEqU K) x y (.bl (PyData.eqv p q)) := op2_r fun B G F Γ σ H u w Q k r1 r2 qq =>
  ⟨p, q, (((sx.rep k (r1.mono k.exC)).mono k.exC2).dp hx), (((sy.rep k (r2.mono k.exC)).mono k.exC2).dp hy), h1, h2, qq _ F H k (Ex.refl F) .bl⟩
theorem u_neD {x y x' y' : Dt} {p q : PyData} (sx : Sees M x x') (sy : Sees M y y') (hx : toPD x' = some p) (hy : toPD y' = some q) (h1 : SeqAt.shaped p = true) (h2 : SeqAt.shaped q = true) : Op2 K M (rNeU K) x y (.bl (!PyData.eqv p q)) := op2_r fun B G F Γ σ H u w Q k r1 r2 qq =>
  ⟨p, q, (((sx.rep k (r1.mono k.exC)).mono k.exC2).dp hx), (((sy.rep k (r2.mono k.exC)).mono k.exC2).dp hy), h1, h2, qq _ F H k (Ex.refl F) .bl⟩
/-! subscripts -/
theorem atI_of {α β : Type} {R : α → β → Prop} {xs : List α} {ds : List β} {i : Int} {d : β} (hl : xs.length = ds.length) (hg : ∀ (j : Nat) (d : β), ds[j]? = some d → ∃ x, xs[j]? = some x ∧ R x d) (h : atI ds i = some d) : ∃ x, atI xs i = some x ∧ R x d := by
  unfold atI at h ⊢
  obtain ⟨j, h1, h2⟩ := Option.bind_eq_some_iff.mp h
  obtain ⟨x, h3, h4⟩ := hg j d h2
  exact ⟨x, by rw [hl, h1]; exact h3, h4⟩
theorem u_ixL {x z : Dt} {ds : List Dt} {i : Int} (l : Lst M x ds) (h : atI ds i = some z) : Op2 K M (rIxU K) x (.int i) z := op2_l fun B G F Γ σ H u w Q k r1 r2 q => by
  obtain ⟨a, xs, rfl, h1, t1⟩ := l.at_ k r1
  cases r2
  obtain ⟨v, hv, rv⟩ := atI_of t1.length (fun j d e => t1.get e) h
  exact ⟨a, xs, i, v, rfl, rfl, SqL.of h1, hv, q v F H k (Ex.refl F) rv⟩
theorem u_ixR {z : Dt} {ds : List Dt} {i : Int} (h : atI ds i = some z) : Op2 K M (rIxU K) (.lsr ds) (.int i) z := op2_l fun B G F Γ σ H u w Q k r1 r2 q => by
  cases r1 with | lsr h1 t1 =>
  cases r2
  obtain ⟨v, hv, rv⟩ := atI_of t1.length (fun j d e => t1.get e) h
  exact ⟨_, _, i, v, rfl, rfl, ex_l k.fh h1, hv, q v F H k (Ex.refl F) rv⟩
theorem u_ixT {z : Dt} {ds : List Dt} {i : Int} (h : atI ds i = some z) : Op2 K M (rIxU K) (.tup ds) (.int i) z := op2_r (op2_l fun B G F Γ σ H u w Q k r1 r2 q => by
  cases r1 with | tup h1 t1 =>
  cases r2
  obtain ⟨v, hv, rv⟩ := atI_of t1.length (fun j d e => t1.get e) h
  exact ⟨_, _, i, v, rfl, rfl, SqT.of (k.fh _ _ h1), hv, q v F H k (Ex.refl F) rv⟩)
theorem u_ixS {s : Str} {i : Int} {c : Nat} (hl : s.length ≤ 10000000) (h : atI s.cps.toList i = some c) : Op2 K M (rIxU K) (.str s) (.int i) (.str ⟨#[c]⟩) := op2_r (op2_r (op2_l fun B G F Γ σ H u w Q k r1 r2 q => by
  cases r1; cases r2
  exact ⟨s, i, c, rfl, rfl, sz_le hl, h, q _ F H k (Ex.refl F) .str⟩))
theorem u_ixD {x z y : Dt} {key : Key} {kvs : List (Key × Dt)} (l : Dct M x kvs) (hk : y = kD key) (h : valD kvs key = some z) : Op2 K M (rIxU K) x y z := op2_r (op2_r (op2_r fun B G F Γ σ H u w Q k r1 r2 q => by
  subst hk
  obtain ⟨a, xs, rfl, h1, t1⟩ := l.at_ k r1
  obtain rfl := r2.key
  obtain ⟨v, hv, rv⟩ := t1.val h
  exact ⟨a, v, rfl, hv ▸ DGet.k h1, q v F H k (Ex.refl F) rv⟩))
theorem u_inD {x y : Dt} {key : Key} {kvs : List (Key × Dt)} (l : Dct M x kvs) (hk : y = kD key) : Op2 K M (rInU K) y x (.bl (valD kvs key).isSome) := op2_r (op2_r fun B G F Γ σ H u w Q k r2 r1 q => by
  subst hk
  obtain ⟨a, xs, rfl, h1, t1⟩ := l.at_ k r1
  obtain rfl := r2.key
  exact ⟨a, valV xs key, rfl, DGet.k h1, q _ F H k (Ex.refl F) (by rw [t1.isSome]; exact .bl)⟩)
theorem u_niD {x y : Dt} {key : Key} {kvs : List (Key × Dt)} (l : Dct M x kvs) (hk : y = kD key) : Op2 K M (rNiU K) y x (.bl (!(valD kvs key).isSome)) := op2_r (op2_r fun B G F Γ σ H u w Q k r2 r1 q => by
  subst hk
  obtain ⟨a, xs, rfl, h1, t1⟩ := l.at_ k r1
  obtain rfl := r2.key
  exact ⟨a, valV xs key, rfl, DGet.k h1, q _ F H k (Ex.refl F) (by rw [t1.isSome]; exact .bl)⟩)
theorem u_inS {c : Nat} {s : Str} : Op2 K M (rInU K) (.str ⟨#[c]⟩) (.str s) (.bl (decide (c ∈ s.cps.toList))) := op2_r (op2_l fun B G F Γ σ H u w Q k r1 r2 q => by
  cases r1; cases r2; exact ⟨c, s, rfl, rfl, q _ F H k (Ex.refl F) .bl⟩)
theorem u_niS {c : Nat} {s : Str} : Op2 K M (rNiU K) (.str ⟨#[c]⟩) (.str s) (.bl (!decide (c ∈ s.cps.toList))) := op2_r (op2_l fun B G F Γ σ H u w Q k r1 r2 q => by
  cases r1; cases r2; exact ⟨c, s, rfl, rfl, q _ F H k (Ex.refl F) .bl⟩)
def inDt (x : Dt) (ds : List Dt) : Bool := inV (vD x) (ds.map vD)
theorem Reps.flat : ∀ {vs : List V} {ds : List Dt}, Reps K H vs ds → ds.all flatD = true → vs = ds.map vD ∧ vs.all flatV = true
  | _, _, .nil, _ => ⟨rfl, rfl⟩
  | _, _, .cons r t, h => by
    rw [List.all_cons, Bool.and_eq_true_iff] at h
    obtain ⟨e1, f1⟩ := r.flat h.1
    obtain ⟨e2, f2⟩ := Reps.flat t h.2
    exact ⟨by rw [List.map_cons, ← e1, ← e2], by rw [List.all_cons, f1, f2]; rfl⟩
theorem u_inL {x y : Dt} {ds : List Dt} (l : Lst M y ds) (hx : flatD x = true) (hd : ds.all flatD = true) : Op2 K M (rInU K) x y (.bl (inDt x ds)) := op2_l fun B G F Γ σ H u w Q k r2 r1 q => by
  obtain ⟨a, xs, rfl, h1, t1⟩ := l.at_ k r1
  obtain ⟨rfl, f⟩ := r2.flat hx
  obtain ⟨rfl, f2⟩ := t1.flat hd
  exact ⟨a, _, rfl, .inl (SqL.of h1), f, f2, q _ F H k (Ex.refl F) .bl⟩
theorem u_niL {x y : Dt} {ds : List Dt} (l : Lst M y ds) (hx : flatD x = true) (hd : ds.all flatD = true) : Op2 K M (rNiU K) x y (.bl (!inDt x ds)) := op2_l fun B G F Γ σ H u w Q k r2 r1 q => by
  obtain ⟨a, xs, rfl, h1, t1⟩ := l.at_ k r1
  obtain ⟨rfl, f⟩ := r2.flat hx
  obtain ⟨rfl, f2⟩ := t1.flat hd
  exact ⟨a, _, rfl, .inl (SqL.of h1), f, f2, q _ F H k (Ex.refl F) .bl⟩
theorem u_inT {x : Dt} {ds : List Dt} (hx : flatD x = true) (hd : ds.all flatD = true) : Op2 K M (rInU K) x (.tup ds) (.bl (inDt x ds)) := op2_l fun B G F Γ σ H u w Q k r2 r1 q => by
  cases r1 with | tup h1 t1 =>
  obtain ⟨rfl, f⟩ := r2.flat hx
  obtain ⟨rfl, f2⟩ := t1.flat hd
  exact ⟨_, _, rfl, .inr (SqT.of (k.fh _ _ h1)), f, f2, q _ F H k (Ex.refl F) .bl⟩
/-! len -/
theorem opc_l {r r' : List V → Hp → VK → Prop} {x : List Dt} {z : Dt} (h : OpC K M r x z) : OpC K M (fun b H Q => r b H Q ∨ r' b H Q) x z := fun B G F Γ σ H u Q k r1 q => .inl (h B G F Γ σ H u Q k r1 q)
theorem opc_r {r r' : List V → Hp → VK → Prop} {x : List Dt} {z : Dt} (h : OpC K M r' x z) : OpC K M (fun b H Q => r b H Q ∨ r' b H Q) x z := fun B G F Γ σ H u Q k r1 q => .inr (h B G F Γ σ H u Q k r1 q)
theorem Reps.one {vs : List V} {d : Dt} (r : Reps K H vs [d]) : ∃ v, vs = [v] ∧ Rep K H v d := by
  cases r with | cons r t => cases t; exact ⟨_, rfl, r⟩
theorem Reps.two {vs : List V} {d e : Dt} (r : Reps K H vs [d, e]) : ∃ v w, vs = [v, w] ∧ Rep K H v d ∧ Rep K H w e := by
  cases r with | cons r t => obtain ⟨w, rfl, r2⟩ := t.one; exact ⟨_, w, rfl, r, r2⟩
theorem u_lenL {x : Dt} {ds : List Dt} (l : Lst M x ds) : OpC K M (rLenU K) [x] (.int ds.length) := opc_l fun B G F Γ σ H u Q k r1 q => by
  obtain ⟨v, rfl, r⟩ := r1.one
  obtain ⟨a, xs, rfl, h1, t1⟩ := l.at_ k r
  exact ⟨.ref a, ds.length, rfl, .inl ⟨xs, SqL.of h1, t1.length.symm⟩, q _ F H k (Ex.refl F) .int⟩
theorem u_lenR {ds : List Dt} : OpC K M (rLenU K) [.lsr ds] (.int ds.length) := opc_l fun B G F Γ σ H u Q k r1 q => by
  obtain ⟨v, rfl, r⟩ := r1.one
  cases r with | lsr h1 t1 => exact ⟨_, ds.length, rfl, .inl ⟨_, ex_l k.fh h1, t1.length.symm⟩, q _ F H k (Ex.refl F) .int⟩
theorem u_lenT {ds : List Dt} : OpC K M (rLenU K) [.tup ds] (.int ds.length) := opc_l fun B G F Γ σ H u Q k r1 q => by
  obtain ⟨v, rfl, r⟩ := r1.one
  cases r with | tup h1 t1 => exact ⟨_, ds.length, rfl, .inr ⟨_, SqT.of (k.fh _ _ h1), t1.length.symm⟩, q _ F H k (Ex.refl F) .int⟩
theorem u_lenS {s : Str} (h : s.length ≤ 10000000) : OpC K M (rLenU K) [.str s] (.int s.length) := opc_l fun B G F Γ σ H u Q k r1 q => by
  obtain ⟨v, rfl, r⟩ := r1.one
  cases r
  exact ⟨_, s.length, rfl, ⟨sz_le h, rfl⟩, q _ F H k (Ex.refl F) .int⟩
theorem u_lenD {x : Dt} {kvs : List (Key × Dt)} (l : Dct M x kvs) : OpC K M (rLenU K) [x] (.int kvs.length) := opc_r fun B G F Γ σ H u Q k r1 q => by
  obtain ⟨v, rfl, r⟩ := r1.one
  obtain ⟨a, xs, rfl, h1, t1⟩ := l.at_ k r
  exact ⟨a, xs, rfl, h1, q _ F H k (Ex.refl F) (by rw [t1.length]; exact .int)⟩
end
end Vl
namespace Vl
open PySem PySem.Spec PyProof.Rows L2 Evl

/-! ### statements -/
def Up (K : PySem.W.Frag) (B G : Hp) (I : Gm → Sto → Prop) : L2.St → Hp → Prop := fun σ H => ∃ F Γ M, Ok K B G F Γ M σ H ∧ I Γ M
section
variable {K : PySem.W.Frag} {B G : Hp} {Γ Γ' : Gm} {M M' : Sto} {te ta : TE} {c : TT} {t u : TS} {D : Ends} {d : Dt} {o : Ow} {i j : Nat} {a : Addr} {N : L2.St → Hp → Prop} {P : Dt → Sto → Prop}
theorem at_seq (h : At K B G Γ M (t { D with nx := u D })) : At K B G Γ M (tSeq t u D) := h
theorem at_next (h : At K B G Γ M D.nx) : At K B G Γ M (tNext D) := h
theorem at_asg (h : EvD K Γ M te d) (q : At K B G (Γ.set i (some d)) M D.nx) : At K B G Γ M (tAsg te (gName i) D) := fun F σ H k => h B G F σ H _ k fun v F' H' k' e r => q F' _ H' (k'.setS r)
theorem at_asgX (h : EvX K B G Γ M te P) (q : ∀ d M', P d M' → At K B G (Γ.set i (some d)) M' D.nx) : At K B G Γ M (tAsg te (gName i) D) := fun F σ H k => h F σ H _ k fun v F' H' d M' k' e r p => q d M' p F' _ H' (k'.setS r)
theorem at_asgN (h : EvN K Γ M te o) (q : ∀ a, At K B G (Γ.set i (some (.ob a))) ((a, o) :: M) D.nx) : At K B G Γ M (tAsg te (gName i) D) := fun F σ H k => h B G F σ H _ k fun a F' H' k' e => q a F' _ H' (k'.setS .ob)
theorem at_if {b : Bool} (h : EvT K Γ M c b) (h1 : b = true → At K B G Γ M (t D)) (h2 : b = false → At K B G Γ M (u D)) : At K B G Γ M (tIfS c t u D) := fun F σ H k => h B G F σ H _ k fun F' H' k' e => by
  cases b with
  | true => exact h1 rfl F' σ H' k'
  | false => exact h2 rfl F' σ H' k'
theorem at_ifX {P : Bool → Sto → Prop} (h : EvTX K B G Γ M c P) (h1 : ∀ M', P true M' → At K B G Γ M' (t D)) (h2 : ∀ M', P false M' → At K B G Γ M' (u D)) : At K B G Γ M (tIfS c t u D) := fun F σ H k => h F σ H _ k fun F' H' b M' k' e p => by
  cases b with
  | true => exact h1 M' p F' σ H' k'
  | false => exact h2 M' p F' σ H' k'
theorem at_drop (h : EvD K Γ M te d) (q : At K B G Γ M D.nx) : At K B G Γ M (tDrop te D) := fun F σ H k => h B G F σ H _ k fun v F' H' k' e r => q F' _ H' k'
theorem at_dropX (h : EvX K B G Γ M te P) (q : ∀ d M', P d M' → At K B G Γ M' D.nx) : At K B G Γ M (tDrop te D) := fun F σ H k => h F σ H _ k fun v F' H' d M' k' e r p => q d M' p F' _ H' k'
theorem at_ret (h : EvD K Γ M te d) (q : Rt K B G d M D.rt) : At K B G Γ M (tRet te D) := fun F σ H k => h B G F σ H _ k fun v F' H' k' e r => q v F' Γ σ H' k' r
theorem at_retX (h : EvX K B G Γ M te P) (q : ∀ d M', P d M' → Rt K B G d M' D.rt) : At K B G Γ M (tRet te D) := fun F σ H k => h F σ H _ k fun v F' H' d M' k' e r p => q d M' p v F' Γ σ H' k' r
theorem at_retNw (h : EvN K Γ M te o) (q : ∀ a, Rt K B G (.ob a) ((a, o) :: M) D.rt) : At K B G Γ M (tRet te D) := fun F σ H k => h B G F σ H _ k fun a F' H' k' e => q a (.ref a) F' Γ σ H' k' .ob
theorem at_retN (q : Rt K B G .non M D.rt) : At K B G Γ M (tRetN D) := fun F σ H k => q .non F Γ σ H k .non
theorem at_less (h : At K B G Γ' M N) (hl : Γ'.length = Γ.length) (hw : ∀ (i : Nat) (d : Dt), Γ'[i]? = some (some d) → Γ[i]? = some (some d)) : At K B G Γ M N := fun F σ H k => h F σ H (k.less hl hw)
theorem at_cells (h : At K B G Γ M' N) (hs : M'.Sublist M) : At K B G Γ M N := fun F σ H k => h F σ H (k.drop hs)
theorem Ok.frzS {F H : Hp} {σ : L2.St} {ds : List Dt} (k : Ok K B G F Γ M σ H) (h : M[j]? = some (a, .lst ds)) (hi : Γ[i]? = some (some (.ob a))) : ∃ F', Ok K B G F' (Γ.set i (some (.lst ds))) (M.eraseIdx j) σ H ∧ Ex F F' := by
  obtain ⟨f1, _, xs, hx, rx⟩ := k.at_ h
  obtain ⟨v, hv, rv⟩ := k.env i _ hi
  cases rv
  have k2 := (k.freeze h hx).setS (i := i) (v := .ref a) (d := .lst ds) (.lst upd_same (rx.mono (Ex.new f1)))
  have e : σ.set i (some (.ref a)) = σ := by
    obtain ⟨hl, e⟩ := List.getElem?_eq_some_iff.mp hv
    rw [← e]; exact List.set_getElem_self hl
  rw [e] at k2
  exact ⟨_, k2, Ex.new f1⟩
/-- a list is frozen that the name in slot i holds -/
theorem at_frz {ds : List Dt} (j i : Nat) (h : M[j]? = some (a, .lst ds)) (hi : Γ[i]? = some (some (.ob a))) (q : At K B G (Γ.set i (some (.lst ds))) (M.eraseIdx j) N) : At K B G Γ M N := fun F σ H k => by
  obtain ⟨F', k', _⟩ := k.frzS h hi
  exact q F' σ H k'
/-- if c: x = e, x an int -/
theorem at_ifI {b : Bool} {x y : Int} (h : EvT K Γ M c b) (hy : Γ[i]? = some (some (.int y))) (h1 : b = true → EvD K Γ M te (.int x)) (q : At K B G (Γ.set i (some (.int (if b = true then x else y)))) M D.nx) : At K B G Γ M (tIfS c (tAsg te (gName i)) tNext D) :=
  at_if h (fun hb => at_asg (h1 hb) (by rw [hb, if_pos rfl] at q; exact q)) (fun hb => by
    have e : Γ.set i (some (.int y)) = Γ := by
      obtain ⟨hl, e⟩ := List.getElem?_eq_some_iff.mp hy
      rw [← e]; exact List.set_getElem_self hl
    rw [hb, if_neg (by decide), e] at q
    exact at_next q)
theorem at_ifS {b : Bool} {x y : Str} (h : EvT K Γ M c b) (hy : Γ[i]? = some (some (.str y))) (h1 : b = true → EvD K Γ M te (.str x)) (q : At K B G (Γ.set i (some (.str (if b = true then x else y)))) M D.nx) : At K B G Γ M (tIfS c (tAsg te (gName i)) tNext D) :=
  at_if h (fun hb => at_asg (h1 hb) (by rw [hb, if_pos rfl] at q; exact q)) (fun hb => by
    have e : Γ.set i (some (.str y)) = Γ := by
      obtain ⟨hl, e⟩ := List.getElem?_eq_some_iff.mp hy
      rw [← e]; exact List.set_getElem_self hl
    rw [hb, if_neg (by decide), e] at q
    exact at_next q)
theorem at_ifB {b x y : Bool} (h : EvT K Γ M c b) (hy : Γ[i]? = some (some (.bl y))) (h1 : b = true → EvD K Γ M te (.bl x)) (q : At K B G (Γ.set i (some (.bl (if b = true then x else y)))) M D.nx) : At K B G Γ M (tIfS c (tAsg te (gName i)) tNext D) :=
  at_if h (fun hb => at_asg (h1 hb) (by rw [hb, if_pos rfl] at q; exact q)) (fun hb => by
    have e : Γ.set i (some (.bl y)) = Γ := by
      obtain ⟨hl, e⟩ := List.getElem?_eq_some_iff.mp hy
      rw [← e]; exact List.set_getElem_self hl
    rw [hb, if_neg (by decide), e] at q
    exact at_next q)
/-! stores into cells -/
theorem ty_lst {H : Hp} {a : Addr} {xs : List V} (h : H a = some (.lst xs)) : tyV K "list" (.ref a) H := .inl ⟨rfl, xs, .inl (.inl h)⟩
theorem at_appX {ds : List Dt} (ho : EvD K Γ M ta (.ob a)) (hj : M[j]? = some (a, .lst ds)) (he : EvX K B G Γ M te P)
    (q : ∀ d M', P d M' → ∃ (j' : Nat) (ds' : List Dt), M'[j']? = some (a, .lst ds') ∧ ds'.length < 10000000 ∧ At K B G Γ (M'.set j' (a, .lst (ds' ++ [d]))) D.nx) :
    At K B G Γ M (tDrop (tBM K "list" rAppend ta (tCons te tNil)) D) := fun F σ H k => ho B G F σ H _ k fun v F1 H1 k1 e1 r1 => by
  cases r1
  obtain ⟨_, _, xs1, hx1, _⟩ := k1.at_ hj
  refine ⟨ty_lst hx1, he F1 σ H1 _ k1 fun w F2 H2 d M2 k2 e2 r2 p => ?_⟩
  obtain ⟨j', ds', hj', hz, hq⟩ := q d M2 p
  obtain ⟨_, _, xs, hx, rx⟩ := k2.at_ hj'
  exact ⟨a, xs, w, rfl, rfl, hx, sz_lt (rx.length ▸ hz), hq F2 σ _ (k2.wr hj' ⟨_, upd_same, rx.append (.cons r2 .nil)⟩)⟩
theorem at_app {ds : List Dt} (j : Nat) (ho : EvD K Γ M ta (.ob a)) (hj : M[j]? = some (a, .lst ds)) (he : EvD K Γ M te d) (hz : ds.length < 10000000) (q : At K B G Γ (M.set j (a, .lst (ds ++ [d]))) D.nx) :
    At K B G Γ M (tDrop (tBM K "list" rAppend ta (tCons te tNil)) D) := at_appX ho hj he.toX fun d' M' p => by
  obtain ⟨rfl, rfl⟩ := p
  exact ⟨j, ds, hj, hz, q⟩
theorem at_ext {ds es : List Dt} {y : Dt} (j : Nat) (ho : EvD K Γ M ta (.ob a)) (hj : M[j]? = some (a, .lst ds)) (he : EvD K Γ M te y) (ly : Lst M y es) (hz : ds.length + es.length ≤ 10000000) (q : At K B G Γ (M.set j (a, .lst (ds ++ es))) D.nx) :
    At K B G Γ M (tDrop (tBM K "list" rExtend ta (tCons te tNil)) D) := fun F σ H k => ho B G F σ H _ k fun v F1 H1 k1 e1 r1 => by
  cases r1
  obtain ⟨_, _, xs1, hx1, _⟩ := k1.at_ hj
  refine ⟨ty_lst hx1, he B G F1 σ H1 _ k1 fun w F2 H2 k2 e2 r2 => ?_⟩
  obtain ⟨_, _, xs, hx, rx⟩ := k2.at_ hj
  obtain ⟨b, ys, rfl, hy, ry⟩ := ly.at_ k2 r2
  exact ⟨a, b, xs, ys, rfl, rfl, hx, hy, by rw [rx.length, ry.length]; exact sz_le hz, q F2 σ _ (k2.wr hj ⟨_, upd_same, rx.append ry⟩)⟩
theorem at_clear {ds : List Dt} (j : Nat) (ho : EvD K Γ M ta (.ob a)) (hj : M[j]? = some (a, .lst ds)) (q : At K B G Γ (M.set j (a, .lst [])) D.nx) :
    At K B G Γ M (tDrop (tBM0 K "list" rClear ta) D) := fun F σ H k => ho B G F σ H _ k fun v F1 H1 k1 e1 r1 => by
  cases r1
  obtain ⟨_, _, xs1, hx1, _⟩ := k1.at_ hj
  exact ⟨ty_lst hx1, a, xs1, rfl, rfl, hx1, q F1 σ _ (k1.wr hj ⟨_, upd_same, .nil⟩)⟩
theorem at_setL {ds : List Dt} {tb : TE} {z : Int} {n : Nat} (j : Nat) (he : EvD K Γ M te d) (ho : EvD K Γ M ta (.ob a)) (hj : M[j]? = some (a, .lst ds)) (hi : EvD K Γ M tb (.int z)) (hn : ixN ds.length z = some n) (q : At K B G Γ (M.set j (a, .lst (ds.set n d))) D.nx) :
    At K B G Γ M (tAsg te (gSub ta tb rSetU) D) := fun F σ H k => he B G F σ H _ k fun v F1 H1 k1 e1 r1 => ho B G F1 σ H1 _ k1 fun w F2 H2 k2 e2 r2 => hi B G F2 σ H2 _ k2 fun y F3 H3 k3 e3 r3 => by
  cases r2; cases r3
  obtain ⟨_, _, xs, hx, rx⟩ := k3.at_ hj
  exact .inl ⟨a, xs, z, n, rfl, rfl, hx, by rw [rx.length]; exact hn, q F3 σ _ (k3.wr hj ⟨_, upd_same, rx.set (r1.mono (e2.trans e3)) n⟩)⟩
theorem at_setD {kvs : List (Key × Dt)} {tb : TE} {y : Dt} {key : Key} (j : Nat) (he : EvD K Γ M te d) (ho : EvD K Γ M ta (.ob a)) (hj : M[j]? = some (a, .dct kvs)) (hi : EvD K Γ M tb y) (hk : y = kD key) (hz : kvs.length < 10000000) (q : At K B G Γ (M.set j (a, .dct (putD kvs key d))) D.nx) :
    At K B G Γ M (tAsg te (gSub ta tb rSetU) D) := fun F σ H k => he B G F σ H _ k fun v F1 H1 k1 e1 r1 => ho B G F1 σ H1 _ k1 fun w F2 H2 k2 e2 r2 => hi B G F2 σ H2 _ k2 fun u F3 H3 k3 e3 r3 => by
  subst hk
  cases r2
  obtain rfl := r3.key
  obtain ⟨_, _, xs, hx, rx⟩ := k3.at_ hj
  exact .inr ⟨a, _, rfl, DPut.k hx (sz_lt (rx.length ▸ hz)), q F3 σ _ (k3.wr hj ⟨_, upd_same, rx.put key (r1.mono (e2.trans e3))⟩)⟩
end

/-! ### targets, loops -/
def AtG (K : PySem.W.Frag) (B G : Hp) (Γ : Gm) (M : Sto) (g : TG) (d : Dt) (N : L2.St → Hp → Prop) : Prop := ∀ F σ H v, Ok K B G F Γ M σ H → Rep K F v d → g v σ H N
def iSeqU (K : PySem.W.Frag) (tl : TE) : TI := fun σ H R => tl σ H fun x H1 =>
  (∃ a, x = .ref a ∧ (∃ xs, SqL K H1 a xs) ∧ R (Itl K a) H1) ∨ ((∃ a, x = .ref a ∧ (∃ xs, SqT K H1 a xs) ∧ R (Itt K a) H1) ∨ (∃ s, x = .str s ∧ R (Its s) H1))
theorem pi_seqU {X : Cx} {tg l : Expr} {tl : TE} (hl : PE X l tl) : PI X tg l (iSeqU X.K tl) := by
  refine ⟨fun pins s σ H R I h => ?_⟩
  refine thn (hl.run pins s σ H _ I h) fun v s1 ⟨x, H1, I1, r1, q1⟩ => ?_
  rcases q1 with ⟨a, e, ⟨xs, hq⟩, q⟩ | ⟨a, e, ⟨xs, hq⟩, q⟩ | ⟨z, e, q⟩
  · subst e
    cases r1
    obtain ⟨its, rv, p, hz⟩ := I1.list hq
    exact wpAny_pyIter_list p.isList (pi_one (tk := s1.toks) I1 _ (turn_list a _) ⟨_, Heap.get?_push_size _ rfl, rfl, rfl⟩ q)
  · subst e
    cases r1
    obtain ⟨its, rv, p, hz⟩ := I1.tuple hq
    exact wpAny_pyIter_tuple (show s1.heap.IsTuple a its.toArray from p) (pi_one (tk := s1.toks) I1 _ (turn_tuple a _) ⟨_, Heap.get?_push_size _ rfl, rfl, rfl⟩ q)
  · subst e
    obtain ⟨t, rfl⟩ := r1
    cases ha : z.cps.all (· < 128)
    · exact wpAny_pyIter_wide ha (pi_one (tk := s1.toks) I1 _ (turn_str _ z t "str_iterator" (.inr rfl)) ⟨_, Heap.get?_push_size _ rfl, rfl, rfl⟩ q)
    · exact wpAny_pyIter_ascii ha (pi_one (tk := s1.toks) I1 _ (turn_str _ z t "str_ascii_iterator" (.inl rfl)) ⟨_, Heap.get?_push_size _ rfl, rfl, rfl⟩ q)
section
variable {K : PySem.W.Frag} {B G : Hp} {Γ Γ' : Gm} {M M' : Sto} {te ta tl : TE} {c : TT} {t u tb : TS} {D : Ends} {d x : Dt} {g : TG} {i j : Nat} {a : Addr} {N : L2.St → Hp → Prop}
theorem atg_name {v : Dt} (h : At K B G (Γ.set j (some v)) M N) : AtG K B G Γ M (gName j) v N := fun F σ H u k r => h F _ H (k.setS r)
theorem atg_tup2 {i j : Nat} {v w : Dt} (h : At K B G ((Γ.set i (some v)).set j (some w)) M N) : AtG K B G Γ M (gTup K 2 (gCons (gName i) (gCons (gName j) gNil))) (.tup [v, w]) N := fun F σ H u k r => by
  cases r with | tup e t =>
  obtain ⟨y, z, rfl, ry, rz⟩ := t.two
  exact ⟨_, _, rfl, SqT.of (k.fh _ _ e), rfl, y, [z], rfl, z, [], rfl, rfl, h F _ H ((k.setS ry).setS rz)⟩
/-- the loop over a frozen list -/
theorem at_forL {ds : List Dt} (h : EvD K Γ M tl (.lst ds)) (I : Nat → Gm → Sto → Prop) (h0 : I 0 Γ M)
    (hs : ∀ G', Le B G G' → ∀ (i : Nat) (d : Dt) Γ' M', ds[i]? = some d → I i Γ' M' → AtG K B G' Γ' M' g d (tb { D with nx := Up K B G' (I (i + 1)), ct := Up K B G' (I (i + 1)), bk := D.nx }))
    (hd : ∀ Γ' M', I ds.length Γ' M' → At K B G Γ' M' D.nx) : At K B G Γ M (tFor (iSeqU K tl) g tb D) := fun F σ H k => h B G F σ H _ k fun v F1 H1 k1 e1 r1 => by
  cases r1 with | lst e t =>
  obtain ⟨kh, le⟩ := k1.here
  refine .inl ⟨_, rfl, ⟨_, SqL.of (k1.fh _ _ e)⟩, for_list (K := K) (xs := _) (fun i σ' H' => Up K B F1 (I i) σ' H') ⟨F1, Γ, M, kh, h0⟩ (fun i σ' H' _ ⟨F', _, _, k', _⟩ => SqL.of (k'.fh _ _ (k'.gf _ _ e))) (fun i x σ' H' hx ⟨F', Γ', M', k', hi⟩ => ?_) (fun σ' H' ⟨F', Γ', M', k', hi⟩ => ?_)⟩
  · obtain ⟨d, hd', rd⟩ := t.getV hx
    exact hs F1 le i d Γ' M' hd' hi F' σ' H' x k' (rd.mono k'.gf)
  · rw [t.length] at hi
    exact hd Γ' M' hi F' σ' H' (k'.le le)
/-- the loop over a list in a cell that stays as it is -/
theorem at_forO {ds : List Dt} {a : Addr} (h : EvD K Γ M tl (.ob a)) (I : Nat → Gm → Sto → Prop) (h0 : I 0 Γ M) (hst : ∀ i Γ' M', I i Γ' M' → ∃ j : Nat, M'[j]? = some (a, .lst ds))
    (hs : ∀ G', Le B G G' → ∀ (i : Nat) (d : Dt) Γ' M', ds[i]? = some d → I i Γ' M' → AtG K B G' Γ' M' g d (tb { D with nx := Up K B G' (I (i + 1)), ct := Up K B G' (I (i + 1)), bk := D.nx }))
    (hd : ∀ Γ' M', I ds.length Γ' M' → At K B G Γ' M' D.nx) : At K B G Γ M (tFor (iSeqU K tl) g tb D) := fun F σ H k => h B G F σ H _ k fun v F1 H1 k1 e1 r1 => by
  cases r1
  obtain ⟨j, hj⟩ := hst 0 Γ M h0
  obtain ⟨_, _, xs, hx, rx⟩ := k1.at_ hj
  obtain ⟨kh, le⟩ := k1.here
  refine .inl ⟨_, rfl, ⟨_, SqL.of hx⟩, fun i m σ' H' => m = ds.length - i ∧ i ≤ ds.length ∧ Up K B F1 (I i) σ' H', ⟨ds.length, by simp, Nat.zero_le _, F1, Γ, M, kh, h0⟩, ?_⟩
  rintro i m σ' H' ⟨rfl, hi, F', Γ', M', k', p⟩
  obtain ⟨j', hj'⟩ := hst i Γ' M' p
  obtain ⟨_, _, ys, hy, ry⟩ := k'.at_ hj'
  have hl := ry.length
  by_cases hlt : i < ds.length
  · refine .inr ⟨⟨ys, ys[i]'(by omega), SqL.of hy, by simp⟩, Up K B F1 (I (i + 1)), fun σ2 H2 p' => ⟨ds.length - (i + 1), by omega, rfl, hlt, p'⟩, fun x H2 y => ?_⟩
    obtain ⟨e, y⟩ := y
    subst e
    obtain ⟨d, hd', rd⟩ := ry.getV (y ys (SqL.of hy))
    exact hs F1 le i d Γ' M' hd' p F' σ' _ x k' rd
  · have e : i = ds.length := by omega
    subst e
    exact .inl ⟨⟨ys, SqL.of hy, by omega⟩, hd Γ' M' p F' σ' H' (k'.le le)⟩
/-- the loop over range(n) -/
theorem at_forR1 {ta : TA} {n : Int} (h : EvA K Γ M ta [.int n]) (hn : -(2 ^ 62) ≤ n ∧ n < 2 ^ 62) (I : Nat → Gm → Sto → Prop) (h0 : I 0 Γ M)
    (hs : ∀ (i : Nat) Γ' M', (i : Int) < n → I i Γ' M' → AtG K B G Γ' M' g (.int i) (tb { D with nx := Up K B G (I (i + 1)), ct := Up K B G (I (i + 1)), bk := D.nx }))
    (hd : ∀ Γ' M', I n.toNat Γ' M' → At K B G Γ' M' D.nx) : At K B G Γ M (tFor (iRng1 ta) g tb D) := fun F σ H k => h B G F σ H _ k fun vs F1 H1 k1 e1 r1 => by
  obtain ⟨v, rfl, r⟩ := r1.one
  cases r
  refine ⟨n, rfl, hn.1, hn.2, for_range (lo := 0) (n := n.toNat) (fun i σ' H' => Up K B G (I i) σ' H') ⟨F1, Γ, M, k1, h0⟩ (fun i σ' H' hi ⟨F', Γ', M', k', p⟩ => ?_) (fun σ' H' ⟨F', Γ', M', k', p⟩ => hd Γ' M' p F' σ' H' k')⟩
  rw [Int.zero_add]
  exact hs i Γ' M' (by omega) p F' σ' H' _ k' .int
theorem at_forR2 {ta : TA} {lo n : Int} (h : EvA K Γ M ta [.int lo, .int n]) (hn : (-(2 ^ 62) ≤ lo ∧ lo < 2 ^ 62) ∧ -(2 ^ 62) ≤ n ∧ n < 2 ^ 62) (I : Nat → Gm → Sto → Prop) (h0 : I 0 Γ M)
    (hs : ∀ (i : Nat) Γ' M', lo + (i : Int) < n → I i Γ' M' → AtG K B G Γ' M' g (.int (lo + i)) (tb { D with nx := Up K B G (I (i + 1)), ct := Up K B G (I (i + 1)), bk := D.nx }))
    (hd : ∀ Γ' M', I (n - lo).toNat Γ' M' → At K B G Γ' M' D.nx) : At K B G Γ M (tFor (iRng2 ta) g tb D) := fun F σ H k => h B G F σ H _ k fun vs F1 H1 k1 e1 r1 => by
  obtain ⟨v, w, rfl, r, r2⟩ := r1.two
  cases r; cases r2
  exact ⟨lo, n, rfl, ⟨hn.1.1, hn.1.2, hn.2.1, hn.2.2⟩, for_range (lo := lo) (n := (n - lo).toNat) (fun i σ' H' => Up K B G (I i) σ' H') ⟨F1, Γ, M, k1, h0⟩ (fun i σ' H' hi ⟨F', Γ', M', k', p⟩ => hs i Γ' M' (by omega) p F' σ' H' _ k' .int) (fun σ' H' ⟨F', Γ', M', k', p⟩ => hd Γ' M' p F' σ' H' k')⟩
/-- the loop over a text's signs -/
theorem at_forS {z : Str} (h : EvD K Γ M tl (.str z)) (I : Nat → Gm → Sto → Prop) (h0 : I 0 Γ M)
    (hs : ∀ (i : Nat) (ch : Nat) Γ' M', z.cps[i]? = some ch → I i Γ' M' → AtG K B G Γ' M' g (.str ⟨#[ch]⟩) (tb { D with nx := Up K B G (I (i + 1)), ct := Up K B G (I (i + 1)), bk := D.nx }))
    (hd : ∀ Γ' M', I z.cps.size Γ' M' → At K B G Γ' M' D.nx) : At K B G Γ M (tFor (iSeqU K tl) g tb D) := fun F σ H k => h B G F σ H _ k fun v F1 H1 k1 e1 r1 => by
  cases r1
  refine .inr (.inr ⟨z, rfl, fun i m σ' H' => m = z.cps.size - i ∧ i ≤ z.cps.size ∧ Up K B G (I i) σ' H', ⟨z.cps.size, by simp, Nat.zero_le _, F1, Γ, M, k1, h0⟩, ?_⟩)
  rintro i m σ' H' ⟨rfl, hi, p⟩
  by_cases hlt : i < z.cps.size
  · refine .inr ⟨hlt, Up K B G (I (i + 1)), fun σ2 H2 p' => ⟨z.cps.size - (i + 1), by omega, rfl, hlt, p'⟩, fun x H2 y => ?_⟩
    obtain ⟨rfl, ch, hc, rfl⟩ := y
    obtain ⟨F', Γ', M', k', q⟩ := p
    exact hs i ch Γ' M' hc q F' σ' _ _ k' .str
  · have e : i = z.cps.size := by omega
    subst e
    obtain ⟨F', Γ', M', k', q⟩ := p
    exact .inl ⟨Nat.le_refl _, hd Γ' M' q F' σ' H' k'⟩
/-- while: I by a measure -/
theorem at_while (I : Nat → Gm → Sto → Prop) (m0 : Nat) (h0 : I m0 Γ M)
    (hs : ∀ m Γ' M', I m Γ' M' → ∃ b, EvT K Γ' M' c b ∧ (b = true → At K B G Γ' M' (tb { D with nx := Up K B G (fun Γ M => ∃ m', m' < m ∧ I m' Γ M), ct := Up K B G (fun Γ M => ∃ m', m' < m ∧ I m' Γ M), bk := D.nx })) ∧ (b = false → At K B G Γ' M' D.nx)) :
    At K B G Γ M (tWhile c tb D) := fun F σ H k => by
  refine ⟨fun m σ' H' => Up K B G (I m) σ' H', ⟨m0, F, Γ, M, k, h0⟩, ?_⟩
  rintro m σ' H' ⟨F', Γ', M', k', p⟩
  obtain ⟨b, hb, h1, h2⟩ := hs m Γ' M' p
  refine hb B G F' σ' H' _ k' fun F2 H2 k2 e2 => ?_
  cases b with
  | true => exact ⟨Up K B G (fun Γ M => ∃ m', m' < m ∧ I m' Γ M), fun σ3 H3 ⟨F3, Γ3, M3, k3, m', hm, p3⟩ => ⟨m', hm, F3, Γ3, M3, k3, p3⟩, h1 rfl F2 σ' H2 k2⟩
  | false => exact h2 rfl F2 σ' H2 k2
theorem up_of {I : Gm → Sto → Prop} (h : I Γ M) : At K B G Γ M (Up K B G I) := fun F σ H k => ⟨F, Γ, M, k, h⟩
end
end Vl
namespace Vl
open PySem PySem.Spec PyProof.Rows L2 Evl

/-! ### promises -/
abbrev TmV := List Dt → Sto → (Dt → Sto → Prop) → (Addr → Sto → Prop) → Prop
def spT (K : PySem.W.Frag) (T : TmV) : Sp := fun vs H Q E => ∃ (B G : Hp) (M : Sto) (ds : List Dt) (R : Dt → Sto → Prop) (X : Addr → Sto → Prop),
  Ok K B G G [] M [] H ∧ Reps K G vs ds ∧ T ds M R X ∧ (∀ d M', R d M' → Rt K B G d M' Q) ∧ (∀ C M', X C M' → Xt K B G C M' E)
def startG (N : List Str) (ds : List Dt) : Gm := ds.map some ++ List.replicate (N.length - ds.length) none
open Classical in
def hid (H : Hp) (M : Sto) : Hp := fun a => if a ∈ M.map (·.1) then none else H a
section
variable {K : PySem.W.Frag} {B G F F' H H' : Hp} {Γ Γ' : Gm} {M M' : Sto} {σ : L2.St} {T : TmV} {ta : TA} {te : TE} {ds ds' : List Dt} {P : Dt → Sto → Prop} {PX : Addr → Sto → Prop} {E : XK} {dvs : List V}
theorem hid_ex (H : Hp) (M : Sto) : Ex (hid H M) H := fun a o e => by
  unfold hid at e
  split at e
  · cases e
  · exact e
theorem hid_at {a : Addr} (h : a ∈ M.map (·.1)) : hid H M a = none := by unfold hid; rw [if_pos h]
theorem hid_ne {a : Addr} (h : a ∉ M.map (·.1)) : hid H M a = H a := by unfold hid; rw [if_neg h]
theorem Ok.bhid (k : Ok K B G F Γ M σ H) : Ex B (hid H M) := fun a o e => by
  rw [hid_ne fun m => ?_]
  · exact k.bh a o e
  · obtain ⟨p, hp, rfl⟩ := List.mem_map.mp m
    rw [(k.cel p hp).2.1] at e; cases e
/-- what a callee starts from -/
theorem Ok.call (k : Ok K B G F Γ M σ H) : Ok K (hid H M) F F [] M [] H :=
  ⟨k.fh, Ex.refl F, hid_ex H M, fun _ _ => rfl, rfl, fun i d e => by simp at e, fun p hp => ⟨(k.cel p hp).1, hid_at (List.mem_map.mpr ⟨p, hp, rfl⟩), (k.cel p hp).2.2⟩, k.nd⟩
/-- .. and what it leaves -/
theorem Ok.back {Γ2 : Gm} {σ2 : L2.St} (k : Ok K B G F Γ M σ H) (k2 : Ok K (hid H M) F F' Γ2 M' σ2 H') : Ok K B G F' Γ M' σ H' where
  fh := k2.fh
  gf := k.gf.trans k2.gf
  bh := k.bhid.trans k2.bh
  nw := fun a ha => by
    have : hid H M a ≠ none := fun z => ha (by
      cases q : B a with
      | none => rfl
      | some o => rw [k.bhid a o q] at z; cases z)
    rw [k2.nw a this]; exact k.nw a ha
  len := k.len
  env := fun i d e => let ⟨v, h1, r⟩ := k.env i d e; ⟨v, h1, r.mono k2.gf⟩
  cel := fun p hp => by
    obtain ⟨c1, c2, c3⟩ := k2.cel p hp
    exact ⟨c1, ex_none k.bhid c2, c3⟩
  nd := k2.nd
theorem evx_call (ha : EvA K Γ M ta ds) (ht : T ds M P PX) (hE : ∀ C M', PX C M' → Xt K B G C M' E) : EvX K B G Γ M (tCall (spT K T) [] E ta) P := fun F σ H Q k q =>
  ha B G F σ H _ k fun vs F1 H1 k1 e1 r1 => by
    show spT K T (vs ++ []) H1 Q E
    rw [List.append_nil]
    exact ⟨hid H1 M, F1, M, ds, P, PX, k1.call, r1, ht, fun d M' p v F' Γ2 σ2 H' k2 r => q v F' H' d M' (k1.back k2) (e1.trans k2.gf) r p, fun C M' p F' Γ2 σ2 H' k2 => hE C M' p F' Γ σ H' (k1.back k2)⟩
/-- a call that lets nothing out and leaves the cells -/
theorem evd_call {d : Dt} (ha : EvA K Γ M ta ds) (ht : T ds M (fun d' M' => d' = d ∧ M' = M) (fun _ _ => False)) : EvD K Γ M (tCall (spT K T) [] E ta) d := fun B G F σ H Q k q =>
  evx_call (B := B) (G := G) ha ht (fun _ _ p => p.elim) F σ H Q k fun v F' H' d' M' k' e r p => by
    obtain ⟨rfl, rfl⟩ := p
    exact q v F' H' k' e r
theorem evn_call {o : Ow} (ha : EvA K Γ M ta ds) (ht : T ds M (fun d' M' => ∃ a, d' = .ob a ∧ M' = (a, o) :: M) (fun _ _ => False)) : EvN K Γ M (tCall (spT K T) [] E ta) o := fun B G F σ H Q k q =>
  evx_call (B := B) (G := G) ha ht (fun _ _ p => p.elim) F σ H Q k fun v F' H' d' M' k' e r p => by
    obtain ⟨a, rfl, rfl⟩ := p
    cases r
    exact q a F' H' k' e
/-! methods of own classes -/
theorem evx_meth {C : Addr} {m : Str} {fs : List (Str × Dt)} {to : TE} (ho : EvD K Γ M to (.inst C fs)) (hm : fs.lookup m = none) (ha : EvA K Γ M ta ds) (ht : T (.inst C fs :: ds) M P PX) (hE : ∀ C M', PX C M' → Xt K B G C M' E) : EvX K B G Γ M (tMeth C m (spT K T) [] E to ta) P := fun F σ H Q k q =>
  ho B G F σ H _ k fun v F0 H0 k0 e0 r0 => by
    cases r0 with | inst h t =>
    refine ⟨_, _, _, rfl, k0.fh _ _ h, t.none hm, ha B G F0 σ H0 _ k0 fun vs F1 H1 k1 e1 r1 => ?_⟩
    show spT K T (_ :: (vs ++ [])) H1 Q E
    rw [List.append_nil]
    exact ⟨hid H1 M, F1, M, .inst C fs :: ds, P, PX, k1.call, .cons ((Rep.inst h t).mono e1) r1, ht, fun d M' p v F' Γ2 σ2 H' k2 r => q v F' H' d M' (k1.back k2) (e0.trans (e1.trans k2.gf)) r p, fun C M' p F' Γ2 σ2 H' k2 => hE C M' p F' Γ σ H' (k1.back k2)⟩
theorem evd_meth {C : Addr} {m : Str} {fs : List (Str × Dt)} {to : TE} {d : Dt} (ho : EvD K Γ M to (.inst C fs)) (hm : fs.lookup m = none) (ha : EvA K Γ M ta ds) (ht : T (.inst C fs :: ds) M (fun d' M' => d' = d ∧ M' = M) (fun _ _ => False)) : EvD K Γ M (tMeth C m (spT K T) [] E to ta) d := fun B G F σ H Q k q =>
  evx_meth (B := B) (G := G) ho hm ha ht (fun _ _ p => p.elim) F σ H Q k fun v F' H' d' M' k' e r p => by
    obtain ⟨rfl, rfl⟩ := p
    exact q v F' H' k' e r
theorem evn_meth {C : Addr} {m : Str} {fs : List (Str × Dt)} {to : TE} {o : Ow} (ho : EvD K Γ M to (.inst C fs)) (hm : fs.lookup m = none) (ha : EvA K Γ M ta ds) (ht : T (.inst C fs :: ds) M (fun d' M' => ∃ a, d' = .ob a ∧ M' = (a, o) :: M) (fun _ _ => False)) : EvN K Γ M (tMeth C m (spT K T) [] E to ta) o := fun B G F σ H Q k q =>
  evx_meth (B := B) (G := G) ho hm ha ht (fun _ _ p => p.elim) F σ H Q k fun v F' H' d' M' k' e r p => by
    obtain ⟨a, rfl, rfl⟩ := p
    cases r
    exact q a F' H' k' e
/-- an attribute -/
theorem ed_fld {C : Addr} {f : Str} {fs : List (Str × Dt)} {to : TE} {d : Dt} (ho : EvD K Γ M to (.inst C fs)) (hc : Cls K C) (hn : NoAttr K C f) (hl : fs.lookup f = some d) : EvD K Γ M (tFld K to f) d := fun B G F σ H Q k q =>
  ho B G F σ H _ k fun v F0 H0 k0 e0 r0 => by
    cases r0 with | inst h t =>
    obtain ⟨v, hv, rv⟩ := t.look hl
    exact ⟨_, _, _, _, v, rfl, k0.fh _ _ h, hc, hn, hv, q v F0 H0 k0 e0 rv⟩

/-! ### calls that see through the cells -/
mutual
def clD : Dt → Bool
  | .lst _ => false
  | .dct _ => false
  | .lsr _ => false
  | .inst _ _ => false
  | .tup ds => clDs ds
  | _ => true
def clDs : List Dt → Bool
  | [] => true
  | d :: ds => clD d && clDs ds
end
mutual
theorem Rep.clean (ne : ∀ a xs, F a = some (.tup xs) → F' a = some (.tup xs)) : ∀ {v : V} {d : Dt}, Rep K F v d → clD d = true → Rep K F' v d
  | _, _, .non, _ => .non
  | _, _, .bl, _ => .bl
  | _, _, .int, _ => .int
  | _, _, .str, _ => .str
  | _, _, .lst _ _, h => by cases h
  | _, _, .tup h r, c => .tup (ne _ _ h) (Reps.clean ne r c)
  | _, _, .dct _ _, h => by cases h
  | _, _, .lsr _ _, h => by cases h
  | _, _, .ob, _ => .ob
  | _, _, .ty, _ => .ty
  | _, _, .inst _ _, h => by cases h
theorem Reps.clean (ne : ∀ a xs, F a = some (.tup xs) → F' a = some (.tup xs)) : ∀ {vs : List V} {ds : List Dt}, Reps K F vs ds → clDs ds = true → Reps K F' vs ds
  | _, _, .nil, _ => .nil
  | _, _, .cons (d := d) (ds := ds) r t, h => by
    have h' : (clD d && clDs ds) = true := h
    rw [Bool.and_eq_true_iff] at h'
    exact .cons (Rep.clean ne r h'.1) (Reps.clean ne t h'.2)
end
def clO : Ow → Bool
  | .lst ds => clDs ds
  | .dct _ => false
theorem OwAt.clean {a : Addr} {o : Ow} (ne : ∀ a xs, F a = some (.tup xs) → F' a = some (.tup xs)) (h : OwAt K F H a o) (c : clO o = true) : OwAt K F' H a o := by
  cases o with
  | lst ds => obtain ⟨xs, e, r⟩ := h; exact ⟨xs, e, r.clean ne c⟩
  | dct ds => cases c
/-- what a callee starts from that sees the cells as frozen -/
theorem Ok.callV (k : Ok K B G F Γ M σ H) : Ok K H (withC F H M) (withC F H M) [] [] [] H :=
  ⟨k.exC2, Ex.refl _, Ex.refl H, fun _ _ => rfl, rfl, fun i d e => by simp at e, fun p hp => absurd hp (by simp), List.nodup_nil⟩
theorem cell_kind {a : Addr} {o : Ow} (h : OwAt K F H a o) : ∀ xs, H a ≠ some (.tup xs) := fun xs e => by
  cases o with
  | lst ds => obtain ⟨ys, e1, _⟩ := h; rw [e] at e1; cases e1
  | dct ds => obtain ⟨ys, e1, _⟩ := h; rw [e] at e1; cases e1
theorem Ok.backV {Γ2 : Gm} {σ2 : L2.St} (k : Ok K B G F Γ M σ H) (k2 : Ok K H (withC F H M) F' Γ2 M' σ2 H') (hc : ∀ p ∈ M', clO p.2 = true) :
    Ok K B G (hid F' M) Γ (M' ++ M) σ H' ∧ Ex F (hid F' M) ∧ ∀ v d, Rep K F' v d → clD d = true → Rep K (hid F' M) v d := by
  have cellH : ∀ p ∈ M, H p.1 ≠ none := fun p hp z => by
    obtain ⟨u, hu⟩ := (k.cel p hp).2.2.there
    rw [z] at hu; cases hu
  have exF : Ex F (hid F' M) := fun a o e => by
    rw [hid_ne fun m => ?_]
    · exact k2.gf a o (k.exC a o e)
    · obtain ⟨p, hp, rfl⟩ := List.mem_map.mp m
      rw [(k.cel p hp).1] at e; cases e
  have tupF : ∀ a xs, F' a = some (.tup xs) → hid F' M a = some (.tup xs) := fun a xs e => by
    rw [hid_ne fun m => ?_]
    · exact e
    · obtain ⟨p, hp, rfl⟩ := List.mem_map.mp m
      have e1 := k2.nw p.1 (cellH p hp)
      rw [e] at e1
      obtain ⟨j, hj, ej⟩ := List.getElem_of_mem hp
      have e2 : withC F H M p.1 = H p.1 := withC_at (j := j) (o := p.2) (by rw [List.getElem?_eq_getElem hj, ej])
      exact cell_kind (k.cel p hp).2.2 xs (by rw [← e2, ← e1])
  refine ⟨⟨(hid_ex F' M).trans k2.fh, k.gf.trans exF, k.bh.trans k2.bh, fun a ha => ?_, k.len, fun i d e => let ⟨v, h1, r⟩ := k.env i d e; ⟨v, h1, r.mono exF⟩, fun p hp => ?_, ?_⟩, exF, fun v d r c => r.clean tupF c⟩
  · have hH : H a ≠ none := fun z => ha (ex_none k.bh z)
    have nm : a ∉ M.map (·.1) := fun m => by
      obtain ⟨p, hp, rfl⟩ := List.mem_map.mp m
      exact ha (k.cel p hp).2.1
    rw [hid_ne nm, k2.nw a hH]
    unfold withC
    rw [if_neg nm]
    exact k.nw a ha
  · rcases List.mem_append.mp hp with h | h
    · obtain ⟨c1, c2, c3⟩ := k2.cel p h
      refine ⟨ex_none (hid_ex F' M) c1, ex_none k.bh c2, OwAt.clean (o := p.2) tupF c3 (hc p h)⟩
    · obtain ⟨c1, c2, c3⟩ := k.cel p h
      refine ⟨hid_at (List.mem_map.mpr ⟨p, h, rfl⟩), c2, c3.mono exF ?_⟩
      obtain ⟨u, hu⟩ := c3.there
      rw [hu]; exact k2.bh _ _ hu
  · rw [List.map_append]
    refine List.nodup_append.mpr ⟨k2.nd, k.nd, fun a ha b hb e => ?_⟩
    subst e
    obtain ⟨p, hp, e1⟩ := List.mem_map.mp ha
    obtain ⟨q, hq, e2⟩ := List.mem_map.mp hb
    have := (k2.cel p hp).2.1
    rw [e1, ← e2] at this
    exact cellH q hq this
/-- a call whose arguments are seen with the cells within -/
theorem evx_callV {R : Dt → Sto → Prop} (ha : EvA K Γ M ta ds) (hs : SeesL M ds ds') (ht : T ds' [] R (fun _ _ => False)) (hR : ∀ d M', R d M' → clD d = true ∧ (∀ p ∈ M', clO p.2 = true) ∧ P d (M' ++ M)) : EvX K B G Γ M (tCall (spT K T) [] E ta) P := fun F σ H Q k q =>
  ha B G F σ H _ k fun vs F1 H1 k1 e1 r1 => by
    show spT K T (vs ++ []) H1 Q E
    rw [List.append_nil]
    refine ⟨H1, withC F1 H1 M, [], ds', R, fun _ _ => False, k1.callV, hs.rep k1 (r1.mono k1.exC), ht, fun d M' p v F' Γ2 σ2 H' k2 r => ?_, fun _ _ z => z.elim⟩
    obtain ⟨c1, c2, c3⟩ := hR d M' p
    obtain ⟨k3, e3, g⟩ := k1.backV k2 c2
    exact q v _ H' d _ k3 (e1.trans e3) (g v d r c1) c3
theorem evd_callV {d : Dt} (ha : EvA K Γ M ta ds) (hs : SeesL M ds ds') (ht : T ds' [] (fun d' M' => d' = d ∧ M' = []) (fun _ _ => False)) (hc : clD d = true) : EvD K Γ M (tCall (spT K T) [] E ta) d := fun B G F σ H Q k q =>
  evx_callV (B := B) (G := G) (P := fun d' M' => d' = d ∧ M' = M) ha hs ht (fun d' M' ⟨e1, e2⟩ => by subst e1 e2; exact ⟨hc, fun p hp => absurd hp (by simp), rfl, rfl⟩) F σ H Q k fun v F' H' d' M' k' e r p => by
    obtain ⟨rfl, rfl⟩ := p
    exact q v F' H' k' e r
theorem evn_callV {o : Ow} (ha : EvA K Γ M ta ds) (hs : SeesL M ds ds') (ht : T ds' [] (fun d' M' => ∃ a, d' = .ob a ∧ M' = [(a, o)]) (fun _ _ => False)) (hc : clO o = true) : EvN K Γ M (tCall (spT K T) [] E ta) o := fun B G F σ H Q k q =>
  evx_callV (B := B) (G := G) (P := fun d' M' => ∃ a, d' = .ob a ∧ M' = (a, o) :: M) ha hs ht (fun d' M' ⟨a, e1, e2⟩ => by subst e1 e2; exact ⟨rfl, fun p hp => by rw [List.mem_singleton.mp hp]; exact hc, a, rfl, rfl⟩) F σ H Q k fun v F' H' d' M' k' e r p => by
    obtain ⟨a, rfl, rfl⟩ := p
    cases r
    exact q a F' H' k' e
theorem evx_methV {C : Addr} {m : Str} {fs : List (Str × Dt)} {to : TE} {R : Dt → Sto → Prop} {o' : Dt} (ho : EvD K Γ M to (.inst C fs)) (hm : fs.lookup m = none) (ha : EvA K Γ M ta ds) (hs : SeesL M (.inst C fs :: ds) ds') (ht : T ds' [] R (fun _ _ => False)) (hR : ∀ d M', R d M' → clD d = true ∧ (∀ p ∈ M', clO p.2 = true) ∧ P d (M' ++ M)) : EvX K B G Γ M (tMeth C m (spT K T) [] E to ta) P := fun F σ H Q k q =>
  ho B G F σ H _ k fun v F0 H0 k0 e0 r0 => by
    cases r0 with | inst h t =>
    refine ⟨_, _, _, rfl, k0.fh _ _ h, t.none hm, ha B G F0 σ H0 _ k0 fun vs F1 H1 k1 e1 r1 => ?_⟩
    show spT K T (_ :: (vs ++ [])) H1 Q E
    rw [List.append_nil]
    refine ⟨H1, withC F1 H1 M, [], ds', R, fun _ _ => False, k1.callV, hs.rep k1 ((Reps.cons ((Rep.inst h t).mono e1) r1).mono k1.exC), ht, fun d M' p v F' Γ2 σ2 H' k2 r => ?_, fun _ _ z => z.elim⟩
    obtain ⟨c1, c2, c3⟩ := hR d M' p
    obtain ⟨k3, e3, g⟩ := k1.backV k2 c2
    exact q v _ H' d _ k3 (e0.trans (e1.trans e3)) (g v d r c1) c3
end

/-! ### a def keeps its promise -/
theorem start_env {K : PySem.W.Frag} {G : Hp} {N : List Str} {vs : List V} {ds : List Dt} (r : Reps K G vs ds) (hl : ds.length ≤ N.length) : (startG N ds).length = (L2.start N vs).length ∧ ∀ (i : Nat) (d : Dt), (startG N ds)[i]? = some (some d) → ∃ v, (L2.start N vs)[i]? = some (some v) ∧ Rep K G v d := by
  have e := r.length
  refine ⟨by simp [startG, L2.start, e], fun i d h => ?_⟩
  unfold startG at h
  unfold L2.start
  by_cases hi : i < ds.length
  · rw [List.getElem?_append_left (by simpa using hi), List.getElem?_map] at h
    obtain ⟨d', h1, h2⟩ := Option.map_eq_some_iff.mp h
    cases h2
    obtain ⟨v, h3, h4⟩ := r.get h1
    exact ⟨v, by rw [List.getElem?_append_left (by simpa [e] using hi), List.getElem?_map, h3]; rfl, h4⟩
  · rw [List.getElem?_append_right (by simpa using Nat.le_of_not_lt hi), List.getElem?_replicate] at h
    split at h <;> cases h
section
variable {P : Program} {w : World} {K : PySem.W.Frag} {mg : Str → Option Value} {base : Heap}
theorem fnT {x qual : Str} {st : Stmt} {f : Addr} {fd : FuncData} {N ps : List Str} {k : Nat} {T : TmV} (F : FunD K x qual (defArgs st) (defBody st) (defScope st) [] [] f fd) (S : FnScope N ps (defScope st)) (hN : ps.length ≤ N.length)
    (hlen : ∀ ds M R X, T ds M R X → ds.length = ps.length)
    (hbody : ∀ (cdv : Value) (A : Around) (outer : List Env) (s : Shared) (H : Hp) (E : XK), Room k (A.deeper (envOfC qual (defScope st) s.heap.objs.size f cdv)) →
      ∃ t, PSs (cxOf (L2.CX P w) P w K mg base N qual (defScope st) f cdv A outer s H E) (defBody st) t ∧
        ∀ B G ds M R X Q, T ds M R X → (∀ d M', R d M' → Rt K B G d M' Q) → (∀ C M', X C M' → Xt K B G C M' E) → At K B G (startG N ds) M (t { nx := fun _ H' => Q .non H', rt := Q })) :
    FnOk P w K mg base (L2.CX P w) (k + 1) f fd ps (spT K T) := by
  refine FunD.ok F S (fun vs H Q E h => ?_) fun cdv A outer s H vs Q E hr h => ?_
  · obtain ⟨B, G, M, ds, R, X, _, r, t, _⟩ := h
    rw [r.length]; exact hlen ds M R X t
  · obtain ⟨t, h1, h2⟩ := hbody cdv A outer s H E hr
    obtain ⟨B, G, M, ds, R, X, ok, r, tt, q1, q2⟩ := h
    refine ⟨t, h1, h2 B G ds M R X Q tt q1 q2 G _ H ?_⟩
    obtain ⟨s1, s2⟩ := start_env (N := N) r (by rw [hlen ds M R X tt]; exact hN)
    exact ⟨ok.fh, ok.gf, ok.bh, ok.nw, s1, s2, ok.cel, ok.nd⟩
end
end Vl
namespace Vl
open PySem PySem.Spec PyProof.Rows L2 Evl

/-! ### comprehensions -/
section
variable {K : PySem.W.Frag} {B G F F' F1 H H' : Hp} {Γ Γ' : Gm} {M M' : Sto} {σ : L2.St} {te ta tl : TE} {tt : TT} {j : Nat} {Dl : Addr}
structure LcI (K : PySem.W.Frag) (B G F1 : Hp) (Γ : Gm) (M : Sto) (σ : L2.St) (Dl : Addr) (ds : List Dt) (H : Hp) : Prop where
  ex : ∃ F acc, Ok K B G F Γ M σ H ∧ Ex F1 F ∧ H Dl = some (.lst acc) ∧ F Dl = none ∧ Reps K F acc ds
  nm : Dl ∉ M.map (·.1)
  nb : B Dl = none
open Classical in
/-- a value read while the new list at Dl is hidden -/
theorem lc_hide (k : Ok K B G F Γ M σ H) (hf : F Dl = none) (nm : Dl ∉ M.map (·.1)) : Ok K (fun a => if a = Dl then H Dl else B a) G F Γ M σ H where
  fh := k.fh
  gf := k.gf
  bh := fun a o e => by
    by_cases h : a = Dl
    · subst h; simpa using e
    · exact k.bh a o (by simpa [h] using e)
  nw := fun a ha => by
    by_cases h : a = Dl
    · subst h; rw [hf]; exact (ex_none k.gf hf).symm
    · exact k.nw a (by simpa [h] using ha)
  len := k.len
  env := k.env
  cel := fun p hp => by
    obtain ⟨c1, c2, c3⟩ := k.cel p hp
    have ne : p.1 ≠ Dl := fun e => nm (List.mem_map.mpr ⟨p, hp, e⟩)
    exact ⟨c1, by simpa [ne] using c2, c3⟩
  nd := k.nd
open Classical in
theorem lc_show {Γ2 : Gm} {σ2 : L2.St} (k0 : Ok K B G F Γ M σ H) (nb : B Dl = none) (k : Ok K (fun a => if a = Dl then H Dl else B a) G F' Γ2 M σ2 H') (e : Ex F F') (hf : F Dl = none) (u : HO) (hu : H Dl = some u) : Ok K B G F' Γ M σ H' ∧ H' Dl = some u ∧ F' Dl = none := by
  have hB : Ex B H' := fun a o e => k.bh a o (by
    have : a ≠ Dl := fun z => by rw [z, nb] at e; cases e
    simpa [this] using e)
  refine ⟨⟨k.fh, k.gf, hB, fun a ha => ?_, k0.len, fun i d h => let ⟨v, h1, r⟩ := k0.env i d h; ⟨v, h1, r.mono e⟩, fun p hp => ?_, k.nd⟩, k.bh Dl u (by simpa using hu), ?_⟩
  · have : a ≠ Dl := fun z => ha (by rw [z]; exact nb)
    exact k.nw a (by simpa [this] using ha)
  · obtain ⟨c1, c2, c3⟩ := k.cel p hp
    exact ⟨c1, (k0.cel p hp).2.1, c3⟩
  · have := k.nw Dl (by simp [hu])
    rw [this]; exact ex_none k.gf (by
      cases q : F' Dl with
      | none => rfl
      | some o => rw [this] at q; rw [k0.gf Dl o q] at hf; cases hf)
theorem lc_turn {v : V} {d r : Dt} {b : Bool} {ds : List Dt} {F2 : Hp} (I2 : LcI K B G F2 Γ M σ Dl ds H) (e0 : Ex F1 F2) (rv : Rep K F2 v d) (hz : ds.length < 10000000)
    (ht : EvT K (Γ.set j (some d)) M tt b) (he : b = true → EvD K (Γ.set j (some d)) M te r) :
    tt (σ.set j (some v)) H fun b' H3 => if b' = true then te (σ.set j (some v)) H3 fun y H4 => ∃ acc, H4 Dl = some (.lst acc) ∧ acc.length < sizeLine ∧ LcI K B G F1 Γ M σ Dl (if b = true then ds ++ [r] else ds) (upd H4 Dl (.lst (acc ++ [y]))) else LcI K B G F1 Γ M σ Dl (if b = true then ds ++ [r] else ds) H3 := by
  obtain ⟨⟨F, acc, k, e1, hD, hf, ra⟩, nm, nb⟩ := I2
  refine ht _ G F _ H _ (lc_hide (k.setS (rv.mono e1)) hf nm) fun F2 H2 k2 e2 => ?_
  obtain ⟨k3, hD2, hf2⟩ := lc_show k nb k2 e2 hf _ hD
  cases b with
  | false => exact ⟨⟨F2, acc, k3, e0.trans (e1.trans e2), hD2, hf2, ra.mono e2⟩, nm, nb⟩
  | true =>
    show te _ _ _
    refine he rfl _ G F2 _ H2 _ (lc_hide (k3.setS (rv.mono (e1.trans e2))) hf2 nm) fun y F4 H4 k4 e4 ry => ?_
    obtain ⟨k5, hD4, hf4⟩ := lc_show k3 nb k4 e4 hf2 _ hD2
    refine ⟨acc, hD4, sz_lt (ra.length ▸ hz), ⟨F4, acc ++ [y], ⟨Ex.mut k5.fh hf4, k5.gf, Ex.mut k5.bh nb, k5.nw, k5.len, k5.env, fun p hp => ?_, k5.nd⟩, e0.trans (e1.trans (e2.trans e4)), upd_same, hf4, (ra.mono (e2.trans e4)).append (.cons ry .nil)⟩, nm, nb⟩
    obtain ⟨c1, c2, c3⟩ := k5.cel p hp
    exact ⟨c1, c2, c3.mono (Ex.refl _) (upd_ne fun z => nm (List.mem_map.mpr ⟨p, hp, z⟩))⟩
theorem lc_start (k : Ok K B G F1 Γ M σ H) (h : H Dl = none) : LcI K B G F1 Γ M σ Dl [] (upd H Dl (.lst [])) := by
  have nm : Dl ∉ M.map (·.1) := fun m => by
    obtain ⟨p, hp, e⟩ := List.mem_map.mp m
    exact k.ne_cell h p hp e
  exact ⟨⟨F1, [], ⟨Ex.mut k.fh (ex_none k.fh h), k.gf, Ex.mut k.bh (ex_none k.bh h), k.nw, k.len, k.env, fun p hp => let ⟨c1, c2, c3⟩ := k.cel p hp; ⟨c1, c2, c3.mono (Ex.refl _) (upd_ne (k.ne_cell h p hp))⟩, k.nd⟩, Ex.refl _, upd_same, ex_none k.fh h, .nil⟩, nm, ex_none k.bh h⟩
theorem lc_end {ds : List Dt} (I : LcI K B G F1 Γ M σ Dl ds H) : ∃ F, Ok K B G F Γ ((Dl, .lst ds) :: M) σ H ∧ Ex F1 F := by
  obtain ⟨⟨F, acc, k, e1, hD, hf, ra⟩, nm, nb⟩ := I
  refine ⟨F, ⟨k.fh, k.gf, k.bh, k.nw, k.len, k.env, fun p hp => ?_, ?_⟩, e1⟩
  · rcases List.mem_cons.mp hp with rfl | hp
    · exact ⟨hf, nb, acc, hD, ra⟩
    · exact k.cel p hp
  · rw [List.map_cons]; exact List.nodup_cons.mpr ⟨nm, k.nd⟩
theorem wipe1 {x : V} : wipe ((wipe σ [j]).set j (some x)) [j] = wipe σ [j] := by
  show ((σ.set j none).set j (some x)).set j none = σ.set j none
  rw [List.set_set, List.set_set]
theorem wipe1s {x : V} : (wipe σ [j]).set j (some x) = σ.set j (some x) := by
  show (σ.set j none).set j (some x) = _
  rw [List.set_set]
def outL {α : Type} (p : α → Bool) (h : α → Dt) (xs : List α) : List Dt := (xs.filter p).map h
theorem outL_take {α : Type} {p : α → Bool} {h : α → Dt} {xs : List α} {i : Nat} {x : α} (hx : xs[i]? = some x) : outL p h (xs.take (i + 1)) = if p x = true then outL p h (xs.take i) ++ [h x] else outL p h (xs.take i) := by
  unfold outL
  rw [List.take_add_one, hx, Option.toList_some, List.filter_append, List.map_append]
  by_cases hp : p x = true
  · rw [if_pos hp, List.filter_cons, if_pos hp]; rfl
  · rw [if_neg hp, List.filter_cons, if_neg hp]; simp
theorem outL_len {α : Type} {p : α → Bool} {h : α → Dt} {xs : List α} : (outL p h xs).length ≤ xs.length := by
  unfold outL; rw [List.length_map]; exact List.length_filter_le _ _
theorem LcI.less {F2 : Hp} {ds : List Dt} (I : LcI K B G F2 Γ M σ Dl ds H) (e : Ex F1 F2) : LcI K B G F1 Γ M σ Dl ds H :=
  ⟨let ⟨F, acc, k, e1, r⟩ := I.ex; ⟨F, acc, k, e.trans e1, r⟩, I.nm, I.nb⟩
/-- over a list, frozen or in a cell, or the script -/
theorem en_lc {α : Type} (xs : List α) (g : α → Dt) (p : α → Bool) (h : α → Dt) {x0 : Dt} (hd : EvD K Γ M tl x0) (hl : Lst M x0 (xs.map g) ∨ x0 = .lsr (xs.map g)) (hz : xs.length ≤ 10000000)
    (he : ∀ (i : Nat) (x : α), xs[i]? = some x → EvT K (Γ.set j (some (g x))) M tt (p x) ∧ (p x = true → EvD K (Γ.set j (some (g x))) M te (h x))) :
    EvN K Γ M (tLc (iSeqU K tl) (gName j) tt te [j]) (.lst (outL p h xs)) := fun B G F σ H Q k q => hd B G F σ H _ k fun v F1 H1 k1 e1 r1 => by
  obtain ⟨a, rfl, src⟩ : ∃ a, v = .ref a ∧ ∀ H' F2, Ok K B G F2 Γ M σ H' → Ex F1 F2 → ∃ ys, SqL K H' a ys ∧ Reps K F2 ys (xs.map g) := by
    rcases hl with hl | hl
    · cases hl with
      | frz => cases r1 with | lst e t => exact ⟨_, rfl, fun H' F2 k2 e2 => ⟨_, SqL.of (k2.fh _ _ (e2 _ _ e)), t.mono e2⟩⟩
      | own hj =>
        cases r1
        exact ⟨_, rfl, fun H' F2 k2 e2 => let ⟨_, _, ys, e, t⟩ := k2.at_ hj; ⟨ys, SqL.of e, t⟩⟩
    · subst hl
      cases r1 with | lsr e t => exact ⟨_, rfl, fun H' F2 k2 e2 => ⟨_, ex_l k2.fh (ex_l e2 e), t.mono e2⟩⟩
  obtain ⟨ys1, hS1, rs1⟩ := src H1 F1 k1 (Ex.refl _)
  refine .inl ⟨a, rfl, ⟨ys1, hS1⟩, fun Dl hD => ⟨fun i m H' => m = xs.length - i ∧ i ≤ xs.length ∧ LcI K B G F1 Γ M σ Dl (outL p h (xs.take i)) H', ⟨xs.length, by simp, Nat.zero_le _, by simpa [outL] using lc_start k1 hD⟩, ?_⟩⟩
  rintro i m H' ⟨rfl, hi, I⟩
  obtain ⟨⟨F2, acc, k2, e2, hD2, hf2, ra⟩, nm, nb⟩ := id I
  obtain ⟨ys, hS, rs⟩ := src H' F2 k2 e2
  have hlen : ys.length = xs.length := by rw [rs.length, List.length_map]
  by_cases hlt : i < xs.length
  · refine .inr ⟨⟨ys, ys[i]'(by omega), hS, by simp⟩, fun H3 => LcI K B G F1 Γ M σ Dl (outL p h (xs.take (i + 1))) H3, fun H3 I3 => ⟨xs.length - (i + 1), by omega, rfl, hlt, I3⟩, fun y H3 hy => ?_⟩
    obtain ⟨rfl, hy⟩ := hy
    obtain ⟨d, hd', rd⟩ := rs.getV (hy ys hS)
    rw [List.getElem?_map] at hd'
    obtain ⟨x, hx, rfl⟩ := Option.map_eq_some_iff.mp hd'
    obtain ⟨t1, t2⟩ := he i x hx
    refine ⟨wipe1, ?_⟩
    rw [wipe1s, outL_take hx]
    have hlt2 : (outL p h (xs.take i)).length < 10000000 := by
      have h1 := outL_len (p := p) (h := h) (xs := xs.take i)
      have h2 := (List.getElem?_eq_some_iff.mp hx).1
      rw [List.length_take] at h1
      omega
    have I2 : LcI K B G F2 Γ M σ Dl (outL p h (xs.take i)) H3 := ⟨⟨F2, acc, k2, Ex.refl _, hD2, hf2, ra⟩, nm, nb⟩
    exact lc_turn I2 e2 rd hlt2 t1 t2
  · have e : i = xs.length := by omega
    subst e
    obtain ⟨F3, k3, e3⟩ := lc_end I
    rw [List.take_length] at k3
    exact .inl ⟨⟨ys, hS, by omega⟩, q Dl F3 H' k3 (e1.trans e3)⟩
end
end Vl
namespace Vl
open PySem PySem.Spec PyProof.Rows L2 Evl

section
variable {K : PySem.W.Frag} {B G F F' F1 H H' : Hp} {Γ Γ' : Gm} {M M' : Sto} {σ : L2.St} {te ta tb tl td ty tx : TE} {tq : TA} {tt : TT} {j : Nat} {Dl : Addr} {d x y z : Dt} {b : Bool}
theorem et_yes : EvT K Γ M tYes true := fun B G F σ H Q k q => q F H k (Ex.refl F)
theorem ed_ty {n : String} : EvD K Γ M (tC (.ty n)) (.ty n) := fun _ _ F _ H _ k q => q _ F H k (Ex.refl F) .ty
theorem ed_cls {a : Addr} : EvD K Γ M (tC (.ref a)) (.ob a) := fun _ _ F _ H _ k q => q _ F H k (Ex.refl F) .ob
theorem ed_isN (h : EvD K Γ M ta d) : EvD K Γ M (tIsN ta) (.bl d.isNon) := fun B G F σ H Q k q => h B G F σ H _ k fun v F1 H1 k1 e1 r1 => q _ F1 H1 k1 e1 (by rw [r1.isNon]; exact .bl)
theorem ed_notN (h : EvD K Γ M ta d) : EvD K Γ M (tNotN ta) (.bl (!d.isNon)) := fun B G F σ H Q k q => h B G F σ H _ k fun v F1 H1 k1 e1 r1 => q _ F1 H1 k1 e1 (by rw [r1.isNon]; exact .bl)
/-- a < b < c -/
theorem ed_chain {r r' : R2} {tc : TE} {w : Dt} {b1 b2 : Bool} (ha : EvD K Γ M ta x) (hb : EvD K Γ M tb y) (hr : Op2 K M r x y (.bl b1)) (hc : b1 = true → EvD K Γ M tc w) (hr' : b1 = true → Op2 K M r' y w (.bl b2)) : EvD K Γ M (tChain r r' ta tb tc) (.bl (b1 && b2)) := fun B G F σ H Q k q =>
  ha B G F σ H _ k fun u F1 H1 k1 e1 r1 => hb B G F1 σ H1 _ k1 fun w F2 H2 k2 e2 r2 => hr B G F2 Γ σ H2 u w _ k2 (r1.mono e2) r2 fun v F3 H3 k3 e3 r3 => by
    cases r3
    refine ⟨b1, rfl, ?_⟩
    cases b1 with
    | false => exact q _ F3 H3 k3 (e1.trans (e2.trans e3)) .bl
    | true =>
      exact hc rfl B G F3 σ H3 _ k3 fun v4 F4 H4 k4 e4 r4 => hr' rfl B G F4 Γ σ H4 w v4 Q k4 (r2.mono (e3.trans e4)) r4 fun v F5 H5 k5 e5 r5 => q v F5 H5 k5 (e1.trans (e2.trans (e3.trans (e4.trans e5)))) r5
/-! numbers, texts -/
def rIntI : List V → Hp → VK → Prop := fun xs H Q => (∃ i, xs = [.int i] ∧ Q (.int i) H) ∨ ∃ k, xs = [.bl k] ∧ Q (.int (if k then 1 else 0)) H
def rIntS : List V → Hp → VK → Prop := fun xs H Q => ∃ a n, xs = [.str a] ∧ PySem.intText? a = some n ∧ a.length ≤ 640 ∧ Q (.int n) H
def rIntU : List V → Hp → VK → Prop := fun xs H Q => rIntI xs H Q ∨ rIntS xs H Q
theorem call_intU {X : Cx} : CallR X (.type "int") rIntU := (show CallR X _ rIntI from call_int1).or (show CallR X _ rIntS from call_int_str)
def rStrI : List V → Hp → VK → Prop := fun xs H Q => ∃ i, xs = [.int i] ∧ i.natAbs.log2 < 1920 ∧ Q (.str (toString i)) H
theorem call_strI {X : Cx} : CallR X (.type "str") rStrI := call_str_int
theorem c_intB : OpC K M rIntU [.bl b] (.int (if b = true then 1 else 0)) := opc_l fun B G F Γ σ H u Q k r1 q => by
  obtain ⟨v, rfl, r⟩ := r1.one
  cases r
  exact .inr ⟨b, rfl, q _ F H k (Ex.refl F) .int⟩
theorem c_intS {s : Str} {n : Int} (h : PySem.intText? s = some n) (hl : s.length ≤ 640) : OpC K M rIntU [.str s] (.int n) := opc_r fun B G F Γ σ H u Q k r1 q => by
  obtain ⟨v, rfl, r⟩ := r1.one
  cases r
  exact ⟨s, n, rfl, h, hl, q _ F H k (Ex.refl F) .int⟩
theorem c_strI {i : Int} (h : i.natAbs.log2 < 1920) : OpC K M rStrI [.int i] (.str (toString i)) := fun B G F Γ σ H u Q k r1 q => by
  obtain ⟨v, rfl, r⟩ := r1.one
  cases r
  exact ⟨i, rfl, h, q _ F H k (Ex.refl F) .str⟩
theorem c_all {bs : List Bool} (l : Lst M x (bs.map Dt.bl)) : OpC K M (rAll K) [x] (.bl (bs.all id)) := fun B G F Γ σ H u Q k r1 q => by
  obtain ⟨v, rfl, r⟩ := r1.one
  obtain ⟨a, xs, rfl, h1, t1⟩ := l.at_ k r
  rw [t1.of_bls] at h1
  exact ⟨a, bs, rfl, SqL.of h1, q _ F H k (Ex.refl F) .bl⟩
theorem c_sum {ns : List Int} (l : Lst M x (ns.map Dt.int)) : OpC K M (rSum K) [x] (.int ns.sum) := fun B G F Γ σ H u Q k r1 q => by
  obtain ⟨v, rfl, r⟩ := r1.one
  obtain ⟨a, xs, rfl, h1, t1⟩ := l.at_ k r
  rw [t1.of_ints] at h1
  exact ⟨a, ns, rfl, SqL.of h1, q _ F H k (Ex.refl F) .int⟩
def rListX (K : PySem.W.Frag) : List V → Hp → VK → Prop := fun xs H Q => ∃ p ys, xs = [.ref p] ∧ (SqL K H p ys ∨ SqT K H p ys) ∧ ∀ l, H l = none → Q (.ref l) (upd H l (.lst ys))
theorem call_listX {X : Cx} : CallR X (.type "list") (rListX X.K) := call_list_of
theorem c_list {ds : List Dt} (l : Lst M x ds) : OpCN K M (rListX K) [x] (.lst ds) := fun B G F Γ σ H u Q k r1 q => by
  obtain ⟨v, rfl, r⟩ := r1.one
  obtain ⟨a, xs, rfl, h1, t1⟩ := l.at_ k r
  exact ⟨a, xs, rfl, .inl (SqL.of h1), fun p hp => q p F _ (k.cell hp ⟨xs, upd_same, t1⟩) (Ex.refl F)⟩
theorem c_listT {ds : List Dt} : OpCN K M (rListX K) [.tup ds] (.lst ds) := fun B G F Γ σ H u Q k r1 q => by
  obtain ⟨v, rfl, r⟩ := r1.one
  cases r with | tup h1 t1 => exact ⟨_, _, rfl, .inr (SqT.of (k.fh _ _ h1)), fun p hp => q p F _ (k.cell hp ⟨_, upd_same, t1⟩) (Ex.refl F)⟩
def rMax2 : List V → Hp → VK → Prop := fun xs H Q => ∃ i j, xs = [.int i, .int j] ∧ Q (.int (if j > i then j else i)) H
def rMin2 : List V → Hp → VK → Prop := fun xs H Q => ∃ i j, xs = [.int i, .int j] ∧ Q (.int (if j < i then j else i)) H
theorem call_max2X {X : Cx} (hc : X.calm = true) : CallR X (.builtin "max") rMax2 := call_max2 hc
theorem call_min2X {X : Cx} (hc : X.calm = true) : CallR X (.builtin "min") rMin2 := call_min2 hc
theorem c_max2 {i j : Int} : OpC K M rMax2 [.int i, .int j] (.int (if j > i then j else i)) := fun B G F Γ σ H u Q k r1 q => by
  obtain ⟨v, w, rfl, r, r2⟩ := r1.two
  cases r; cases r2
  exact ⟨i, j, rfl, q _ F H k (Ex.refl F) .int⟩
theorem c_min2 {i j : Int} : OpC K M rMin2 [.int i, .int j] (.int (if j < i then j else i)) := fun B G F Γ σ H u Q k r1 q => by
  obtain ⟨v, w, rfl, r, r2⟩ := r1.two
  cases r; cases r2
  exact ⟨i, j, rfl, q _ F H k (Ex.refl F) .int⟩
/-! isinstance -/
def tyD : Dt → Option String
  | .non => some "NoneType"
  | .bl _ => some "bool"
  | .int _ => some "int"
  | .str _ => some "str"
  | .lst _ => some "list"
  | .tup _ => some "tuple"
  | .dct _ => some "dict"
  | _ => none
theorem Rep.tyx {v : V} {n : String} (r : Rep K H v d) (h : tyD d = some n) : TyX K H v (.type n) := by
  cases r with
  | non => cases h; exact .base .non
  | bl => cases h; exact .base (.bl _)
  | int => cases h; exact .base (.int _)
  | str => cases h; exact .base (.str _)
  | lst e _ => cases h; exact .base (.lst e)
  | tup e _ => cases h; exact .base (.tup e)
  | dct e _ => cases h; exact .base (.dK e)
  | _ => cases h
theorem c_isi {n m : String} {r : Bool} (h : tyD d = some n) (hk : kitB n m = some r) : OpC K M (rIsi K) [d, .ty m] (.bl r) := fun B G F Γ σ H u Q k r1 q => by
  obtain ⟨v, w, rfl, r, r2⟩ := r1.two
  cases r2
  exact ⟨v, .ty m, .type n, .type m, _, rfl, .ty m, (r.mono k.fh).tyx h, kit_ty hk, q _ F H k (Ex.refl F) .bl⟩
theorem c_isiL {ds : List Dt} {m : String} {r : Bool} (l : Lst M d ds) (hk : kitB "list" m = some r) : OpC K M (rIsi K) [d, .ty m] (.bl r) := fun B G F Γ σ H u Q k r1 q => by
  obtain ⟨v, w, rfl, r, r2⟩ := r1.two
  obtain ⟨a, xs, rfl, h1, t1⟩ := l.at_ k r
  cases r2
  exact ⟨.ref a, .ty m, .type "list", .type m, _, rfl, .ty m, .base (.lst h1), kit_ty hk, q _ F H k (Ex.refl F) .bl⟩
/-! parts of slices -/
def EvP (K : PySem.W.Frag) (Γ : Gm) (M : Sto) (t : TO) (o : Option Int) : Prop :=
  ∀ B G F σ H (Q : Option Int → Hp → Prop), Ok K B G F Γ M σ H → (∀ F' H', Ok K B G F' Γ M σ H' → Ex F F' → Q o H') → t σ H Q
theorem ep_none : EvP K Γ M tNoPart none := fun B G F σ H Q k q => q F H k (Ex.refl F)
theorem ep_some {i : Int} (h : EvD K Γ M te (.int i)) : EvP K Γ M (tPart te) (some i) := fun B G F σ H Q k q => h B G F σ H _ k fun v F1 H1 k1 e1 r1 => by
  cases r1; exact ⟨i, rfl, q F1 H1 k1 e1⟩
def cutD (ds : List Dt) (lo hi : Option Int) : List Dt := (ds.drop (HT.sIx ds.length 0 lo)).take (HT.sIx ds.length ds.length hi - HT.sIx ds.length 0 lo)
theorem Reps.cut {vs : List V} {ds : List Dt} (r : Reps K H vs ds) (lo hi : Option Int) : Reps K H (cutV vs lo hi) (cutD ds lo hi) := by
  unfold cutV cutD
  rw [r.length]
  exact (r.drop _).take _
def rSlU (K : PySem.W.Frag) : V → Option Int → Option Int → Hp → VK → Prop := fun x lo hi H Q => rSlL K x lo hi H Q ∨ (rSlS x lo hi H Q ∨ rSlT K x lo hi H Q)
theorem sl_U {X : Cx} : SlR X (rSlU X.K) := sl_list.or (sl_str.or sl_tup)
theorem en_slL {ds : List Dt} {tlo thi : TO} {lo hi : Option Int} (he : EvD K Γ M te x) (l : Lst M x ds) (h1 : EvP K Γ M tlo lo) (h2 : EvP K Γ M thi hi) : EvN K Γ M (tSl (rSlU K) te tlo thi) (.lst (cutD ds lo hi)) := fun B G F σ H Q k q =>
  he B G F σ H _ k fun v F1 H1 k1 e1 r1 => h1 B G F1 σ H1 _ k1 fun F2 H2 k2 e2 => h2 B G F2 σ H2 _ k2 fun F3 H3 k3 e3 => by
    obtain ⟨a, xs, rfl, h, t⟩ := l.at_ k3 (r1.mono (e2.trans e3))
    exact .inl ⟨a, xs, rfl, SqL.of h, fun p hp => q p F3 _ (k3.cell hp ⟨_, upd_same, t.cut lo hi⟩) (e1.trans (e2.trans e3))⟩
theorem ed_slS {s : Str} {tlo thi : TO} {lo hi : Option Int} (he : EvD K Γ M te (.str s)) (hl : s.length ≤ 10000000) (h1 : EvP K Γ M tlo lo) (h2 : EvP K Γ M thi hi) : EvD K Γ M (tSl (rSlU K) te tlo thi) (.str (cutS s lo hi)) := fun B G F σ H Q k q =>
  he B G F σ H _ k fun v F1 H1 k1 e1 r1 => h1 B G F1 σ H1 _ k1 fun F2 H2 k2 e2 => h2 B G F2 σ H2 _ k2 fun F3 H3 k3 e3 => by
    cases r1
    exact .inr (.inl ⟨s, rfl, sz_le hl, q _ F3 H3 k3 (e1.trans (e2.trans e3)) .str⟩)
theorem en_rev {ds : List Dt} (he : EvD K Γ M te x) (l : Lst M x ds) : EvN K Γ M (tRevL K te) (.lst ds.reverse) := fun B G F σ H Q k q =>
  he B G F σ H _ k fun v F1 H1 k1 e1 r1 => by
    obtain ⟨a, xs, rfl, h, t⟩ := l.at_ k1 r1
    exact ⟨a, xs, rfl, SqL.of h, fun p hp => q p F1 _ (k1.cell hp ⟨_, upd_same, t.reverse⟩) e1⟩
/-! texts' methods -/
def rJoin (K : PySem.W.Frag) : V → List V → Hp → VK → Prop := fun x xs H Q => ∃ a p, ∃ ys : List Str, x = .str a ∧ xs = [.ref p] ∧ (SqL K H p (ys.map V.str) ∨ SqT K H p (ys.map V.str)) ∧
    (ys.map (·.length)).sum + ys.length * a.length ≤ 16777216 ∧ Q (.str (Txt.join a ys)) H
theorem mt_joinX {X : Cx} : MtR X "str.join" (rJoin X.K) := mt_join
theorem ed_join {s : Str} {ys : List Str} (ho : EvD K Γ M ta (.str s)) (he : EvD K Γ M te x) (l : Lst M x (ys.map Dt.str)) (hz : (ys.map (·.length)).sum + ys.length * s.length ≤ 10000000) : EvD K Γ M (tM1 (rJoin K) ta te) (.str (Txt.join s ys)) := fun B G F σ H Q k q =>
  ho B G F σ H _ k fun v F1 H1 k1 e1 r1 => by
    cases r1
    refine ⟨⟨s, rfl⟩, he B G F1 σ H1 _ k1 fun w F2 H2 k2 e2 r2 => ?_⟩
    obtain ⟨a, xs, rfl, h, t⟩ := l.at_ k2 r2
    rw [t.of_strs] at h
    exact ⟨s, a, ys, rfl, rfl, .inl (SqL.of h), Nat.le_trans hz (by decide), q _ F2 H2 k2 (e1.trans e2) .str⟩
/-! dicts' methods -/
theorem ed_get2 {kvs : List (Key × Dt)} {key : Key} {dd : Dt} (ho : EvD K Γ M td x) (l : Dct M x kvs) (hk : EvD K Γ M ty y) (ek : y = kD key) (hx : EvD K Γ M tx dd) : EvD K Γ M (tDGet2 td ty tx) ((valD kvs key).getD dd) := fun B G F σ H Q k q =>
  ho B G F σ H _ k fun v F1 H1 k1 e1 r1 => by
    subst ek
    obtain ⟨a, xs0, rfl, h0, t0⟩ := l.at_ k1 r1
    refine ⟨a, rfl, .inl ⟨_, .inl h0⟩, hk B G F1 σ H1 _ k1 fun w F2 H2 k2 e2 r2 => hx B G F2 σ H2 _ k2 fun u F3 H3 k3 e3 r3 => ?_⟩
    obtain ⟨a', xs, ea, h, t⟩ := l.at_ k3 (r1.mono (e2.trans e3))
    cases ea
    obtain rfl := r2.key
    refine ⟨valV xs key, DGet.k h, q _ F3 H3 k3 (e1.trans (e2.trans e3)) ?_⟩
    cases hv : valD kvs key with
    | none => rw [t.vno hv]; exact r3
    | some d' => obtain ⟨v', h1, r'⟩ := t.val hv; rw [h1]; exact r'
/-! comprehensions over ranges and texts -/
theorem en_lcR {n : Int} (p : Nat → Bool) (h : Nat → Dt) (hd : EvA K Γ M tq [.int n]) (hn : n ≤ 10000000)  (hn0 : -(2 ^ 62) ≤ n)
    (he : ∀ (i : Nat), (i : Int) < n → EvT K (Γ.set j (some (.int i))) M tt (p i) ∧ (p i = true → EvD K (Γ.set j (some (.int i))) M te (h i))) :
    EvN K Γ M (tLc (iRng1 tq) (gName j) tt te [j]) (.lst (outL p h (List.range n.toNat))) := fun B G F σ H Q k q => hd B G F σ H _ k fun vs F1 H1 k1 e1 r1 => by
  obtain ⟨v, rfl, r⟩ := r1.one
  cases r
  refine ⟨n, rfl, hn0, by omega, fun Dl hD => lc_range (lo := 0) (n := n.toNat) (fun i H' => LcI K B G F1 Γ M σ Dl (outL p h ((List.range n.toNat).take i)) H') (by simpa [outL] using lc_start k1 hD) (fun i H' hi I => ?_) (fun H' I => ?_)⟩
  · rw [Int.zero_add]
    obtain ⟨t1, t2⟩ := he i (by omega)
    have hx : (List.range n.toNat)[i]? = some i := by simp [hi]
    refine ⟨wipe1, ?_⟩
    rw [wipe1s, outL_take hx]
    have hlt2 : (outL p h ((List.range n.toNat).take i)).length < 10000000 := by
      have h1 := outL_len (p := p) (h := h) (xs := (List.range n.toNat).take i)
      rw [List.length_take] at h1
      omega
    exact lc_turn I (Ex.refl F1) .int hlt2 t1 t2
  · obtain ⟨F3, k3, e3⟩ := lc_end I
    rw [List.take_of_length_le (by simp)] at k3
    exact q Dl F3 H' k3 (e1.trans e3)
theorem en_lcS {s : Str} (p : Nat → Bool) (h : Nat → Dt) (hd : EvD K Γ M tl (.str s)) (hz : s.length ≤ 10000000)
    (he : ∀ (i c : Nat), s.cps.toList[i]? = some c → EvT K (Γ.set j (some (.str ⟨#[c]⟩))) M tt (p c) ∧ (p c = true → EvD K (Γ.set j (some (.str ⟨#[c]⟩))) M te (h c))) :
    EvN K Γ M (tLc (iSeqU K tl) (gName j) tt te [j]) (.lst (outL p h s.cps.toList)) := fun B G F σ H Q k q => hd B G F σ H _ k fun v F1 H1 k1 e1 r1 => by
  cases r1
  have hsz : s.cps.toList.length = s.cps.size := by simp
  have hl : s.length = s.cps.size := rfl
  refine .inr (.inr ⟨s, rfl, fun Dl hD => ⟨fun i m H' => m = s.cps.toList.length - i ∧ i ≤ s.cps.toList.length ∧ LcI K B G F1 Γ M σ Dl (outL p h (s.cps.toList.take i)) H', ⟨_, by simp; rfl, Nat.zero_le _, by simpa [outL] using lc_start k1 hD⟩, ?_⟩⟩)
  rintro i m H' ⟨rfl, hi, I⟩
  by_cases hlt : i < s.cps.toList.length
  · refine .inr ⟨(by show i < s.cps.size; omega), fun H3 => LcI K B G F1 Γ M σ Dl (outL p h (s.cps.toList.take (i + 1))) H3, fun H3 I3 => ⟨s.cps.toList.length - (i + 1), by omega, rfl, hlt, I3⟩, fun y H3 hy => ?_⟩
    obtain ⟨rfl, c, hc, rfl⟩ := hy
    have hx : s.cps.toList[i]? = some c := by rw [Array.getElem?_toList]; exact hc
    obtain ⟨t1, t2⟩ := he i c hx
    refine ⟨wipe1, ?_⟩
    rw [wipe1s, outL_take hx]
    have hlt2 : (outL p h (s.cps.toList.take i)).length < 10000000 := by
      have h1 := outL_len (p := p) (h := h) (xs := s.cps.toList.take i)
      rw [List.length_take] at h1
      omega
    exact lc_turn I (Ex.refl F1) .str hlt2 t1 t2
  · have e : i = s.cps.toList.length := by omega
    subst e
    obtain ⟨F3, k3, e3⟩ := lc_end I
    rw [List.take_length] at k3
    exact .inl ⟨(by show s.cps.size ≤ s.cps.toList.length; omega), q Dl F3 H' k3 (e1.trans e3)⟩
end
end Vl
namespace Vl
open PySem PySem.Spec PyProof.Rows L2 Evl
section
variable {X : Cx} {pos : Pos}
theorem pe_glI {x : Str} {i : Int} (h : ∃ t, X.mg x = some (.int i t)) (hg : Gl X x) (hd : (x == ("__debug__" : Str)) = false := by decide) : PE X (.Name x pos) (tC (.int i)) := by
  obtain ⟨t, e⟩ := h
  exact pe_glob hg e ⟨t, rfl⟩ hd
theorem pe_glS {x s : Str} (h : ∃ t, X.mg x = some (.str s t)) (hg : Gl X x) (hd : (x == ("__debug__" : Str)) = false := by decide) : PE X (.Name x pos) (tC (.str s)) := by
  obtain ⟨t, e⟩ := h
  exact pe_glob hg e ⟨t, rfl⟩ hd
end
section
variable {K : PySem.W.Frag} {B G F F' F1 H H' : Hp} {Γ Γ' : Gm} {M M' : Sto}
theorem op1_neg {i : Int} : Op1 K M (rU fun i => .int (-i)) (.int i) (.int (-i)) := fun B G F Γ σ H u Q k r1 q => by
  cases r1; exact ⟨i, rfl, q _ F H k (Ex.refl F) .int⟩
/-- places of a list made by a function -/
theorem atI_map {α : Type} {f : α → Dt} {xs : List α} {i : Int} {n : Nat} {x : α} (h : xs[n]? = some x) (e : i = (n : Int)) : atI (xs.map f) i = some (f x) := by
  subst e
  exact atI_nat (by rw [List.getElem?_map, h]; rfl)
theorem atI_mapD {α : Type} [Inhabited α] {f : α → Dt} {xs : List α} {i : Int} (h0 : 0 ≤ i) (h : i < xs.length) : atI (xs.map f) i = some (f (xs.getD i.toNat default)) := by
  have hn : i.toNat < xs.length := by omega
  exact atI_map (n := i.toNat) (by rw [List.getD_eq_getElem?_getD, List.getElem?_eq_getElem hn]; rfl) (by omega)
theorem atI_mapI {f : Int → Dt} {xs : List Int} {i : Int} (h0 : 0 ≤ i) (h : i < xs.length) : atI (xs.map f) i = some (f (xs.getD i.toNat 0)) := atI_mapD h0 h
theorem atI_D {α : Type} {xs : List α} {i : Int} (d : α) (h0 : 0 ≤ i) (h : i < xs.length) : atI xs i = some (xs.getD i.toNat d) := by
  have hn : i.toNat < xs.length := by omega
  have e : i = (i.toNat : Int) := by omega
  have := atI_nat (xs := xs) (j := i.toNat) (v := xs.getD i.toNat d) (by rw [List.getD_eq_getElem?_getD, List.getElem?_eq_getElem hn]; rfl)
  rw [← e] at this
  exact this
end
end Vl
namespace Vl
open PySem PySem.Spec PyProof.Rows L2 Evl
section
variable {K : PySem.W.Frag} {B G F F' F1 H H' : Hp} {Γ Γ' : Gm} {M M' : Sto}
theorem EvN.is {t : TE} {o o' : Ow} (h : EvN K Γ M t o) (e : o = o') : EvN K Γ M t o' := e ▸ h
theorem outL_all {α : Type} {h : α → Dt} {xs : List α} : outL (fun _ => true) h xs = xs.map h := by
  unfold outL
  rw [List.filter_eq_self.mpr (fun _ _ => rfl)]
/-- one sign -/
def sD (c : Nat) : Dt := .str ⟨#[c]⟩
theorem cutD_to {ds : List Dt} {hi : Int} (h : 0 ≤ hi) : cutD ds none (some hi) = ds.take hi.toNat := by
  unfold cutD
  have e : hi = (hi.toNat : Int) := by omega
  rw [e, HT.sIx_nat, HT.sIx_none, List.drop_zero, Nat.sub_zero, Int.toNat_natCast]
  by_cases q : hi.toNat ≤ ds.length
  · rw [Nat.min_eq_left q]
  · rw [Nat.min_eq_right (by omega), List.take_of_length_le (Nat.le_refl _), List.take_of_length_le (by omega)]
theorem glued_signs : ∀ (cs : List Nat) (acc : Array Nat), (cs.map fun c => (⟨#[c]⟩ : Str)).foldl (fun a p => a ++ (#[] : Array Nat) ++ p.cps) acc = acc ++ cs.toArray
  | [], acc => by simp
  | c :: cs, acc => by
    rw [List.map_cons, List.foldl_cons, glued_signs cs]
    simp
theorem join_signs (cs : List Nat) : Txt.join (⟨#[]⟩ : Str) (cs.map fun c => (⟨#[c]⟩ : Str)) = ⟨cs.toArray⟩ := by
  cases cs with
  | nil => rfl
  | cons c cs =>
    show (⟨((c :: cs).map fun c => (⟨#[c]⟩ : Str)).drop 1 |>.foldl (fun a p => a ++ (#[] : Array Nat) ++ p.cps) _⟩ : Str) = _
    rw [List.map_cons, List.drop_succ_cons, List.drop_zero, glued_signs]
    simp
end
end Vl
namespace Vl
open PySem PySem.Spec PyProof.Rows L2 Evl
/-! the rules with the written part by its letter -/
section
variable {X : Cx} (K : PySem.W.Frag) (hK : X.K = K)
include hK
theorem kaddU : OpR X (binaryOp .Add) (rAddU K) := hK ▸ op_addU
theorem kltU (hu : X.A.units + 64 < cLine) : OpR X (compareOp .Lt) (rLtU K) := hK ▸ op_ltU hu
theorem keqU (hu : X.A.units + 64 < cLine) : OpR X (compareOp .Eq) (rEqU K) := hK ▸ op_eqU hu
theorem kneU (hu : X.A.units + 64 < cLine) : OpR X (compareOp .NotEq) (rNeU K) := hK ▸ op_neU hu
theorem kinU (hu : X.A.units + 1 < cLine) : OpR X (compareOp .In) (rInU K) := hK ▸ op_inU hu
theorem kniU (hu : X.A.units + 1 < cLine) : OpR X (compareOp .NotIn) (rNiU K) := hK ▸ op_niU hu
theorem kixU (hu : X.A.units + 1 < cLine) : IxR X (rIxU K) := hK ▸ ix_U hu
theorem kslU : SlR X (rSlU K) := hK ▸ sl_U
theorem klenU : CallR X (.builtin "len") (rLenU K) := hK ▸ call_lenU
theorem klistX : CallR X (.type "list") (rListX K) := hK ▸ call_listX
theorem kisi : CallR X (.builtin "isinstance") (rIsi K) := hK ▸ call_isi
theorem kall (hc : X.calm = true) : CallR X (.builtin "all") (rAll K) := hK ▸ cr_all hc
theorem ksum (hc : X.calm = true) : CallR X (.builtin "sum") (rSum K) := hK ▸ cr_sum hc
theorem kjoin : MtR X "str.join" (rJoin K) := hK ▸ mt_joinX
theorem kindex : MtR X "list.index" (rIndex K) := hK ▸ mt_index
theorem kseqU {tg l : Expr} {tl : TE} (hl : PE X l tl) : PI X tg l (iSeqU K tl) := hK ▸ pi_seqU hl
theorem kfld {e : Expr} {f : Str} {pos : Pos} {ta : TE} (he : PE X e ta) (hb : attributeBase e f X.env (eval e X.env) = eval e X.env) : PE X (.Attribute e f pos) (tFld K ta f) := hK ▸ pe_fld he hb
theorem krevL {e : Expr} {te : TE} {k : Nat} {p1 p2 p3 pos : Pos} (he : PE X e te) : PE X (.Subscript e (.Slice none none (some (.UnaryOp .USub (.Constant (.int 1) k p1) p2)) p3) pos) (tRevL K te) := hK ▸ pe_revL he
theorem kbm0 {o : Expr} {to : TE} {name : Str} {apos cpos : Pos} {T id : String} {r : V → List V → Hp → VK → Prop} (pa : PlainAttrs T) (slot : Slot T name id) (hty : typeOf (.builtin id) = pure (.type "method_descriptor")) (hm : MtR X id r) (ho : PE X o to)
    (hbase : attributeBase o name X.env (eval o X.env) = eval o X.env := by rfl) (hline : (apos.endLine == cpos.line) = true := by rfl) : PE X (.Call (.Attribute o name apos) [] [] cpos) (tBM0 K T r to) := hK ▸ pe_bm0 pa slot hty hm ho hbase hline
theorem kbm {o e : Expr} {es : List Expr} {to : TE} {t : TA} {name : Str} {apos cpos : Pos} {T id : String} {r : V → List V → Hp → VK → Prop} (pa : PlainAttrs T) (slot : Slot T name id) (hty : typeOf (.builtin id) = pure (.type "method_descriptor")) (hm : MtR X id r) (ho : PE X o to) (ha : PA X (e :: es) t)
    (hbase : attributeBase o name X.env (eval o X.env) = eval o X.env := by rfl)
    (hfew : ((backTo cpos (starEach (e :: es) X.env)).all (fun x => !x.1) && (backToKw cpos (keywordEach [] X.env)).all (fun x => x.1.isSome)
      && decide ((e :: es).length + ([] : List Keyword).length + (if ([] : List Keyword).isEmpty then 0 else 1) < 30)) = true := by rfl)
    (hline : (apos.endLine == cpos.line) = true := by rfl) (hs : starEach (e :: es) X.env = (false, eval e X.env) :: starEach es X.env := by rfl) (hplain : (backTo cpos (starEach es X.env)).any (·.1) = false := by rfl) :
    PE X (.Call (.Attribute o name apos) (e :: es) [] cpos) (tBM K T r to t) := hK ▸ pe_bm pa slot hty hm ho ha hbase hfew hline hs hplain
theorem ktup {es : List Expr} {k n : Nat} {t : TGs} {pos : Pos} (hc : X.calm = true) (h : PGs X es t)
    (hn : (assignEach es X.env).length = n := by rfl) (hst : (assignEach es X.env).findIdx? (·.1) = none := by rfl) : PG X (.Tuple es k pos) (gTup K n t) := hK ▸ pg_tup hc h hn hst
end
end Vl
namespace Vl
open PySem PySem.Spec PyProof.Rows L2 Evl
section
variable {K : PySem.W.Frag} {B G : Hp} {M M' : Sto} {d : Dt} {Q : VK} {Γ : Gm} {N : L2.St → Hp → Prop}
theorem Rt.cells (h : Rt K B G d M Q) (hs : M.Sublist M') : Rt K B G d M' Q := fun v F Γ σ H k r => h v F Γ σ H (k.drop hs) r
theorem Rt.c1 {p : Addr × Ow} (h : Rt K B G d M Q) : Rt K B G d (p :: M) Q := h.cells (List.sublist_cons_self _ _)
theorem at_c1 {p : Addr × Ow} (h : At K B G Γ M N) : At K B G Γ (p :: M) N := at_cells h (List.sublist_cons_self _ _)
end
end Vl
namespace Vl
open PySem PySem.Spec PyProof.Rows L2 Evl
/-! ### == of equal data -/
def ShD (n : Nat) (d : Dt) : Prop := ∃ p, toPD d = some p ∧ p.canLay0 = true ∧ p.depth ≤ n
theorem ShD.mono {n m : Nat} {d : Dt} (h : ShD n d) (e : n ≤ m) : ShD m d := let ⟨p, a, b, c⟩ := h; ⟨p, a, b, Nat.le_trans c e⟩
theorem sh_int {n : Nat} {i : Int} : ShD n (.int i) := ⟨.int i, rfl, rfl, Nat.zero_le _⟩
theorem sh_bl {n : Nat} {i : Bool} : ShD n (.bl i) := ⟨.bool i, rfl, rfl, Nat.zero_le _⟩
theorem sh_non {n : Nat} : ShD n .non := ⟨.none, rfl, rfl, Nat.zero_le _⟩
theorem sh_str {n : Nat} {s : Str} (h : PyData.strOk s = true) : ShD n (.str s) := ⟨.str s, rfl, h, Nat.zero_le _⟩
theorem sh_all {n : Nat} : ∀ {ds : List Dt}, (∀ d ∈ ds, ShD n d) → ∃ ps, toPDs ds = some ps ∧ PyData.canLayAll0 ps = true ∧ PyData.depthAll ps ≤ n
  | [], _ => ⟨[], rfl, rfl, Nat.zero_le _⟩
  | d :: ds, h => by
    obtain ⟨p, a, b, c⟩ := h d List.mem_cons_self
    obtain ⟨ps, a', b', c'⟩ := sh_all (ds := ds) fun x hx => h x (List.mem_cons_of_mem _ hx)
    refine ⟨p :: ps, ?_, ?_, ?_⟩
    · show ((toPD d).bind fun p => (toPDs ds).map fun ps => p :: ps) = _
      rw [a, a']; rfl
    · show (PyData.canLay0 p && PyData.canLayAll0 ps) = true
      rw [b, b']; rfl
    · show max (PyData.depth p) (PyData.depthAll ps) ≤ n
      omega
theorem sh_lst {n : Nat} {ds : List Dt} (h : ∀ d ∈ ds, ShD n d) : ShD (n + 1) (.lst ds) := by
  obtain ⟨ps, a, b, c⟩ := sh_all h
  refine ⟨.list ps, ?_, b, ?_⟩
  · show (toPDs ds).map PyData.list = _
    rw [a]; rfl
  · show PyData.depthAll ps + 1 ≤ n + 1
    omega
theorem sh_tup {n : Nat} {ds : List Dt} (h : ∀ d ∈ ds, ShD n d) : ShD (n + 1) (.tup ds) := by
  obtain ⟨ps, a, b, c⟩ := sh_all h
  refine ⟨.tuple ps, ?_, b, ?_⟩
  · show (toPDs ds).map PyData.tuple = _
    rw [a]; rfl
  · show PyData.depthAll ps + 1 ≤ n + 1
    omega
section
variable {K : PySem.W.Frag} {M : Sto} {x y z : Dt}
theorem u_eqSame (sx : Sees M x z) (sy : Sees M y z) (h : ShD 64 z) : Op2 K M (rEqU K) x y (.bl true) := by
  obtain ⟨p, a, b, c⟩ := h
  have hs : SeqAt.shaped p = true := by unfold SeqAt.shaped; rw [b]; simp [c]
  have := u_eqD (K := K) sx sy a a hs hs
  rwa [SeqAt.eqv_refl p b] at this
theorem u_neSame (sx : Sees M x z) (sy : Sees M y z) (h : ShD 64 z) : Op2 K M (rNeU K) x y (.bl false) := by
  obtain ⟨p, a, b, c⟩ := h
  have hs : SeqAt.shaped p = true := by unfold SeqAt.shaped; rw [b]; simp [c]
  have := u_neD (K := K) sx sy a a hs hs
  rwa [SeqAt.eqv_refl p b] at this
end
theorem sum_signs (cs : List Nat) : ((cs.map fun c => (⟨#[c]⟩ : Str)).map (·.length)).sum = cs.length := by
  induction cs with
  | nil => rfl
  | cons c cs ih => rw [List.map_cons, List.map_cons, List.sum_cons, ih, List.length_cons]; show 1 + _ = _; omega
theorem ed_joinC {K : PySem.W.Frag} {Γ : Gm} {M : Sto} {t : TE} (cs : List Nat) (hc : cs.length ≤ 10000000) (h : EvD K Γ M t (.lst (cs.map sD))) : EvD K Γ M (tM1 (rJoin K) (tC (.str "")) t) (.str ⟨cs.toArray⟩) := by
  have := ed_join (s := "") (ys := cs.map fun c => (⟨#[c]⟩ : Str)) (ta := tC (.str "")) ed_str h (by rw [List.map_map]; exact Lst.frz) (by rw [sum_signs]; show _ + _ * 0 ≤ _; omega)
  rw [show Txt.join ("" : Str) (cs.map fun c => (⟨#[c]⟩ : Str)) = ⟨cs.toArray⟩ from join_signs cs] at this
  exact this
/-- a comprehension that gives signs -/
theorem ed_joinR {K : PySem.W.Frag} {Γ : Gm} {M : Sto} {tq : TA} {te : TE} {j : Nat} (n : Int) (h : Nat → Nat) (hd : EvA K Γ M tq [.int n]) (h0 : 0 ≤ n) (hn : n ≤ 1000000) (he : ∀ i : Nat, (i : Int) < n → EvD K (Γ.set j (some (.int i))) M te (sD (h i))) : EvD K Γ M (tM1 (rJoin K) (tC (.str "")) (tLc (iRng1 tq) (gName j) tYes te [j])) (.str ⟨((List.range n.toNat).map h).toArray⟩) := by
  apply ed_joinC
  · rw [List.length_map, List.length_range]; omega
  · have := (en_lcR (fun _ => true) (fun k => sD (h k)) hd (by omega) (by omega) fun i hi => ⟨et_yes, fun _ => he i hi⟩).toD
    rw [outL_all] at this
    rw [List.map_map]
    exact this
/-- where branches meet -/
theorem at_join {K : PySem.W.Frag} {B G : Hp} {Γ : Gm} {M : Sto} {D : Ends} {c : TT} {t u : TS} (I : Gm → Sto → Prop) (h : ∀ N, (∀ Γ' M', I Γ' M' → At K B G Γ' M' N) → At K B G Γ M (tIfS c t u { D with nx := N })) (q : ∀ Γ' M', I Γ' M' → At K B G Γ' M' D.nx) : At K B G Γ M (tIfS c t u D) := h D.nx q
/-! ### a law's end -/
theorem reps_ints {K : PySem.W.Frag} {H : Hp} : ∀ ns : List Int, Reps K H (ns.map V.int) (ns.map Dt.int)
  | [] => .nil
  | _ :: r => .cons .int (reps_ints r)
theorem law_sp {K : PySem.W.Frag} {T : TmV} {n : Nat} (h : ∀ ns : List Int, ns.length ≤ n → T [.lsr (ns.map Dt.int)] [] (fun d _ => d = .bl true) (fun _ _ => False)) (H : Hp) (a : Addr) (ns : List Int) (hl : ns.length ≤ n) (hS : SqL K H a (ns.map V.int)) : spT K T [.ref a] H (fun v _ => v = .bl true) fun _ _ _ => False :=
  ⟨fun _ => none, H, [], _, _, _, ⟨Ex.refl H, Ex.refl H, fun _ _ e => (nomatch e), fun _ z => (z rfl).elim, rfl, fun i d e => by simp at e, fun p hp => (nomatch hp), List.nodup_nil⟩, .cons (.lsr hS (reps_ints ns)) .nil, h ns hl, fun d M' e v F Γ σ H' _ r => (by subst e; cases r; rfl), fun C M' p => p.elim⟩
theorem noCX {P : Program} {w : World} (H : Hp) (s : Shared) (e : Value) (s' : Shared) : L2.CX P w [] H s (fun _ _ _ => False) e s' → False := fun ⟨_, _, _, _, _, _, _, _, _, _, _, _, z⟩ => z
/-- a law's walk, its facts out of the head -/
def TopOf (T : TmV) (l : PySem.W.OpenLaw) (k : Nat) (YP : World → Heap → Prop) (d : DefRec) : Prop :=
  ∀ w mg fa h, YP w h → h.Ns mainGlobals mg → mg d.name = some (.ref fa) →
    ∃ K fd, K.In h ∧ (∀ s u, BindsTo s fd ⟨[u], []⟩ [("_law_script", u)]) ∧
      ∀ base : Heap, K.In base → base.Ns mainGlobals mg → FnOk l.prog w K mg base (L2.CX l.prog w) k fa fd ["_law_script"] (spT K T)
theorem lawWalk {T : TmV} {l : PySem.W.OpenLaw} {k : Nat} {q : Program} {us : List Str} {XP : (Str → Option Value) → Heap → Prop} {YP : World → Heap → Prop} {d : DefRec}
    (hn : l.most = some 63) (hd : d.params.defaults = []) (hr : Room k callerA) (top : TopOf T l k YP d)
    (hT : ∀ ns : List Int, ns.length ≤ 63 → T [.lsr (ns.map Dt.int)] [] (fun d _ => d = .bl true) (fun _ _ => False)) :
    PySem.W.WalkO q us XP YP l.row.toRowW d [] (fun f vs => PySem.call f vs) := by
  apply Att.attach_call hn hd
  intro w s0 s1 mg mb fa o pm cd doc a vs ns G Y h1 h2 h3 hmg hobj hints hlen hg
  obtain ⟨K, fd, hK, hb, hF⟩ := top w mg fa _ Y G.T.g hmg
  have hlen' : ns.length ≤ sizeLine := Nat.le_trans hlen (by decide)
  apply law_call hK G.T.g G.T.b G.T.builtins G.T.nolimit hg hobj hints hlen' hr hF hb
  · intro H _ hS
    exact law_sp hT H a ns hlen hS
  · exact fun H e s' => noCX H s1 e s'
end Vl
namespace Tg
open PySem PySem.Spec PyProof.Rows L2 Vl
open Evl (Ex)
local macro_rules | `(tactic| walk_at "side") => `(tactic| first
  | assumption
  | rfl
  | decide
  | omega
  | exact Nat.le_of_ble_eq_true rfl
  | (refine Or.inr ⟨?_, ?_⟩ <;> first | decide | omega)
  | (refine Or.inl ⟨?_, ?_⟩ <;> first | decide | omega)
  | (refine ⟨?_, ?_⟩ <;> first | decide | omega)
  | (simp only [List.length_append, List.length_cons, List.length_nil, List.length_map, List.length_set]; omega)
  | (show (0 : Int) < _; omega))
local macro_rules | `(tactic| walk_at "lst") => `(tactic| first
  | exact Lst.frz
  | exact Lst.own (j := 0) rfl
  | exact Lst.own (j := 1) rfl
  | exact Lst.own (j := 2) rfl
  | exact Lst.own (j := 3) rfl)
local macro_rules | `(tactic| walk_at "dct") => `(tactic| first
  | exact Dct.frz
  | exact Dct.own (j := 0) rfl
  | exact Dct.own (j := 1) rfl
  | exact Dct.own (j := 2) rfl
  | exact Dct.own (j := 3) rfl)
local macro_rules | `(tactic| walk_at "atI") => `(tactic| first
  | rfl
  | assumption
  | exact atI_mapI (by walk_at "side") (by walk_at "side")
  | exact atI_mapD (by walk_at "side") (by walk_at "side")
  | exact atI_D _ (by walk_at "side") (by walk_at "side"))
local macro_rules | `(tactic| walk_at "op") => `(tactic| first
  | exact u_addI
  | exact op2_I0
  | exact op2_IB
  | exact u_ltI
  | exact u_eqI
  | exact u_neI
  | exact u_eqS
  | exact u_neS
  | exact u_eqB
  | exact u_neB
  | (apply op2_I; walk_at "side")
  | (apply u_mulI; walk_at "side")
  | (apply u_ixT; walk_at "atI")
  | (apply u_ixR; walk_at "atI")
  | (apply u_ixS; (focus walk_at "side"); walk_at "atI")
  | (apply u_ixL; (focus walk_at "lst"); walk_at "atI")
  | exact u_inS
  | exact u_niS
  | (apply u_addS; walk_at "side"))
local macro_rules | `(tactic| walk_at "cb") => `(tactic| first
  | (apply u_lenL; walk_at "lst")
  | exact u_lenR
  | exact u_lenT
  | exact u_lenS (by walk_at "side")
  | (apply u_lenD; walk_at "dct")
  | exact c_intB
  | exact c_max2
  | exact c_min2
  | exact c_strI (by walk_at "side")
  | exact c_isi rfl rfl
  | (apply c_isiL; (focus walk_at "lst"); rfl)
  | (apply c_sum; walk_at "lst")
  | (apply c_all; walk_at "lst"))
local macro_rules | `(tactic| walk_at "ev") => `(tactic| first
  | exact ed_int
  | exact ed_str
  | exact ed_bl
  | exact ed_non
  | exact ed_ty
  | exact ed_var rfl
  | ((with_reducible apply ed_op); (focus walk_at "ev"); (focus walk_at "ev"); (focus walk_at "op"))
  | ((with_reducible apply ed_cb); (focus walk_at "ea"); (focus walk_at "cb"))
  | ((with_reducible apply ed_un); (focus walk_at "ev"); exact op1_neg)
  | ((with_reducible apply ed_isN); walk_at "ev")
  | ((with_reducible apply ed_notN); walk_at "ev")
  | ((with_reducible apply ed_tup); (focus walk_at "ea"); walk_at "side")
  | ((with_reducible apply ed_notV); walk_at "ev")
  | ((with_reducible apply ed_andV); (focus walk_at "ev"); (intro _; walk_at "ev"))
  | ((with_reducible apply ed_orV); (focus walk_at "ev"); (intro _; walk_at "ev"))
  | ((with_reducible apply ed_chain); (focus walk_at "ev"); (focus walk_at "ev"); (focus walk_at "op"); (focus (intro _; walk_at "ev")); (intro _; walk_at "op"))
  | ((with_reducible apply ed_slS); (focus walk_at "ev"); (focus walk_at "side"); (focus walk_at "ep"); (focus walk_at "ep"))
  | (apply EvN.toD; walk_at "en"))
local macro_rules | `(tactic| walk_at "ep") => `(tactic| first
  | exact ep_none
  | (apply ep_some; walk_at "ev"))
local macro_rules | `(tactic| walk_at "ea") => `(tactic| first
  | exact ea_nil
  | (apply ea_cons; (focus walk_at "ev"); (focus walk_at "ea")))
local macro_rules | `(tactic| walk_at "en") => `(tactic| first
  | ((with_reducible apply en_lst); (focus walk_at "ea"); walk_at "side")
  | ((with_reducible apply en_op); (focus walk_at "ev"); (focus walk_at "ev"); (apply u_addL; (focus walk_at "lst"); (focus walk_at "lst"); walk_at "side"))
  | ((with_reducible apply en_slL); (focus walk_at "ev"); (focus walk_at "lst"); (focus walk_at "ep"); (focus walk_at "ep"))
  | ((with_reducible apply en_rev); (focus walk_at "ev"); (focus walk_at "lst"))
  | ((with_reducible apply en_cb); (focus walk_at "ea"); first | (apply c_list; walk_at "lst") | exact c_listT)
  | exact en_dnew)
local macro_rules | `(tactic| walk_at "et") => `(tactic| first
  | ((with_reducible apply et_test); walk_at "ev")
  | ((with_reducible apply et_B); walk_at "ev")
  | ((with_reducible apply et_not); walk_at "et")
  | ((with_reducible apply et_and); (focus walk_at "et"); (intro _; walk_at "et"))
  | ((with_reducible apply et_or); (focus walk_at "et"); (intro _; walk_at "et"))
  | exact et_yes)
local macro_rules | `(tactic| walk_at "q") => `(tactic| dsimp only [List.set])
local macro_rules | `(tactic| walk_at "asg") => `(tactic| (apply at_seq; apply at_asg; (focus walk_at "ev"); walk_at "q"))
local macro_rules | `(tactic| walk_at "asgN") => `(tactic| (apply at_seq; apply at_asgN; (focus walk_at "en"); intro _; walk_at "q"))
local macro_rules | `(tactic| walk_at "if") => `(tactic| (apply at_if; (focus walk_at "et")))
local macro_rules | `(tactic| walk_at "nx") => `(tactic| (apply at_next; walk_at "q"))
local macro_rules | `(tactic| walk_at "sq") => `(tactic| (apply at_seq; try walk_at "q"))
def top (i : Nat) : Stmt := PySem.Challenge.pw_tollguess_k01_names.main.body.getD i (.Pass ⟨0, 0, 0, 0⟩)
abbrev s_L_cell_at : Stmt := top 6
abbrev s_is_name : Stmt := top 4
abbrev s_law : Stmt := top 7
def d_L_cell_at : He.DefD := ⟨("_law_cell_at", none), "_law_cell_at", "_law_cell_at", defArgs s_L_cell_at, defBody s_L_cell_at, defScope s_L_cell_at, [], []⟩
def d_is_name : He.DefD := ⟨("is_name", none), "is_name", "is_name", defArgs s_is_name, defBody s_is_name, defScope s_is_name, [], []⟩
def d_law : He.DefD := ⟨("law", none), "law", "law", defArgs s_law, defBody s_law, defScope s_law, [], []⟩
def fn : List He.DefD := [d_L_cell_at, d_is_name, d_law]
def fa0 : List He.Fa := [He.Fa.glo "_law_cell_at", He.Fa.glo "is_name", He.Fa.glo "law", He.Fa.free "len", He.Fa.free "range", He.Fa.free "isinstance", He.Fa.free "int", He.Fa.free "bool", He.Fa.free "all", He.Fa.str "SMALL" "abcdefghijklmnopqrstuvwxyz", He.Fa.str "FIGURES" "0123456789", He.Fa.int "MOST_SIGNS" 8]
def fa : List He.Fa := fa0
structure Cxt (K : PySem.W.Frag) (mg : Str → Option Value) : Prop where
  kin : ∃ h : Heap, K.In h ∧ h.Ns mainGlobals mg
  says : He.SaysD fa fn K
structure FnG (P : Program) (w : World) (K : PySem.W.Frag) (mg : Str → Option Value) (base : Heap) (f : Addr) (ps : List Str) (k : Nat) (T : TmV) : Prop where
  ex : ∃ fd, FnOk P w K mg base (L2.CX P w) k f fd ps (Vl.spT K T) ∧ Binds K fd ps []
  kp : PySem.W.keepIn K (.ref f) = true
section
variable {K : PySem.W.Frag} {mg : Str → Option Value}
theorem g_L_cell_at (c : Cxt K mg) : mg "_law_cell_at" = some (.ref (He.ga K "_law_cell_at")) := by obtain ⟨⟨h, X, G⟩, s⟩ := c; exact He.glo_ok X G (s.fact 0)
theorem g_is_name (c : Cxt K mg) : mg "is_name" = some (.ref (He.ga K "is_name")) := by obtain ⟨⟨h, X, G⟩, s⟩ := c; exact He.glo_ok X G (s.fact 1)
theorem g_law (c : Cxt K mg) : mg "law" = some (.ref (He.ga K "law")) := by obtain ⟨⟨h, X, G⟩, s⟩ := c; exact He.glo_ok X G (s.fact 2)
theorem n_len (c : Cxt K mg) : mg "len" = none := by obtain ⟨⟨h, X, G⟩, s⟩ := c; exact He.free_ok X G (s.fact 3)
theorem n_range (c : Cxt K mg) : mg "range" = none := by obtain ⟨⟨h, X, G⟩, s⟩ := c; exact He.free_ok X G (s.fact 4)
theorem n_isinstance (c : Cxt K mg) : mg "isinstance" = none := by obtain ⟨⟨h, X, G⟩, s⟩ := c; exact He.free_ok X G (s.fact 5)
theorem n_int (c : Cxt K mg) : mg "int" = none := by obtain ⟨⟨h, X, G⟩, s⟩ := c; exact He.free_ok X G (s.fact 6)
theorem n_bool (c : Cxt K mg) : mg "bool" = none := by obtain ⟨⟨h, X, G⟩, s⟩ := c; exact He.free_ok X G (s.fact 7)
theorem n_all (c : Cxt K mg) : mg "all" = none := by obtain ⟨⟨h, X, G⟩, s⟩ := c; exact He.free_ok X G (s.fact 8)
theorem c_SMALL (c : Cxt K mg) : ∃ t, mg "SMALL" = some (.str "abcdefghijklmnopqrstuvwxyz" t) := by obtain ⟨⟨h, X, G⟩, s⟩ := c; exact He.str_ok X G (s.fact 9)
theorem c_FIGURES (c : Cxt K mg) : ∃ t, mg "FIGURES" = some (.str "0123456789" t) := by obtain ⟨⟨h, X, G⟩, s⟩ := c; exact He.str_ok X G (s.fact 10)
theorem c_MOST_SIGNS (c : Cxt K mg) : ∃ t, mg "MOST_SIGNS" = some (.int 8 t) := by obtain ⟨⟨h, X, G⟩, s⟩ := c; exact He.int_ok X G (s.fact 11)
theorem F_L_cell_at (c : Cxt K mg) : ∃ fd, FunD K "_law_cell_at" "_law_cell_at" (defArgs s_L_cell_at) (defBody s_L_cell_at) (defScope s_L_cell_at) [] [] (He.ga K "_law_cell_at") fd := c.says.def_ 0 (d := d_L_cell_at) rfl
theorem F_is_name (c : Cxt K mg) : ∃ fd, FunD K "is_name" "is_name" (defArgs s_is_name) (defBody s_is_name) (defScope s_is_name) [] [] (He.ga K "is_name") fd := c.says.def_ 1 (d := d_is_name) rfl
theorem F_law (c : Cxt K mg) : ∃ fd, FunD K "law" "law" (defArgs s_law) (defBody s_law) (defScope s_law) [] [] (He.ga K "law") fd := c.says.def_ 2 (d := d_law) rfl
end
/-- a cell of the script, or nought -/
def cellAt (ns : List Int) (i : Int) : Int := if i < ns.length then ns.getD i.toNat 0 else 0
def mixOf (cell k : Int) : Int := ((cell + 7919 * k) * 48271 % 2147483647 * ((cell + 7919 * k) * 48271 % 2147483647) + 16807 * ((cell + 7919 * k) * 48271 % 2147483647)) % 2147483629
def mixed (ns : List Int) (k : Int) : Int := mixOf (if 0 < ns.length then ns.getD (k % ns.length).toNat 0 else 0) k
theorem mixed_nn (ns : List Int) (k : Int) : 0 ≤ mixed ns k := Int.emod_nonneg _ (by decide)
theorem mixed_lt (ns : List Int) (k : Int) : mixed ns k < 2147483629 := Int.emod_lt_of_pos _ (by decide)
def smallL : List Nat := ("abcdefghijklmnopqrstuvwxyz" : Str).cps.toList
def figL : List Nat := ("0123456789" : Str).cps.toList
def nmSign (c : Nat) : Bool := decide (c ∈ smallL) || decide (c ∈ figL)
/-- the texts that are names -/
def isNm (s : Str) : Bool := (decide ((1 : Int) ≤ s.length) && decide ((s.length : Int) ≤ 8)) && decide (s.cps.toList.getD 0 0 ∈ smallL) && s.cps.toList.all nmSign
theorem cps_len (s : Str) : s.cps.toList.length = s.length := by show _ = s.cps.size; simp
theorem at0 {s : Str} (h : 1 ≤ s.length) : atI s.cps.toList 0 = some (s.cps.toList.getD 0 0) := atI_D 0 (by decide) (by rw [cps_len]; omega)
def sg36 : List Nat := ("abcdefghijklmnopqrstuvwxyz0123456789" : Str).cps.toList
theorem cut36 : (cutS "abcdefghijklmnopqrstuvwxyz0123456789" none (some 36)).cps.toList = sg36 := by decide +kernel
theorem cut26 : (cutS "abcdefghijklmnopqrstuvwxyz0123456789" none (some 26)).cps.toList = smallL := by decide +kernel
theorem sg36_eq : sg36 = smallL ++ figL := by decide +kernel
theorem in36 (c : Nat) : decide (c ∈ sg36) = nmSign c := by
  unfold nmSign
  rw [sg36_eq]
  by_cases h1 : c ∈ smallL <;> by_cases h2 : c ∈ figL <;> simp [h1, h2]
/-- what the law asks of the sign at k -/
def sgnOk (s : Str) (k : Nat) : Bool := decide (s.cps.toList.getD k 0 ∈ (if k = 0 then smallL else sg36))
theorem isNm_law (s : Str) : isNm s = ((decide ((0 : Int) < s.length) && decide ((s.length : Int) < 9)) && (List.range s.length).all (sgnOk s)) := by
  have hl := cps_len s
  unfold isNm
  by_cases h : 1 ≤ s.length
  · have e : s.cps.toList = s.cps.toList.getD 0 0 :: s.cps.toList.drop 1 := by
      cases q : s.cps.toList with
      | nil => rw [q] at hl; simp at hl; omega
      | cons a r => simp
    have a1 : decide ((1 : Int) ≤ s.length) = decide ((0 : Int) < s.length) := by congr 1
    have a2 : decide ((s.length : Int) ≤ 8) = decide ((s.length : Int) < 9) := by
      have : ((s.length : Int) ≤ 8) ↔ ((s.length : Int) < 9) := by omega
      simp [this]
    rw [a1, a2, Bool.and_assoc]
    congr 1
    rw [Bool.eq_iff_iff]
    rw [Bool.and_eq_true, List.all_eq_true, List.all_eq_true]
    constructor
    · rintro ⟨h0, ha⟩ k hk
      have hk' : k < s.length := List.mem_range.mp hk
      unfold sgnOk
      by_cases q : k = 0
      · rw [if_pos q, q]; exact h0
      · rw [if_neg q, in36]
        apply ha
        rw [List.getD_eq_getElem?_getD, List.getElem?_eq_getElem (by omega)]
        exact List.getElem_mem _
    · intro ha
      have h0 := ha 0 (List.mem_range.mpr (by omega))
      unfold sgnOk at h0
      rw [if_pos rfl] at h0
      refine ⟨h0, fun c hc => ?_⟩
      obtain ⟨k, hk, rfl⟩ := List.getElem_of_mem hc
      have hk2 := ha k (List.mem_range.mpr (by omega))
      unfold sgnOk at hk2
      rw [List.getD_eq_getElem?_getD, List.getElem?_eq_getElem hk] at hk2
      by_cases q : k = 0
      · rw [if_pos q] at hk2
        unfold nmSign
        rw [show decide ((s.cps.toList)[k] ∈ smallL) = true from hk2]
        rfl
      · rw [if_neg q, in36] at hk2
        exact hk2
  · have e : s.length = 0 := by omega
    have z : decide ((1 : Int) ≤ s.length) = false := by simp; omega
    have z2 : decide ((0 : Int) < s.length) = false := by simp; omega
    rw [z, z2]; rfl
def sgs : List Nat := ("abcdefghijklmnopqrstuvwxyz0123456789" : Str).cps.toList
theorem sgs_len : sgs.length = 36 := by decide +kernel
def sgAt (i : Int) : Nat := sgs.getD i.toNat 0
theorem at_sg {i : Int} (h0 : 0 ≤ i) (h1 : i < 36) : atI ("abcdefghijklmnopqrstuvwxyz0123456789" : Str).cps.toList i = some (sgAt i) := atI_D 0 h0 (by show i < (sgs.length : Int); rw [sgs_len]; omega)
/-- the eight signs of a base -/
def nsg (b : Int) : List Nat := ((List.range 8).map fun (k : Nat) => sgAt ((b / 64 + 7 * (k : Int) + b / 99991 * (k : Int)) % 36)).set 0 (sgAt (b / 64 % 26))
theorem nsg_len (b : Int) : (nsg b).length = 8 := by simp [nsg]
def nameOf (b t : Int) : Str :=
  if b % 3 = 0 ∧ t < 8 then ⟨((nsg b).take (1 + t).toNat).toArray⟩
  else if b % 3 < 2 ∨ t > 25 then ⟨((nsg b).take (1 + b / 3 % 5).toNat).toArray⟩ ++ (toString t : Str)
  else ⟨(((nsg b).set (b / 24 % (1 + b / 3 % 8)).toNat (sgAt ((b / 2311 + t) % (if b / 24 % (1 + b / 3 % 8) = 0 then 26 else 36)))).take (1 + b / 3 % 8).toNat).toArray⟩
theorem str_len (t : Int) (h0 : 0 ≤ t) (h1 : t < 1000) : ((toString t : Str)).length ≤ 3 := by
  have h : ∀ n : Fin 1000, ((toString ((n.val : Nat) : Int) : Str)).length ≤ 3 := by decide +kernel
  have := h ⟨t.toNat, by omega⟩
  have e : ((t.toNat : Nat) : Int) = t := by omega
  simpa [e] using this
theorem log2_small {t : Int} (h0 : 0 ≤ t) (h1 : t < 2 ^ 60) : t.natAbs.log2 < 1920 := by
  have : t.natAbs < 2 ^ 60 := by omega
  have h2 : t.natAbs.log2 ≤ 60 := by
    by_cases hz : t.natAbs = 0
    · rw [hz]; decide
    · have := (Nat.log2_lt hz).mpr this; omega
  omega
def T_L_cell_at : TmV := fun ds M R _ => ∃ (ns : List Int) (i : Int), ds = [.lsr (ns.map Dt.int), .int i] ∧ 0 ≤ i ∧ R (.int (cellAt ns i)) M
def N_L_cell_at : List Str := ["_law_script", "_law_k"]
theorem sc_L_cell_at : FnScope N_L_cell_at ["_law_script", "_law_k"] (defScope s_L_cell_at) := ⟨rfl, rfl, rfl, by decide +kernel, rfl, by decide +kernel, by decide +kernel⟩
section
variable {P : Program} {w : World} {K : PySem.W.Frag} {mg : Str → Option Value} {base : Heap}
theorem okF_L_cell_at {fd : FuncData} (c : Cxt K mg) (F : FunD K "_law_cell_at" "_law_cell_at" (defArgs s_L_cell_at) (defBody s_L_cell_at) (defScope s_L_cell_at) [] [] (He.ga K "_law_cell_at") fd) : FnOk P w K mg base (L2.CX P w) 1 (He.ga K "_law_cell_at") fd ["_law_script", "_law_k"] (Vl.spT K T_L_cell_at) := by
  refine fnT F sc_L_cell_at (by decide) (fun ds M R X h => by obtain ⟨_, _, rfl, _⟩ := h; rfl) (fun cdv A outer s H E hr => ?_)
  have hu := hu_of hr
  have hu64 := hr.units
  refine ⟨_, PSs.nox (pss_cons (ps_if (pt_cmpR (kltU K rfl hu64) (pv 1) (pe_callB (klenU K rfl) (by rfl) (n_len c) PySem.boot_len (pa_cons (pv 0) pa_nil)) (nomark _)) (pss_one (ps_ret (pe_ix (kixU K rfl hu) (pv 0) (pv 1) (fun _ _ => rfl)))) pss_nil)
      (pss_one (ps_ret pe_int))), ?_⟩
  intro B G ds M R X Q ht hQ hX
  obtain ⟨ns, i, rfl, h0, hR⟩ := ht
  change At K B G [some _, some _] M _
  apply at_seq; walk_at "if"
  · intro hb
    have hb' : i < (ns.length : Int) := by simpa using hb
    apply at_ret
    · walk_at "ev"
    · refine hQ _ _ ?_
      simpa [cellAt, hb'] using hR
  · intro hb
    have hb' : ¬ i < (ns.length : Int) := by simpa using hb
    walk_at "nx"
    apply at_ret
    · walk_at "ev"
    · refine hQ _ _ ?_
      simpa [cellAt, hb'] using hR
theorem ok_L_cell_at (c : Cxt K mg) : FnG P w K mg base (He.ga K "_law_cell_at") ["_law_script", "_law_k"] 1 T_L_cell_at := by
  obtain ⟨fd, F⟩ := F_L_cell_at c
  exact ⟨⟨fd, okF_L_cell_at c F, F.bindsN fun _ _ _ _ _ _ us hl => match us, hl with | [_, _], _ => rfl⟩, F.kp⟩
end
def T_is_name : TmV := fun ds M R _ => ∃ (s : Str), ds = [.str s] ∧ s.length ≤ 10000000 ∧ R (.bl (isNm s)) M
def N_is_name : List Str := ["text", "sign"]
theorem sc_is_name : FnScope N_is_name ["text"] (defScope s_is_name) := ⟨rfl, rfl, rfl, by decide +kernel, rfl, by decide +kernel, by decide +kernel⟩
section
variable {P : Program} {w : World} {K : PySem.W.Frag} {mg : Str → Option Value} {base : Heap}
theorem okF_is_name {fd : FuncData} (c : Cxt K mg) (F : FunD K "is_name" "is_name" (defArgs s_is_name) (defBody s_is_name) (defScope s_is_name) [] [] (He.ga K "is_name") fd) : FnOk P w K mg base (L2.CX P w) 1 (He.ga K "is_name") fd ["text"] (Vl.spT K T_is_name) := by
  refine fnT F sc_is_name (by decide) (fun ds M R X h => by obtain ⟨_, rfl, _⟩ := h; rfl) (fun cdv A outer s H E hr => ?_)
  have hu := hu_of hr
  have hu64 := hr.units
  refine ⟨_, PSs.nox (pss_cons (ps_if (PW.pt (pw_or (pt_not (pt_chain op_le op_le pe_int (pe_callB (klenU K rfl) (by rfl) (n_len c) PySem.boot_len (pa_cons (pv 0) pa_nil)) (pe_glI (c_MOST_SIGNS c) (by rfl)))) (pw_or1 (pt_cmpR (kniU K rfl hu) (pe_ix (kixU K rfl hu) (pv 0) pe_int (fun _ _ => rfl)) (pe_glS (c_SMALL c) (by rfl)) (by rfl))))) (pss_one (ps_ret pe_bl)) pss_nil)
      (pss_one (ps_ret (pe_callB (kall K rfl rfl) (by rfl) (n_all c) (by decide +kernel) (pa_cons (pe_lc (own := [("sign", 1)]) (g := gName 1) (tt := tYes) rfl sc_is_name.nd (kseqU K rfl (pv 0)) (blkOk_by (own := [("sign", 1)]) (N := N_is_name) (sc := defScope s_is_name) (by decide +kernel)) (fun _ _ _ _ _ => pg_name (i := 1) sc_is_name.nd rfl (Or.inl rfl)) (fun _ _ _ _ _ => pts_nil) (fun _ _ _ _ _ => (pe_or (pe_cmpR (kinU K rfl hu) (pv 1) (pe_glS (c_SMALL c) (by rfl)) (by rfl)) (pe_one (pe_cmpR (kinU K rfl hu) (pv 1) (pe_glS (c_FIGURES c) (by rfl)) (by rfl)))))) pa_nil))))), ?_⟩
  intro B G ds M R X Q ht hQ hX
  obtain ⟨s, rfl, hs, hR⟩ := ht
  change At K B G [some _, none] M _
  walk_at "sq"
  have key : isNm s = (!((!(decide ((1 : Int) ≤ s.length) && decide ((s.length : Int) ≤ 8))) || !decide (s.cps.toList.getD 0 0 ∈ smallL)) && s.cps.toList.all nmSign) := by
    unfold isNm
    generalize decide ((1 : Int) ≤ s.length) = a
    generalize decide ((s.length : Int) ≤ 8) = b
    generalize decide (s.cps.toList.getD 0 0 ∈ smallL) = d
    cases a <;> cases b <;> cases d <;> rfl
  rw [key] at hR
  apply at_if (b := (!(decide ((1 : Int) ≤ s.length) && decide ((s.length : Int) ≤ 8))) || !decide (s.cps.toList.getD 0 0 ∈ smallL))
  · apply et_or
    · walk_at "et"
    · intro h
      have h1 : 1 ≤ s.length := by
        simp at h
        omega
      apply et_test
      apply ed_op
      · apply ed_op
        · walk_at "ev"
        · walk_at "ev"
        · apply u_ixS hs (at0 h1)
      · walk_at "ev"
      · exact u_niS
  · intro h
    rw [h] at hR
    apply at_ret
    · walk_at "ev"
    · exact hQ _ _ hR
  · intro h
    rw [h] at hR
    walk_at "nx"
    apply at_ret
    · apply ed_cb
      · apply ea_cons
        · apply EvN.toD
          apply en_lcS (fun _ => true) (fun ch => .bl (nmSign ch)) (by walk_at "ev") hs
          intro i ch hc
          refine ⟨by walk_at "et", fun _ => ?_⟩
          walk_at "q"
          show EvD K _ _ _ (.bl (decide (ch ∈ smallL) || decide (ch ∈ figL)))
          apply ed_orV
          · apply ed_op
            · walk_at "ev"
            · walk_at "ev"
            · exact u_inS
          · intro _
            apply ed_op
            · walk_at "ev"
            · walk_at "ev"
            · exact u_inS
        · exact ea_nil
      · have e : outL (fun _ => true) (fun ch => Dt.bl (nmSign ch)) s.cps.toList = (s.cps.toList.map nmSign).map Dt.bl := by rw [outL_all, List.map_map]; rfl
        rw [e]
        exact c_all Lst.frz
    · rw [show (s.cps.toList.map nmSign).all id = s.cps.toList.all nmSign by rw [List.all_map]; rfl]
      exact hQ _ _ hR
theorem ok_is_name (c : Cxt K mg) : FnG P w K mg base (He.ga K "is_name") ["text"] 1 T_is_name := by
  obtain ⟨fd, F⟩ := F_is_name c
  exact ⟨⟨fd, okF_is_name c F, F.bindsN fun _ _ _ _ _ _ us hl => match us, hl with | [_], _ => rfl⟩, F.kp⟩
end
def T_law : TmV := fun ds M R _ => ∃ (ns : List Int), ds = [.lsr (ns.map Dt.int)] ∧ ns.length ≤ 63 ∧ R (.bl true) M
def N_law : List Str := ["_law_script", "_law_some", "_law_cell", "_law_size", "_law_text", "_law_k", "_law_other", "_law_at", "_law_due", "_law_found"]
theorem sc_law : FnScope N_law ["_law_script"] (defScope s_law) := ⟨rfl, rfl, rfl, by decide +kernel, rfl, by decide +kernel, by decide +kernel⟩
section
variable {P : Program} {w : World} {K : PySem.W.Frag} {mg : Str → Option Value} {base : Heap}
theorem okF_law {fd : FuncData} (c : Cxt K mg) (F : FunD K "law" "law" (defArgs s_law) (defBody s_law) (defScope s_law) [] [] (He.ga K "law") fd) : FnOk P w K mg base (L2.CX P w) 2 (He.ga K "law") fd ["_law_script"] (Vl.spT K T_law) := by
  obtain ⟨⟨fd_L_cell_at, G_L_cell_at, b_L_cell_at⟩, k_L_cell_at⟩ := ok_L_cell_at (P := P) (w := w) (base := base) c
  obtain ⟨⟨fd_is_name, G_is_name, b_is_name⟩, k_is_name⟩ := ok_is_name (P := P) (w := w) (base := base) c
  refine fnT F sc_law (by decide) (fun ds M R X h => by obtain ⟨_, rfl, _⟩ := h; rfl) (fun cdv A outer s H E hr => ?_)
  have hu := hu_of hr
  have hu64 := hr.units
  refine ⟨_, PSs.nox (pss_cons (ps_set (i := 1) sc_law.nd rfl (Or.inr rfl) pe_str)
      (pss_cons (ps_set (i := 2) sc_law.nd rfl (Or.inr rfl) (pe_call G_L_cell_at (hr.mono (by decide)) (by rfl) (g_L_cell_at c) k_L_cell_at b_L_cell_at .nil passL (pa_cons (pv 0) (pa_cons pe_int pa_nil))))
      (pss_cons (ps_set (i := 3) sc_law.nd rfl (Or.inl rfl) (pe_op op_mod (pv 2) pe_int))
      (pss_cons (ps_if (pt_cmpR (keqU K rfl hu64) (pe_op op_mod (pe_op op_fdiv (pv 2) pe_int) pe_int) pe_int (nomark _)) (pss_one (ps_set (i := 3) sc_law.nd rfl (Or.inl rfl) pe_int)) pss_nil)
      (pss_cons (ps_set (i := 4) sc_law.nd rfl (Or.inl rfl) (pe_m1 PySem.F.slot_str_join PySem.F.type_str_join (kjoin K rfl) pe_str (pe_lc (own := [("_law_k", 5)]) (g := gName 5) (tt := tYes) rfl sc_law.nd (pi_range1 (by rfl) (n_range c) (pa_cons (pv 3) pa_nil)) (blkOk_by (own := [("_law_k", 5)]) (N := N_law) (sc := defScope s_law) (by decide +kernel)) (fun _ _ _ _ _ => pg_name (i := 5) sc_law.nd rfl (Or.inl rfl)) (fun _ _ _ _ _ => pts_nil) (fun _ _ _ _ _ => (pe_ix (kixU K rfl hu) (pv 1) (pe_op op_mod (pe_op (kaddU K rfl) (pe_op (kaddU K rfl) (pe_op op_fdiv (pv 2) pe_int) (pe_op op_mulU (pe_op op_fdiv (pv 2) pe_int) (pv 5))) (pe_op op_mulU pe_int (pv 5))) pe_int) (fun _ _ => rfl))))))
      (pss_cons (ps_set (i := 6) sc_law.nd rfl (Or.inl rfl) (pe_call G_L_cell_at (hr.mono (by decide)) (by rfl) (g_L_cell_at c) k_L_cell_at b_L_cell_at .nil passL (pa_cons (pv 0) (pa_cons pe_int pa_nil))))
      (pss_cons (ps_if (PW.pt (pw_and (pt_cmpR (keqU K rfl hu64) (pe_op op_mod (pv 6) pe_int) pe_int (nomark _)) (pw_and1 (pt_cmpR (kneU K rfl hu64) (pv 4) pe_str (nomark _))))) (pss_cons (ps_set (i := 7) sc_law.nd rfl (Or.inl rfl) (pe_op op_mod (pe_op op_fdiv (pv 6) pe_int) (pe_callB (klenU K rfl) (by rfl) (n_len c) PySem.boot_len (pa_cons (pv 4) pa_nil))))
      (pss_cons (ps_if (pt_cmpR (keqU K rfl hu64) (pe_op op_mod (pv 6) pe_int) pe_int (nomark _)) (pss_one (ps_set (i := 7) sc_law.nd rfl (Or.inl rfl) (pe_op op_sub (pe_callB (klenU K rfl) (by rfl) (n_len c) PySem.boot_len (pa_cons (pv 4) pa_nil)) pe_int))) pss_nil)
      (pss_one (ps_set (i := 4) sc_law.nd rfl (Or.inl rfl) (pe_op (kaddU K rfl) (pe_op (kaddU K rfl) (pe_slice (kslU K rfl) (pv 4) po_none (po_some (pv 7))) (pe_ix (kixU K rfl hu) pe_str (pe_op op_mod (pe_op op_fdiv (pv 6) pe_int) pe_int) (fun _ _ => rfl))) (pe_slice (kslU K rfl) (pv 4) (po_some (pe_op (kaddU K rfl) (pv 7) pe_int)) po_none)))))) pss_nil)
      (pss_cons (ps_if (pt_cmpR (keqU K rfl hu64) (pe_op op_mod (pe_call G_L_cell_at (hr.mono (by decide)) (by rfl) (g_L_cell_at c) k_L_cell_at b_L_cell_at .nil passL (pa_cons (pv 0) (pa_cons pe_int pa_nil))) pe_int) pe_int (nomark _)) (pss_one (ps_set (i := 4) sc_law.nd rfl (Or.inl rfl) (pe_op (kaddU K rfl) (pe_ix (kixU K rfl hu) (pv 1) (pe_op op_mod (pe_op op_fdiv (pe_call G_L_cell_at (hr.mono (by decide)) (by rfl) (g_L_cell_at c) k_L_cell_at b_L_cell_at .nil passL (pa_cons (pv 0) (pa_cons pe_int pa_nil))) pe_int) pe_int) (fun _ _ => rfl)) (pv 4)))) pss_nil)
      (pss_cons (ps_set (i := 8) sc_law.nd rfl (Or.inl rfl) (pe_chain (kltU K rfl hu64) (kltU K rfl hu64) pe_int (pe_callB (klenU K rfl) (by rfl) (n_len c) PySem.boot_len (pa_cons (pv 4) pa_nil)) pe_int))
      (pss_cons (ps_for PassesOwn.never rfl (pi_range1 (by rfl) (n_range c) (pa_cons (pe_callB (klenU K rfl) (by rfl) (n_len c) PySem.boot_len (pa_cons (pv 4) pa_nil)) pa_nil)) (pg_name (i := 5) sc_law.nd rfl (Or.inl rfl)) (pss_one (ps_if (pt_cmpR (kniU K rfl hu) (pe_ix (kixU K rfl hu) (pv 4) (pv 5) (fun _ _ => rfl)) (pe_slice (kslU K rfl) (pv 1) po_none (po_some (pe_ix (kixU K rfl hu) (pe_lst (pa_cons pe_int (pa_cons pe_int pa_nil))) (pe_callTy call_intU (by rfl) (n_int c) (by decide +kernel) (pa_cons (pe_cmpR (keqU K rfl hu64) (pv 5) pe_int (nomark _)) pa_nil)) (fun _ _ => rfl)))) (by rfl)) (pss_one (ps_set (i := 8) sc_law.nd rfl (Or.inl rfl) pe_bl)) pss_nil)))
      (pss_cons (ps_set (i := 9) sc_law.nd rfl (Or.inl rfl) (pe_call G_is_name (hr.mono (by decide)) (by rfl) (g_is_name c) k_is_name b_is_name .nil passL (pa_cons (pv 4) pa_nil)))
      (pss_one (ps_ret (pe_and (pe_callB (kisi K rfl) (by rfl) (n_isinstance c) (by decide +kernel) (pa_cons (pv 9) (pa_cons (pe_bltn (by rfl) (n_bool c) (by decide +kernel) rfl (v := .ty "bool")) pa_nil))) (pe_one (pe_cmpR (keqU K rfl hu64) (pv 9) (pv 8) (nomark _))))))))))))))))), ?_⟩
  intro B G ds M R X Q ht hQ hX
  obtain ⟨ns, rfl, hn, hR⟩ := ht
  change At K B G [some _, none, none, none, none, none, none, none, none, none] M _
  have cell : ∀ (i : Nat) {Γ : Gm} {M' : Sto} {t : TE}, EvD K Γ M' t (.lsr (ns.map Dt.int)) → EvD K Γ M' (tCall (Vl.spT K T_L_cell_at) [] E0 (tCons t (tCons (tC (.int (i : Int))) tNil))) (.int (cellAt ns i)) := fun i Γ M' t h => by
    apply evd_call (ea_cons h (ea_cons ed_int ea_nil))
    exact ⟨ns, i, rfl, by omega, rfl, rfl⟩
  walk_at "asg"
  walk_at "sq"
  apply at_asg (d := .int (cellAt ns 0))
  · exact cell 0 (by walk_at "ev")
  walk_at "q"
  generalize cellAt ns 0 = b
  walk_at "asg"
  -- the size
  walk_at "sq"
  have hm0 := Int.emod_nonneg b (show (11 : Int) ≠ 0 by decide)
  have hm1 := Int.emod_lt_of_pos b (show (0 : Int) < 11 by decide)
  apply at_ifI (x := 8)
  · walk_at "et"
  · rfl
  · intro _; walk_at "ev"
  walk_at "q"
  have hn0 : 0 ≤ (if decide (b / 11 % 3 = 1) = true then (8 : Int) else b % 11) ∧ (if decide (b / 11 % 3 = 1) = true then (8 : Int) else b % 11) ≤ 10 := by split <;> omega
  generalize (if decide (b / 11 % 3 = 1) = true then (8 : Int) else b % 11) = n at hn0
  -- the signs
  walk_at "sq"
  apply at_asg (d := .str ⟨(((List.range n.toNat).map fun (k : Nat) => sgAt ((b / 33 + b / 97 * (k : Int) + 5 * (k : Int)) % 36))).toArray⟩)
  · apply ed_joinR n (fun k => sgAt ((b / 33 + b / 97 * (k : Int) + 5 * (k : Int)) % 36)) (by walk_at "ea") (by omega) (by omega)
    intro i hi
    have hm1 : 0 ≤ (b / 33 + b / 97 * (i : Int) + 5 * (i : Int)) % 36 := Int.emod_nonneg _ (by decide)
    have hm2 : (b / 33 + b / 97 * (i : Int) + 5 * (i : Int)) % 36 < 36 := Int.emod_lt_of_pos _ (by decide)
    have ha := at_sg hm1 hm2
    walk_at "q"
    apply ed_op
    · walk_at "ev"
    · walk_at "ev"
    · apply u_ixS
      · decide +kernel
      · exact ha
  walk_at "q"
  have hs : (⟨((List.range n.toNat).map fun (k : Nat) => sgAt ((b / 33 + b / 97 * (k : Int) + 5 * (k : Int)) % 36)).toArray⟩ : Str).length ≤ 10 := by
    show Array.size _ ≤ 10
    rw [List.size_toArray, List.length_map, List.length_range]
    omega
  generalize (⟨((List.range n.toNat).map fun (k : Nat) => sgAt ((b / 33 + b / 97 * (k : Int) + 5 * (k : Int)) % 36)).toArray⟩ : Str) = s at hs
  walk_at "sq"
  apply at_asg (d := .int (cellAt ns 1))
  · exact cell 1 (by walk_at "ev")
  walk_at "q"
  generalize cellAt ns 1 = b2
  -- one sign written over
  walk_at "sq"
  apply at_join (fun Γ' M' => ∃ (s : Str) (z1 z2 z3 z4 : Option Dt), s.length ≤ 30 ∧ Γ' = [some (Dt.lsr (ns.map Dt.int)), some (Dt.str "abcdefghijklmnopqrstuvwxyz0123456789"), some (Dt.int b), some (Dt.int n), some (Dt.str s), z1, some (Dt.int b2), z2, z3, z4] ∧ M' = M)
  · intro N hN
    apply at_if (b := decide (b2 % 2 = 1) && !decide (s = ""))
    · walk_at "et"
    · intro h
      have hne : 1 ≤ s.length := by
        by_cases q : s.length = 0
        · exfalso
          have : s = "" := by
            cases s with | mk a =>
            have : a = #[] := by exact Array.eq_empty_of_size_eq_zero q
            rw [this]; rfl
          rw [this] at h
          simp at h
        · omega
      walk_at "asg"
      have h0 := Int.emod_nonneg (b2 / 2) (show ((s.length : Nat) : Int) ≠ 0 by omega)
      have h1 := Int.emod_lt_of_pos (b2 / 2) (show (0 : Int) < s.length by omega)
      walk_at "sq"
      apply at_ifI (x := (s.length : Int) - 1)
      · walk_at "et"
      · rfl
      · intro _; walk_at "ev"
      walk_at "q"
      generalize (if decide (b2 % 4 = 3) = true then (s.length : Int) - 1 else b2 / 2 % (s.length : Int)) = p
      have h2 := Int.emod_nonneg (b2 / 22) (show (20 : Int) ≠ 0 by decide)
      have h3 := Int.emod_lt_of_pos (b2 / 22) (show (0 : Int) < 20 by decide)
      have l1 := cutS_length s none (some p)
      have l2 := cutS_length s (some (p + 1)) none
      have ha : atI (" AZ_-.\n\t~{`\x40[/:09azq" : Str).cps.toList (b2 / 22 % 20) = some ((" AZ_-.\n\t~{`\x40[/:09azq" : Str).cps.toList.getD (b2 / 22 % 20).toNat 0) := atI_D 0 h2 (by
        have : (" AZ_-.\n\t~{`\x40[/:09azq" : Str).cps.toList.length = 20 := by decide +kernel
        omega)
      generalize (" AZ_-.\n\t~{`\x40[/:09azq" : Str).cps.toList.getD (b2 / 22 % 20).toNat 0 = ch at ha
      have l3 : (cutS s none (some p) ++ (⟨#[ch]⟩ : Str)).length = (cutS s none (some p)).length + 1 := by
        show Array.size (_ ++ _) = _
        rw [Array.size_append]; rfl
      have l4 : (cutS s none (some p) ++ (⟨#[ch]⟩ : Str) ++ cutS s (some (p + 1)) none).length = (cutS s none (some p)).length + 1 + (cutS s (some (p + 1)) none).length := by
        rw [← l3]
        show Array.size (_ ++ _) = _
        rw [Array.size_append]; rfl
      apply at_asg (d := .str (cutS s none (some p) ++ (⟨#[ch]⟩ : Str) ++ cutS s (some (p + 1)) none))
      · apply ed_op
        · apply ed_op
          · walk_at "ev"
          · apply ed_op
            · walk_at "ev"
            · walk_at "ev"
            · apply u_ixS
              · decide +kernel
              · exact ha
          · apply u_addS
            show _ + 1 ≤ _
            omega
        · walk_at "ev"
        · apply u_addS
          rw [l3]
          omega
      · walk_at "q"
        exact hN _ _ ⟨_, _, _, _, _, by rw [l4]; omega, rfl, rfl⟩
    · intro h
      walk_at "nx"
      exact hN _ _ ⟨s, _, _, _, _, by omega, rfl, rfl⟩
  rintro Γ' M2 ⟨s, z1, z2, z3, z4, hs, rfl, rfl⟩
  walk_at "q"
  -- one sign more ahead
  have h4 := Int.emod_nonneg (cellAt ns 2 / 3) (show (36 : Int) ≠ 0 by decide)
  have h5 := Int.emod_lt_of_pos (cellAt ns 2 / 3) (show (0 : Int) < 36 by decide)
  have l1 : ((⟨#[sgAt (cellAt ns 2 / 3 % 36)]⟩ : Str) ++ s).length = 1 + s.length := by
    show Array.size (_ ++ _) = _
    rw [Array.size_append]; rfl
  walk_at "sq"
  apply at_ifS (b := decide (cellAt ns 2 % 3 = 1)) (x := (⟨#[sgAt (cellAt ns 2 / 3 % 36)]⟩ : Str) ++ s)
  · apply et_test
    apply ed_op
    · apply ed_op
      · exact cell 2 (by walk_at "ev")
      · walk_at "ev"
      · walk_at "op"
    · walk_at "ev"
    · walk_at "op"
  · rfl
  · intro _
    apply ed_op
    · apply ed_op
      · walk_at "ev"
      · apply ed_op
        · apply ed_op
          · exact cell 2 (by walk_at "ev")
          · walk_at "ev"
          · walk_at "op"
        · walk_at "ev"
        · walk_at "op"
      · apply u_ixS
        · decide +kernel
        · exact at_sg h4 h5
    · walk_at "ev"
    · apply u_addS
      show 1 + _ ≤ _
      omega
  walk_at "q"
  have l2 : (if decide (cellAt ns 2 % 3 = 1) = true then (⟨#[sgAt (cellAt ns 2 / 3 % 36)]⟩ : Str) ++ s else s).length ≤ 40 := by split <;> omega
  generalize (if decide (cellAt ns 2 % 3 = 1) = true then (⟨#[sgAt (cellAt ns 2 / 3 % 36)]⟩ : Str) ++ s else s) = s at l2
  -- due
  walk_at "sq"
  apply at_asg (d := .bl (decide ((0 : Int) < s.length) && decide ((s.length : Int) < 9)))
  · walk_at "ev"
  walk_at "q"
  walk_at "sq"
  apply at_forR1 (n := s.length) (I := fun k Γ' M' => ∃ z1 z2, Γ' = [some (Dt.lsr (ns.map Dt.int)), some (Dt.str "abcdefghijklmnopqrstuvwxyz0123456789"), some (Dt.int b), some (Dt.int n), some (Dt.str s), z1, some (Dt.int b2), z2, some (Dt.bl ((decide ((0 : Int) < s.length) && decide ((s.length : Int) < 9)) && (List.range k).all (sgnOk s))), z4] ∧ M' = M2)
  · walk_at "ea"
  · omega
  · refine ⟨z1, z2, ?_, rfl⟩
    rw [List.range_zero, List.all_nil, Bool.and_true]
  · rintro k Γ' M' hk ⟨z1, z2, rfl, rfl⟩
    apply atg_name
    walk_at "q"
    have hks : (k : Int) < s.cps.toList.length := by rw [cps_len]; omega
    have ha : atI s.cps.toList (k : Int) = some (s.cps.toList.getD k 0) := atI_D 0 (by omega) hks
    generalize hD : (decide ((0 : Int) < s.length) && decide ((s.length : Int) < 9)) = d0
    apply at_ifB (b := !sgnOk s k) (x := false)
    · apply et_test
      have hsg : sgnOk s k = decide (s.cps.toList.getD k 0 ∈ (cutS "abcdefghijklmnopqrstuvwxyz0123456789" none (some (if (k : Int) = 0 then 26 else 36))).cps.toList) := by
        unfold sgnOk
        by_cases hp : k = 0
        · rw [if_pos hp, if_pos (by omega), cut26]
        · rw [if_neg hp, if_neg (by omega), cut36]
      rw [hsg]
      · apply ed_op
        · apply ed_op
          · walk_at "ev"
          · walk_at "ev"
          · exact u_ixS (by omega) ha
        · apply ed_slS
          · walk_at "ev"
          · decide +kernel
          · exact ep_none
          · apply ep_some
            apply ed_op
            · walk_at "ev"
            · walk_at "ev"
            · apply u_ixL
              · walk_at "lst"
              · show atI [Dt.int 36, Dt.int 26] (if decide ((k : Int) = 0) = true then 1 else 0) = some (Dt.int (if (k : Int) = 0 then 26 else 36))
                by_cases hp : (k : Int) = 0
                · rw [if_pos hp, if_pos (decide_eq_true hp)]; rfl
                · rw [if_neg hp, if_neg (by simpa using hp)]; rfl
        · exact u_niS
    · rfl
    · intro _; walk_at "ev"
    walk_at "q"
    apply up_of
    refine ⟨some (.int k), z2, ?_, rfl⟩
    rw [List.range_succ, List.all_append]
    cases hsg : sgnOk s k <;> simp [hsg]
  rintro Γ' M' ⟨z1, z2, rfl, rfl⟩
  walk_at "q"
  walk_at "sq"
  apply at_asg (d := .bl (isNm s))
  · apply evd_call
    · walk_at "ea"
    · exact ⟨s, rfl, by omega, rfl, rfl⟩
  walk_at "q"
  apply at_ret
  · apply ed_andV
    · walk_at "ev"
    · intro _
      walk_at "ev"
  · rw [isNm_law]
    simpa using hQ _ _ hR
theorem ok_law (c : Cxt K mg) : FnG P w K mg base (He.ga K "law") ["_law_script"] 2 T_law := by
  obtain ⟨fd, F⟩ := F_law c
  exact ⟨⟨fd, okF_law c F, F.bindsN fun _ _ _ _ _ _ us hl => match us, hl with | [_], _ => rfl⟩, F.kp⟩
end
abbrev Rw : PySem.W.OpenRow := PySem.W.OpenLaw.row PySem.Challenge.rw_tollguess_k01_names
def loose0 : List PySem.Str := ["SMALL", "FIGURES", "MOST_SIGNS", "is_name", "_law_cell_at"]
def loose : List PySem.Str := loose0
abbrev hk : PySem.W.Hook := He.hookD 6 fa fn
def ob (s : PySem.W.SharedT) : He.AlD := He.obsDG 6 fa fn (HandSHeadRun.getT s)
theorem ob_eq (s : PySem.W.SharedT) : ob s = hk.obs s.abs := He.obsDG_eq (HandSHeadRun.getT_eq s)
theorem run (w : World) : HandSHeadRun.RunEq Rw (PySem.W.view Rw.prog [7]) hk ob 4000 loose w := by
  intro os
  kernel_rfl
theorem facts {P : Program} {w : World} {K : PySem.W.Frag} {h : Heap} {mg : Str → Option Value} {f : Addr} (X : K.In h) (G : h.Ns mainGlobals mg) (hfa : mg ("law" : Str) = some (.ref f)) (c : He.SaysD fa fn K) :
    ∃ fd : FuncData, (∀ (s : Shared) (v : Value), BindsTo s fd ⟨[v], []⟩ [("_law_script", v)]) ∧ ∀ base : Heap, K.In base → base.Ns mainGlobals mg → FnOk P w K mg base (L2.CX P w) 2 f fd ["_law_script"] (Vl.spT K T_law) := by
  have cx : Cxt K mg := ⟨⟨h, X, G⟩, c⟩
  obtain ⟨fd, F⟩ := F_law cx
  have e := hfa.symm.trans (g_law cx)
  cases e
  have b := FunD.bindsA (ps := ["_law_script"]) F fun _ _ _ _ _ _ us hl => match us, hl with | [_], _ => rfl
  exact ⟨fd, fun s v => b s [v] rfl, fun base hb hg => okF_law cx F⟩
end Tg
open PySem PySem.W PySem.Calls PyProof.Rows
theorem PySem.Challenge.cw_tollguess_k01_names_holds : PySem.Challenge.rw_tollguess_k01_names.Holds := by
  w_on; o_law
  refine HandSHeadRun.head_any (r := PySem.W.OpenLaw.row PySem.Challenge.rw_tollguess_k01_names) (q := view (PySem.W.OpenLaw.row PySem.Challenge.rw_tollguess_k01_names).prog [7]) (H := Tg.hk) (ob := Tg.ob) (M := 4000) (loose := Tg.loose) (d := HandSHeadRun.topDef (PySem.W.OpenLaw.row PySem.Challenge.rw_tollguess_k01_names).prog 7) (kwd := []) Tg.ob_eq
    (by kernel_rfl) (fun s => by kernel_rfl) Tg.run (by kernel_rfl) (by kernel_rfl) (by kernel_rfl) (by rfl) (by first | assumption | decide +kernel) (by decide +kernel) ⟨rfl, rfl, rfl, rfl, rfl, by decide +kernel⟩ ?hw ?hc
  case hw => w_witness2
  case hc =>
    apply Vl.lawWalk (T := Tg.T_law) (k := 2) rfl (by kernel_rfl) (show L2.Room 2 callerA from ⟨rfl, by decide, by decide⟩) ?F (fun ns hl => ⟨ns, rfl, hl, rfl⟩)
    intro w mg fa h Y G hmg0
    obtain ⟨K, KX, c⟩ := Y
    have hmg : mg ("law" : PySem.Str) = some (.ref fa) := by
      have e : (HandSHeadRun.topDef (PySem.W.OpenLaw.row PySem.Challenge.rw_tollguess_k01_names).prog 7).name = ("law" : PySem.Str) := by kernel_rfl
      rw [← e]
      exact hmg0
    obtain ⟨fd, hb, hF⟩ := Tg.facts KX G hmg c
    exact ⟨K, fd, KX, hb, hF⟩
