import PyProof.Rows.All
import Wide.All
import OpenK.AllK
import Wide.FinOn
import KE.KStateDown
import Lean
import HandS.Conv
import HandS.Deep
import HandS.Defaults
import HandS.ForMost
import HandS.IsInst
import HandS.Style
import HandS.Walk
import HandS.WideBits
import HandS.WordsExc
import HandS.Head0
import HandS.Head1
import HandS.Head2
import HandS.HeadEnd
import HandS.HeadHook1
import HandS.HeadHook2
import HandS.HeadHook3
import HandS.HeadHook4
import PySem.Challenge.RW_modulusfields_k43_whole_residues_turned
set_option Elab.async false
set_option linter.all false
set_option maxRecDepth 100000
set_option maxHeartbeats 4000000
set_option autoImplicit false
set_option maxHeartbeats 2000000
/-! QL: a layer of denotations over the hand layer. Data are PyData trees; a def's meaning is a total function. -/
namespace QL
open PySem PySem.Spec PyProof.Rows L2

abbrev PD := PyData
/-! ### heaps -/
def Ex (H H' : Hp) : Prop := ∀ a o, H a = some o → H' a = some o
theorem Ex.refl (H : Hp) : Ex H H := fun _ _ h => h
theorem Ex.trans {H H1 H2 : Hp} (a : Ex H H1) (b : Ex H1 H2) : Ex H H2 := fun x o h => b x o (a x o h)
theorem Ex.new {H : Hp} {p : Addr} {o : HO} (h : H p = none) : Ex H (upd H p o) := fun a u e => by
  rw [upd_ne (ne_of_none e h)]; exact e
theorem Ex.mut {H H' : Hp} {p : Addr} {o : HO} (e : Ex H H') (h : H p = none) : Ex H (upd H' p o) := fun a u ha => by
  rw [upd_ne (ne_of_none ha h)]; exact e a u ha
theorem Ex.free {H H' : Hp} {p : Addr} (e : Ex H H') (h : H' p = none) : H p = none := by
  cases h1 : H p with
  | none => rfl
  | some o => rw [e p o h1] at h; cases h
/-- the heap without the shared object -/
def hid (g : Option Addr) (H : Hp) : Hp := fun a => if g = some a then none else H a
theorem hid_none (H : Hp) : hid none H = H := by funext a; simp [hid]
theorem hid_ne {g : Option Addr} {H : Hp} {a : Addr} (h : g ≠ some a) : hid g H a = H a := by simp [hid, h]
theorem hid_self {H : Hp} {a : Addr} : hid (some a) H a = none := by simp [hid]
theorem hid_ex {g : Option Addr} {H : Hp} : Ex (hid g H) H := fun a o h => by
  unfold hid at h; split at h
  · cases h
  · exact h
theorem hid_some {g : Option Addr} {H : Hp} {a : Addr} {o : HO} (h : hid g H a = some o) : g ≠ some a ∧ H a = some o := by
  unfold hid at h; split at h
  · cases h
  · rename_i q; exact ⟨q, h⟩
theorem SqL_ex {K : PySem.W.Frag} {H H' : Hp} {a : Addr} {xs : List V} (e : Ex H H') (h : SqL K H a xs) : SqL K H' a xs := Same.seq e h
theorem SqT_ex {K : PySem.W.Frag} {H H' : Hp} {a : Addr} {xs : List V} (e : Ex H H') (h : SqT K H a xs) : SqT K H' a xs := by
  rcases h with (h | ⟨o, h⟩) | h
  · exact .inl (.inl (e _ _ h))
  · exact .inl (.inr ⟨o, e _ _ h⟩)
  · exact .inr h

/-! ### what stands for data -/
mutual
inductive Rp (K : PySem.W.Frag) (H : Hp) : V → PyData → Prop
  | non : Rp K H .non .none
  | bl (b : Bool) : Rp K H (.bl b) (.bool b)
  | int (i : Int) : Rp K H (.int i) (.int i)
  | str (x : Str) : Rp K H (.str x) (.str x)
  | lst {a : Addr} {xs : List V} {ds : List PyData} : H a = some (.lst xs) → RpL K H xs ds → Rp K H (.ref a) (.list ds)
  | tup {a : Addr} {xs : List V} {ds : List PyData} : SqT K H a xs → RpL K H xs ds → Rp K H (.ref a) (.tuple ds)
inductive RpL (K : PySem.W.Frag) (H : Hp) : List V → List PyData → Prop
  | nil : RpL K H [] []
  | cons {v : V} {vs : List V} {d : PyData} {ds : List PyData} : Rp K H v d → RpL K H vs ds → RpL K H (v :: vs) (d :: ds)
end
section
variable {K : PySem.W.Frag} {H H' : Hp}
mutual
theorem Rp.mono (e : Ex H H') : ∀ {v : V} {d : PyData}, Rp K H v d → Rp K H' v d
  | _, _, .non => .non
  | _, _, .bl b => .bl b
  | _, _, .int i => .int i
  | _, _, .str x => .str x
  | _, _, .lst h r => .lst (e _ _ h) (RpL.mono e r)
  | _, _, .tup h r => .tup (SqT_ex e h) (RpL.mono e r)
theorem RpL.mono (e : Ex H H') : ∀ {v : List V} {d : List PyData}, RpL K H v d → RpL K H' v d
  | _, _, .nil => .nil
  | _, _, .cons a b => .cons (Rp.mono e a) (RpL.mono e b)
end
mutual
theorem Rp.dp : ∀ {v : V} {d : PyData}, Rp K H v d → Dp K H v d
  | _, _, .non => .non
  | _, _, .bl b => .bl b
  | _, _, .int i => .int i
  | _, _, .str x => .str x
  | _, _, .lst h r => .lst (SqL.of h) (RpL.dp r)
  | _, _, .tup h r => .tup h (RpL.dp r)
theorem RpL.dp : ∀ {v : List V} {d : List PyData}, RpL K H v d → DpAll K H v d
  | _, _, .nil => .nil
  | _, _, .cons a b => .cons (Rp.dp a) (RpL.dp b)
end
theorem RpL.length : ∀ {vs : List V} {ds : List PyData}, RpL K H vs ds → vs.length = ds.length
  | _, _, .nil => rfl
  | _, _, .cons _ r => congrArg (· + 1) r.length
theorem RpL.get : ∀ {vs : List V} {ds : List PyData} {i : Nat} {d : PyData}, RpL K H vs ds → ds[i]? = some d → ∃ v, vs[i]? = some v ∧ Rp K H v d
  | _, _, _, _, .nil, e => by simp at e
  | _, _, 0, _, .cons r _, e => by simp at e; subst e; exact ⟨_, rfl, r⟩
  | _, _, i + 1, d, .cons _ t, e => by
    obtain ⟨u, h1, h2⟩ := RpL.get (i := i) (d := d) t (by simpa using e)
    exact ⟨u, by simpa using h1, h2⟩
theorem RpL.getv : ∀ {vs : List V} {ds : List PyData} {i : Nat} {v : V}, RpL K H vs ds → vs[i]? = some v → ∃ d, ds[i]? = some d ∧ Rp K H v d
  | _, _, _, _, .nil, e => by simp at e
  | _, _, 0, _, .cons r _, e => by simp at e; subst e; exact ⟨_, rfl, r⟩
  | _, _, i + 1, d, .cons _ t, e => by
    obtain ⟨u, h1, h2⟩ := RpL.getv (i := i) (v := d) t (by simpa using e)
    exact ⟨u, by simpa using h1, h2⟩
theorem RpL.append : ∀ {a b : List V} {c d : List PyData}, RpL K H a c → RpL K H b d → RpL K H (a ++ b) (c ++ d)
  | _, _, _, _, .nil, s => s
  | _, _, _, _, .cons r t, s => .cons r (t.append s)
theorem RpL.set {x : V} {u : PyData} (r : Rp K H x u) : ∀ {xs : List V} {us : List PyData} (i : Nat), RpL K H xs us → RpL K H (xs.set i x) (us.set i u)
  | _, _, _, .nil => .nil
  | _, _, 0, .cons _ t => .cons r t
  | _, _, i + 1, .cons q t => .cons q (RpL.set r i t)
theorem RpL.take : ∀ {xs : List V} {us : List PyData} (n : Nat), RpL K H xs us → RpL K H (xs.take n) (us.take n)
  | _, _, 0, _ => .nil
  | _, _, _ + 1, .nil => .nil
  | _, _, n + 1, .cons r t => .cons r (RpL.take n t)
theorem RpL.drop : ∀ {xs : List V} {us : List PyData} (n : Nat), RpL K H xs us → RpL K H (xs.drop n) (us.drop n)
  | _, _, 0, r => r
  | _, _, _ + 1, .nil => .nil
  | _, _, n + 1, .cons _ t => RpL.drop n t
theorem RpL.dropLast {xs : List V} {us : List PyData} (r : RpL K H xs us) : RpL K H xs.dropLast us.dropLast := by
  rw [List.dropLast_eq_take, List.dropLast_eq_take, r.length]; exact r.take _
theorem RpL.rep {x : V} {d : PyData} (r : Rp K H x d) : ∀ n, RpL K H (List.replicate n x) (List.replicate n d)
  | 0 => .nil
  | n + 1 => .cons r (RpL.rep r n)
theorem RpL.repL {xs : List V} {ds : List PyData} (r : RpL K H xs ds) : ∀ n, RpL K H (List.replicate n xs).flatten (List.replicate n ds).flatten
  | 0 => .nil
  | n + 1 => by
    rw [List.replicate_succ, List.replicate_succ, List.flatten_cons, List.flatten_cons]
    exact r.append (RpL.repL r n)
theorem RpL.reverse : ∀ {xs : List V} {us : List PyData}, RpL K H xs us → RpL K H xs.reverse us.reverse
  | _, _, .nil => .nil
  | _, _, .cons r t => by
    rw [List.reverse_cons, List.reverse_cons]
    exact t.reverse.append (.cons r .nil)
/-- a list of ints -/
def ints? : List PyData → Option (List Int)
  | [] => some []
  | .int i :: r => (ints? r).map (i :: ·)
  | _ => none
theorem RpL.ints : ∀ {vs : List V} {ds : List PyData} {ns : List Int}, RpL K H vs ds → ints? ds = some ns → vs = ns.map V.int
  | _, _, _, .nil, e => by cases e; rfl
  | _, d :: ds, ns, .cons r t, e => by
    cases r with
    | int i =>
      have e1 : (ints? ds).map (i :: ·) = some ns := e
      obtain ⟨m, hm, e2⟩ := Option.map_eq_some_iff.mp e1
      rw [t.ints hm, ← e2]
      rfl
    | _ => cases e
theorem RpL.of_ints : ∀ (ns : List Int), RpL K H (ns.map V.int) (ns.map PyData.int)
  | [] => .nil
  | i :: r => .cons (.int i) (RpL.of_ints r)
end

/-! ### slots -/
inductive SV where
  | no
  | val (d : PyData)
  /-- a list that this slot alone names, its items data -/
  | own (ds : List PyData)
  /-- the shared object -/
  | gen
  /-- the script -/
  | scr (ns : List Int)
abbrev Sl := List SV
abbrev GS := List PyData
/-- the frame: the shared object's address, the entry's data heap and heap -/
structure Fr where
  g : Option Addr
  Hi0 : Hp
  H0 : Hp
def SvR (K : PySem.W.Frag) (fr : Fr) (Hi H : Hp) (x : Option (Option V)) : SV → Prop
  | .no => True
  | .val d => ∃ v, x = some (some v) ∧ Rp K Hi v d
  | .own ds => ∃ a vs, x = some (some (.ref a)) ∧ H a = some (.lst vs) ∧ RpL K Hi vs ds ∧ Hi a = none ∧ fr.g ≠ some a ∧ fr.H0 a = none
  | .gen => ∃ a, x = some (some (.ref a)) ∧ fr.g = some a
  | .scr ns => ∃ a, x = some (some (.ref a)) ∧ SqL K Hi a (ns.map V.int)
structure Rl (K : PySem.W.Frag) (fr : Fr) (Hi H : Hp) (σ : L2.St) (sl : Sl) (G : GS) : Prop where
  sub : Ex Hi H
  hi : Ex fr.Hi0 Hi
  nw : ∀ a, Hi a ≠ none → fr.Hi0 a = none → fr.H0 a = none
  keep : Ex (hid fr.g fr.H0) (hid fr.g H)
  len : σ.length = sl.length
  at_ : ∀ (i : Nat) (s : SV), sl[i]? = some s → SvR K fr Hi H σ[i]? s
  inj : ∀ (i j : Nat) (ds es : List PyData), sl[i]? = some (.own ds) → sl[j]? = some (.own es) → σ[i]? = σ[j]? → i = j
  gen : ∀ a, fr.g = some a → Hi a = none ∧ ∃ vs, H a = some (.lst vs) ∧ RpL K Hi vs G
/-- a step: data stay, all objects but the shared one stay -/
structure Nx (fr : Fr) (Hi H Hi' H' : Hp) : Prop where
  hi : Ex Hi Hi'
  h : Ex (hid fr.g H) (hid fr.g H')
  nw : ∀ a, fr.g ≠ some a → Hi' a ≠ none → Hi a = none → H a = none
theorem Nx.refl {fr : Fr} {Hi H : Hp} : Nx fr Hi H Hi H := ⟨Ex.refl _, Ex.refl _, fun _ _ h1 h2 => (h1 h2).elim⟩
theorem Nx.free {fr : Fr} {Hi H Hi' H' : Hp} {p : Addr} (n : Nx fr Hi H Hi' H') (g : fr.g ≠ some p) (h : H' p = none) : H p = none := by
  have h5 : hid fr.g H' p = none := by rw [hid_ne g]; exact h
  have h6 := n.h.free h5
  rwa [hid_ne g] at h6
theorem Nx.at_ {fr : Fr} {Hi H Hi' H' : Hp} {p : Addr} {o : HO} (n : Nx fr Hi H Hi' H') (g : fr.g ≠ some p) (h : H p = some o) : H' p = some o := by
  have := n.h p o (by rw [hid_ne g]; exact h)
  rwa [hid_ne g] at this
theorem Nx.trans {fr : Fr} {Hi H Hi1 H1 Hi2 H2 : Hp} (a : Nx fr Hi H Hi1 H1) (b : Nx fr Hi1 H1 Hi2 H2) : Nx fr Hi H Hi2 H2 := ⟨a.hi.trans b.hi, a.h.trans b.h, fun p g h1 h2 => by
  cases e : Hi1 p with
  | none => exact a.free g (b.nw p g h1 e)
  | some o => exact a.nw p g (by rw [e]; simp) h2⟩
/-- data that stand apart from what is tracked stay apart -/
theorem Nx.apart {fr : Fr} {Hi H Hi' H' : Hp} {p : Addr} {o : HO} (n : Nx fr Hi H Hi' H') (g : fr.g ≠ some p) (h : H p = some o) (hi : Hi p = none) : Hi' p = none := by
  cases e : Hi' p with
  | none => rfl
  | some u =>
    have := n.nw p g (by rw [e]; simp) hi
    rw [h] at this; cases this
section
variable {K : PySem.W.Frag} {fr : Fr} {Hi H Hi' H' : Hp} {σ : L2.St} {sl : Sl} {G G' : GS} {v : V} {d : PyData} {ds : List PyData} {i : Nat} {p : Addr} {o : HO} {xs : List V}
theorem Rl.gne (R : Rl K fr Hi H σ sl G) (h : H p = none) : fr.g ≠ some p := fun e => by
  obtain ⟨_, vs, q, _⟩ := R.gen p e
  rw [h] at q; cases q
theorem Rl.hifree (R : Rl K fr Hi H σ sl G) (h : H p = none) : Hi p = none := R.sub.free h
theorem Rl.h0free (R : Rl K fr Hi H σ sl G) (h : H p = none) : fr.H0 p = none := by
  have h1 : hid fr.g H p = none := by rw [hid_ne (R.gne h)]; exact h
  have h2 := R.keep.free h1
  rwa [hid_ne (R.gne h)] at h2
/-- the objects that data speak of are not the shared one -/
theorem Rl.hig (R : Rl K fr Hi H σ sl G) (h : Hi p ≠ none) : fr.g ≠ some p := fun e => h (R.gen p e).1
theorem Rl.subh (R : Rl K fr Hi H σ sl G) : Ex Hi (hid fr.g H) := fun a o e => by
  rw [hid_ne (R.hig (by rw [e]; simp))]; exact R.sub a o e
/-- new state: data heap and heap grown -/
theorem Rl.step (R : Rl K fr Hi H σ sl G) (n : Nx fr Hi H Hi' H') (sub : Ex Hi' H') (gen : ∀ a, fr.g = some a → Hi' a = none ∧ ∃ vs, H' a = some (.lst vs) ∧ RpL K Hi' vs G') :
    Rl K fr Hi' H' σ sl G' where
  sub := sub
  hi := R.hi.trans n.hi
  nw := fun a h1 h2 => by
    cases e : Hi a with
    | none => exact R.h0free (n.nw a (fun z => h1 (gen a z).1) h1 e)
    | some o => exact R.nw a (by rw [e]; simp) h2
  keep := R.keep.trans n.h
  len := R.len
  at_ := fun i s h => by
    have q := R.at_ i s h
    cases s with
    | no => trivial
    | val d => obtain ⟨v, e, r⟩ := q; exact ⟨v, e, r.mono n.hi⟩
    | own ds =>
      obtain ⟨a, vs, e, h1, r, h2, h3, h4⟩ := q
      exact ⟨a, vs, e, n.at_ h3 h1, r.mono n.hi, n.apart h3 h1 h2, h3, h4⟩
    | gen => exact q
    | scr ns => obtain ⟨a, e, r⟩ := q; exact ⟨a, e, SqL_ex n.hi r⟩
  inj := R.inj
  gen := gen
theorem Rl.gen_of (R : Rl K fr Hi H σ sl G) (n : Nx fr Hi H Hi' H') (nw : ∀ a, fr.g = some a → Hi' a ≠ none → Hi a = none → H a = none) (hg : ∀ a, fr.g = some a → H' a = H a) : ∀ a, fr.g = some a → Hi' a = none ∧ ∃ vs, H' a = some (.lst vs) ∧ RpL K Hi' vs G := fun a e => by
  obtain ⟨h1, vs, h2, r⟩ := R.gen a e
  refine ⟨?_, vs, (hg a e).trans h2, r.mono n.hi⟩
  cases q : Hi' a with
  | none => rfl
  | some o =>
    have := nw a e (by rw [q]; simp) h1
    rw [h2] at this; cases this
/-- an object is laid that is no datum -/
theorem Rl.lay (R : Rl K fr Hi H σ sl G) (h : H p = none) : Nx fr Hi H Hi (upd H p o) ∧ Rl K fr Hi (upd H p o) σ sl G := by
  have n : Nx fr Hi H Hi (upd H p o) := ⟨Ex.refl _, fun a u e => by
    obtain ⟨e1, e2⟩ := hid_some e
    rw [hid_ne e1, upd_ne (ne_of_none e2 h)]; exact e2, fun _ _ h1 h2 => (h1 h2).elim⟩
  refine ⟨n, R.step n (fun a u e => ?_) (R.gen_of n (fun a _ h1 h2 => (h1 h2).elim) fun a e => ?_)⟩
  · rw [upd_ne (ne_of_none (R.sub a u e) h)]; exact R.sub a u e
  · exact upd_ne fun q => R.gne h (by rw [← q]; exact e)
/-- a new datum is laid -/
theorem Rl.laid (R : Rl K fr Hi H σ sl G) (h : H p = none) : Nx fr Hi H (upd Hi p o) (upd H p o) ∧ Rl K fr (upd Hi p o) (upd H p o) σ sl G := by
  have hn := R.hifree h
  have nw : ∀ a, upd Hi p o a ≠ none → Hi a = none → H a = none := fun a h1 h2 => by
    by_cases e : a = p
    · rw [e]; exact h
    · rw [upd_ne e] at h1; exact (h1 h2).elim
  have n : Nx fr Hi H (upd Hi p o) (upd H p o) := ⟨Ex.new hn, fun a u e => by
    obtain ⟨e1, e2⟩ := hid_some e
    rw [hid_ne e1, upd_ne (ne_of_none e2 h)]; exact e2, fun a _ => nw a⟩
  refine ⟨n, R.step n (fun a u e => ?_) (R.gen_of n (fun a _ => nw a) fun a e => ?_)⟩
  · by_cases q : a = p
    · subst q; rw [upd_same] at e ⊢; exact e
    · rw [upd_ne q] at e ⊢; exact R.sub a u e
  · exact upd_ne fun q => R.gne h (by rw [← q]; exact e)
/-- an object that is there becomes a datum (none owns it) -/
theorem Rl.become (R : Rl K fr Hi H σ sl G) (h : H p = some o) (hn : Hi p = none) (hg : fr.g ≠ some p) (h0 : fr.H0 p = none) (ho : ∀ (i : Nat) (ds : List PyData), sl[i]? = some (.own ds) → σ[i]? ≠ some (some (.ref p))) : Rl K fr (upd Hi p o) H σ sl G where
  sub := fun a u e => by
    by_cases q : a = p
    · subst q; rw [upd_same] at e; rw [h, e]
    · rw [upd_ne q] at e; exact R.sub a u e
  hi := R.hi.trans (Ex.new hn)
  nw := fun a h1 h2 => by
    by_cases q : a = p
    · rw [q]; exact h0
    · rw [upd_ne q] at h1; exact R.nw a h1 h2
  keep := R.keep
  len := R.len
  at_ := fun i s hs => by
    have q := R.at_ i s hs
    cases s with
    | no => trivial
    | val d => obtain ⟨v, e, r⟩ := q; exact ⟨v, e, r.mono (Ex.new hn)⟩
    | own ds =>
      obtain ⟨a, vs, e, h1, r, h2, h3, h4⟩ := q
      refine ⟨a, vs, e, h1, r.mono (Ex.new hn), ?_, h3, h4⟩
      rw [upd_ne fun z => ho i ds hs (by rw [← z]; exact e)]; exact h2
    | gen => exact q
    | scr ns => obtain ⟨a, e, r⟩ := q; exact ⟨a, e, SqL_ex (Ex.new hn) r⟩
  inj := R.inj
  gen := fun a e => by
    obtain ⟨h1, vs, h2, r⟩ := R.gen a e
    exact ⟨by rw [upd_ne fun z => hg (by rw [← z]; exact e)]; exact h1, vs, h2, r.mono (Ex.new hn)⟩
theorem get_set {α : Type} {l : List α} {i j : Nat} {x y : α} (h : (l.set i x)[j]? = some y) : (i = j ∧ i < l.length ∧ x = y) ∨ (i ≠ j ∧ l[j]? = some y) := by
  rw [List.getElem?_set] at h
  split at h
  · rename_i e
    split at h
    · rename_i q; exact .inl ⟨e, q, Option.some.inj h⟩
    · cases h
  · rename_i e; exact .inr ⟨e, h⟩
theorem Rl.setAt (R : Rl K fr Hi H σ sl G) {s : SV} (hs : ∀ ds, s ≠ .own ds) (hv : s ≠ .no → SvR K fr Hi H (some (some v)) s) : Rl K fr Hi H (σ.set i (some v)) (sl.set i s) G where
  sub := R.sub
  hi := R.hi
  nw := R.nw
  keep := R.keep
  len := by simp [R.len]
  at_ := fun j t h => by
    rcases get_set h with ⟨e, hl, q⟩ | ⟨e, q⟩
    · subst e; subst q
      rw [List.getElem?_set_self (by rw [R.len]; exact hl)]
      cases s with
      | no => trivial
      | _ => exact hv (by simp)
    · rw [List.getElem?_set_ne e]; exact R.at_ j t q
  inj := fun j k ds es h1 h2 e => by
    rcases get_set h1 with ⟨_, _, q⟩ | ⟨e1, q1⟩
    · exact (hs ds q).elim
    · rcases get_set h2 with ⟨_, _, q⟩ | ⟨e2, q2⟩
      · exact (hs es q).elim
      · rw [List.getElem?_set_ne e1, List.getElem?_set_ne e2] at e
        exact R.inj j k ds es q1 q2 e
  gen := R.gen
theorem Rl.setVal (R : Rl K fr Hi H σ sl G) (r : Rp K Hi v d) : Rl K fr Hi H (σ.set i (some v)) (sl.set i (.val d)) G :=
  R.setAt (fun _ z => by cases z) fun _ => ⟨v, rfl, r⟩
theorem Rl.setNo (R : Rl K fr Hi H σ sl G) : Rl K fr Hi H (σ.set i (some v)) (sl.set i .no) G :=
  R.setAt (fun _ z => by cases z) fun z => (z rfl).elim
theorem Rl.setOwn (R : Rl K fr Hi H σ sl G) (h : H p = some (.lst xs)) (r : RpL K Hi xs ds) (hn : Hi p = none) (hg : fr.g ≠ some p) (h0 : fr.H0 p = none) (ho : ∀ (j : Nat) (es : List PyData), j ≠ i → sl[j]? = some (.own es) → σ[j]? ≠ some (some (.ref p))) :
    Rl K fr Hi H (σ.set i (some (.ref p))) (sl.set i (.own ds)) G where
  sub := R.sub
  hi := R.hi
  nw := R.nw
  keep := R.keep
  len := by simp [R.len]
  at_ := fun j t h1 => by
    rcases get_set h1 with ⟨e, hl, q⟩ | ⟨e, q⟩
    · subst e; subst q
      rw [List.getElem?_set_self (by rw [R.len]; exact hl)]
      exact ⟨p, xs, rfl, h, r, hn, hg, h0⟩
    · rw [List.getElem?_set_ne e]; exact R.at_ j t q
  inj := fun j k ds' es h1 h2 e => by
    rcases get_set h1 with ⟨e1, hl, q⟩ | ⟨e1, q1⟩
    · rcases get_set h2 with ⟨e2, _, q2⟩ | ⟨e2, q2⟩
      · exact e1.symm.trans e2
      · subst e1
        rw [List.getElem?_set_self (by rw [R.len]; exact hl), List.getElem?_set_ne e2] at e
        exact (ho k es (Ne.symm e2) q2 e.symm).elim
    · rcases get_set h2 with ⟨e2, hl, q2⟩ | ⟨e2, q2⟩
      · subst e2
        rw [List.getElem?_set_self (by rw [R.len]; exact hl), List.getElem?_set_ne e1] at e
        exact (ho j ds' (Ne.symm e1) q1 e).elim
      · rw [List.getElem?_set_ne e1, List.getElem?_set_ne e2] at e
        exact R.inj j k ds' es q1 q2 e
  gen := R.gen
/-- no slot owns a new address -/
theorem Rl.unown (R : Rl K fr Hi H σ sl G) (h : H p = none) (j : Nat) (es : List PyData) (hs : sl[j]? = some (.own es)) : σ[j]? ≠ some (some (.ref p)) := fun e => by
  obtain ⟨a, vs, e1, h1, _⟩ := R.at_ j _ hs
  rw [e1] at e
  injection e with e2
  injection e2 with e3
  injection e3 with e4
  rw [e4, h] at h1; cases h1
theorem Rl.slot (R : Rl K fr Hi H σ sl G) (h : sl[i]? = some (.val d)) : ∃ v, σ[i]? = some (some v) ∧ Rp K Hi v d := R.at_ i _ h
theorem Rl.slotOwn (R : Rl K fr Hi H σ sl G) (h : sl[i]? = some (.own ds)) : ∃ a vs, σ[i]? = some (some (.ref a)) ∧ H a = some (.lst vs) ∧ RpL K Hi vs ds ∧ Hi a = none ∧ fr.g ≠ some a ∧ fr.H0 a = none := R.at_ i _ h
/-- the list that a slot owns is changed -/
theorem Rl.change (R : Rl K fr Hi H σ sl G) (h : sl[i]? = some (.own ds)) {a : Addr} {vs ys : List V} {es : List PyData} (ha : σ[i]? = some (some (.ref a))) (hH : H a = some (.lst vs)) (r : RpL K Hi ys es) : Rl K fr Hi (upd H a (.lst ys)) σ (sl.set i (.own es)) G := by
  obtain ⟨a', vs', e1, h1, r1, h2, h3, h4⟩ := R.slotOwn h
  have ea : a' = a := by
    rw [e1] at ha
    injection ha with q; injection q with q; injection q
  subst ea
  have hl : i < sl.length := (List.getElem?_eq_some_iff.mp h).1
  refine ⟨fun b u e => ?_, R.hi, R.nw, fun b u e => ?_, by simp [R.len], fun j t hj => ?_, fun j k ds' es' hj hk e => ?_, fun b e => ?_⟩
  · rw [upd_ne fun z => by rw [z, h2] at e; cases e]; exact R.sub b u e
  · obtain ⟨q1, q2⟩ := hid_some (R.keep b u e)
    rw [hid_ne q1, upd_ne fun z => by
      obtain ⟨z1, z2⟩ := hid_some e
      rw [z, h4] at z2; cases z2]
    exact q2
  · rcases get_set hj with ⟨e, _, q⟩ | ⟨e, q⟩
    · subst e; subst q
      exact ⟨a', ys, e1, upd_same, r, h2, h3, h4⟩
    · have z := R.at_ j t q
      cases t with
      | own ds2 =>
        obtain ⟨b, ws, e2, k1, k2, k3, k4, k5⟩ := z
        refine ⟨b, ws, e2, ?_, k2, k3, k4, k5⟩
        rw [upd_ne fun z => e (R.inj i j ds ds2 h q (by rw [e1, e2, z]))]; exact k1
      | _ => exact z
  · have cv : ∀ (m : Nat) (cs : List PyData), (sl.set i (.own es))[m]? = some (.own cs) → ∃ cs', sl[m]? = some (.own cs') := fun m cs hm => by
      rcases get_set hm with ⟨e, _, q⟩ | ⟨e, q⟩
      · subst e; exact ⟨ds, h⟩
      · exact ⟨cs, q⟩
    obtain ⟨c1, q1⟩ := cv j ds' hj
    obtain ⟨c2, q2⟩ := cv k es' hk
    exact R.inj j k c1 c2 q1 q2 e
  · obtain ⟨g1, ws, g2, g3⟩ := R.gen b e
    exact ⟨g1, ws, by rw [upd_ne fun z => h3 (by rw [← z]; exact e)]; exact g2, g3⟩
/-- the shared list is changed -/
theorem Rl.genSet (R : Rl K fr Hi H σ sl G) {a : Addr} (e : fr.g = some a) {ys : List V} {es : GS} (r : RpL K Hi ys es) : Rl K fr Hi (upd H a (.lst ys)) σ sl es := by
  obtain ⟨h1, vs, h2, _⟩ := R.gen a e
  have keep : ∀ b u, hid fr.g H b = some u → hid fr.g (upd H a (.lst ys)) b = some u := fun b u q => by
    obtain ⟨q1, q2⟩ := hid_some q
    rw [hid_ne q1, upd_ne fun z => q1 (by rw [z]; exact e)]; exact q2
  refine R.step ⟨Ex.refl _, keep, fun b _ k1 k2 => (k1 k2).elim⟩ (fun b u q => ?_) fun b q => ?_
  · rw [upd_ne fun z => by rw [z, h1] at q; cases q]; exact R.sub b u q
  · have : b = a := by rw [e] at q; exact (Option.some.inj q).symm
    subst this
    exact ⟨h1, ys, upd_same, r⟩
/-- an object that no one speaks of is changed -/
theorem Rl.poke (R : Rl K fr Hi H σ sl G) (hn : Hi p = none) (hg : fr.g ≠ some p) (h0 : fr.H0 p = none) (ho : ∀ (j : Nat) (es : List PyData), sl[j]? = some (.own es) → σ[j]? ≠ some (some (.ref p))) : Rl K fr Hi (upd H p o) σ sl G where
  sub := fun a u e => by rw [upd_ne fun z => by rw [z, hn] at e; cases e]; exact R.sub a u e
  hi := R.hi
  nw := R.nw
  keep := fun b u e => by
    obtain ⟨q1, q2⟩ := hid_some (R.keep b u e)
    rw [hid_ne q1, upd_ne fun z => by
      obtain ⟨z1, z2⟩ := hid_some e
      rw [z, h0] at z2; cases z2]
    exact q2
  len := R.len
  at_ := fun j t q => by
    have z := R.at_ j t q
    cases t with
    | own ds2 =>
      obtain ⟨b, ws, e2, k1, k2, k3, k4, k5⟩ := z
      refine ⟨b, ws, e2, ?_, k2, k3, k4, k5⟩
      rw [upd_ne fun z => ho j ds2 q (by rw [← z]; exact e2)]; exact k1
    | _ => exact z
  inj := R.inj
  gen := fun b e => by
    obtain ⟨g1, ws, g2, g3⟩ := R.gen b e
    exact ⟨g1, ws, by rw [upd_ne fun z => hg (by rw [← z]; exact e)]; exact g2, g3⟩
/-- a slot's list becomes a datum -/
theorem Rl.freeze (R : Rl K fr Hi H σ sl G) (h : sl[i]? = some (.own ds)) : ∃ Hi', Ex Hi Hi' ∧ Rl K fr Hi' H σ (sl.set i (.val (.list ds))) G := by
  obtain ⟨a, vs, e1, h1, r1, h2, h3, h4⟩ := R.slotOwn h
  refine ⟨upd Hi a (.lst vs), Ex.new h2, ?_⟩
  have ho : ∀ j cs, j ≠ i → sl[j]? = some (.own cs) → σ[j]? ≠ some (some (.ref a)) := fun j cs hj q z => hj (R.inj j i cs ds q h (z.trans e1.symm))
  have hl : i < σ.length := by rw [R.len]; exact (List.getElem?_eq_some_iff.mp h).1
  have R1 : Rl K fr Hi H (σ.set i (some (.ref a))) (sl.set i .no) G := R.setNo
  have es : σ.set i (some (.ref a)) = σ := by
    apply List.ext_getElem?
    intro j
    by_cases q : i = j
    · subst q; rw [List.getElem?_set_self hl, e1]
    · rw [List.getElem?_set_ne q]
  rw [es] at R1
  have R2 := R1.become (p := a) h1 h2 h3 h4 (fun j cs hj => by
    rcases get_set hj with ⟨_, _, q⟩ | ⟨q1, q2⟩
    · cases q
    · exact ho j cs (Ne.symm q1) q2)
  have R3 := R2.setVal (i := i) (v := .ref a) (d := .list ds) (.lst upd_same (r1.mono (Ex.new h2)))
  rw [es, List.set_set] at R3
  exact R3
end

/-! ### readings -/
abbrev EF := Sl → GS → Option (PyData × GS)
abbrev TF := Sl → GS → Option (Bool × GS)
abbrev OF := Sl → GS → Option (List PyData × GS)
section
variable (K : PySem.W.Frag)
/-- e has the value f -/
def tE (f : EF) : TE := fun σ H Q => ∃ fr Hi sl G d G', Rl K fr Hi H σ sl G ∧ f sl G = some (d, G') ∧ ∀ v Hi' H', Nx fr Hi H Hi' H' → Rl K fr Hi' H' σ sl G' → Rp K Hi' v d → Q v H'
/-- what is seen of a value at the moment: a list's items are data -/
def Rs (fr : Fr) (Hi H : Hp) (v : V) : PyData → Prop
  | .list ds => ∃ a vs, v = .ref a ∧ fr.g ≠ some a ∧ H a = some (.lst vs) ∧ RpL K Hi vs ds
  | d => Rp K Hi v d
def tB (f : EF) : TE := fun σ H Q => ∃ fr Hi sl G d G', Rl K fr Hi H σ sl G ∧ f sl G = some (d, G') ∧ ∀ v Hi' H', Nx fr Hi H Hi' H' → Rl K fr Hi' H' σ sl G' → Rs K fr Hi' H' v d → Q v H'
/-- e makes a new list -/
def tO (f : OF) : TE := fun σ H Q => ∃ fr Hi sl G ds G', Rl K fr Hi H σ sl G ∧ f sl G = some (ds, G') ∧ ∀ p vs Hi' H', Nx fr Hi H Hi' H' → Rl K fr Hi' H' σ sl G' → H p = none → Hi' p = none → H' p = some (.lst vs) → RpL K Hi' vs ds → Q (.ref p) H'
def tT (f : TF) : TT := fun σ H Q => ∃ fr Hi sl G b G', Rl K fr Hi H σ sl G ∧ f sl G = some (b, G') ∧ ∀ Hi' H', Nx fr Hi H Hi' H' → Rl K fr Hi' H' σ sl G' → Q b H'
def tAr (f : OF) : TA := fun σ H Q => ∃ fr Hi sl G ds G', Rl K fr Hi H σ sl G ∧ f sl G = some (ds, G') ∧ ∀ vs Hi' H', Nx fr Hi H Hi' H' → Rl K fr Hi' H' σ sl G' → RpL K Hi' vs ds → Q vs H'
inductive Fl where
  | nx | bk | ct
  | rt (d : PyData)
  | ro (ds : List PyData)
abbrev SF := Sl → GS → Option (Fl × Sl × GS)
def EndR (fr : Fr) (Hi H : Hp) (σ : L2.St) (D : Ends) : Fl → Prop
  | .nx => D.nx σ H
  | .bk => D.bk σ H
  | .ct => D.ct σ H
  | .rt d => ∀ v, Rp K Hi v d → D.rt v H
  | .ro ds => ∀ p vs, fr.H0 p = none → Hi p = none → H p = some (.lst vs) → RpL K Hi vs ds → D.rt (.ref p) H
def tS (f : SF) : TS := fun D σ H => ∃ fr Hi sl G fl sl' G', Rl K fr Hi H σ sl G ∧ f sl G = some (fl, sl', G') ∧ ∀ Hi' H' σ', Ex Hi Hi' → Rl K fr Hi' H' σ' sl' G' → EndR K fr Hi' H' σ' D fl
end
section
variable {X : Cx}
theorem PE.mono {e : Expr} {t t' : TE} (h : PE X e t) (m : ∀ σ H Q, t' σ H Q → t σ H Q) : PE X e t' := ⟨fun pins s σ H Q I q => h.run pins s σ H Q I (m σ H Q q)⟩
theorem PT.mono {e : Expr} {t t' : TT} (h : PT X e t) (m : ∀ σ H Q, t' σ H Q → t σ H Q) : PT X e t' := ⟨fun pins s σ H Q I q => h.run pins s σ H Q I (m σ H Q q)⟩
theorem PW.mono {e : Expr} {t t' : TT} (h : PW X e t) (m : ∀ σ H Q, t' σ H Q → t σ H Q) : PW X e t' := ⟨fun w pins s σ H Q I q => h.run w pins s σ H Q I (m σ H Q q)⟩
theorem PA.mono {e : List Expr} {t t' : TA} (h : PA X e t) (m : ∀ σ H Q, t' σ H Q → t σ H Q) : PA X e t' := ⟨fun pos pins s σ H Q I q => h.run pos pins s σ H Q I (m σ H Q q)⟩
theorem PS.mono {e : Stmt} {t t' : TS} (h : PS X e t) (m : ∀ D σ H, t' D σ H → t D σ H) : PS X e t' := ⟨fun pins s σ H D I q => h.run pins s σ H D I (m D σ H q)⟩
theorem PSs.mono {e : List Stmt} {t t' : TS} (h : PSs X e t) (m : ∀ D σ H, t' D σ H → t D σ H) : PSs X e t' := ⟨fun pins s σ H D I q => h.run pins s σ H D I (m D σ H q)⟩
end
end QL

set_option maxHeartbeats 2000000
namespace QL
open PySem PySem.Spec PyProof.Rows L2

theorem Nx.add {fr : Fr} {Hi H Hi' H' : Hp} {p : Addr} {o : HO} (n : Nx fr Hi H Hi' H') (h : H p = none) (h2 : Hi' p = none) : Nx fr Hi H (upd Hi' p o) H' := ⟨n.hi.trans (Ex.new h2), n.h, fun a g h3 h4 => by
  by_cases e : a = p
  · rw [e]; exact h
  · rw [upd_ne e] at h3; exact n.nw a g h3 h4⟩
/-! ### weaker sights of a value -/
/-- a list that may be read at the moment (Rw), that is an own object (Rs) -/
def Rw (K : PySem.W.Frag) (fr : Fr) (Hi H : Hp) (v : V) : PyData → Prop
  | .list ds => ∃ a vs, v = .ref a ∧ SqL K (hid fr.g H) a vs ∧ RpL K Hi vs ds
  | d => Rp K Hi v d
def tW (K : PySem.W.Frag) (f : EF) : TE := fun σ H Q => ∃ fr Hi sl G d G', Rl K fr Hi H σ sl G ∧ f sl G = some (d, G') ∧ ∀ v Hi' H', Nx fr Hi H Hi' H' → Rl K fr Hi' H' σ sl G' → Rw K fr Hi' H' v d → Q v H'
section
variable {K : PySem.W.Frag} {fr : Fr} {Hi H Hi' H' : Hp} {σ : L2.St} {sl : Sl} {G G' : GS} {v : V} {d : PyData} {ds : List PyData}
theorem Rs.of (R : Rl K fr Hi H σ sl G) (r : Rp K Hi v d) : Rs K fr Hi H v d := by
  cases r with
  | lst h r => exact ⟨_, _, rfl, R.hig (by rw [h]; simp), R.sub _ _ h, r⟩
  | tup h r => exact .tup h r
  | non => exact .non
  | bl b => exact .bl b
  | int i => exact .int i
  | str x => exact .str x
theorem Rw.of (r : Rs K fr Hi H v d) : Rw K fr Hi H v d := by
  cases d with
  | list ds =>
    obtain ⟨a, vs, e, g, h, r⟩ := r
    exact ⟨a, vs, e, SqL.of (by rw [hid_ne g]; exact h), r⟩
  | _ => exact r
theorem Rs.mono (n : Nx fr Hi H Hi' H') (r : Rs K fr Hi H v d) : Rs K fr Hi' H' v d := by
  cases d with
  | list ds =>
    obtain ⟨a, vs, e, g, h, r⟩ := r
    refine ⟨a, vs, e, g, ?_, r.mono n.hi⟩
    have := n.h a _ (by rw [hid_ne g]; exact h)
    rwa [hid_ne g] at this
  | none => exact Rp.mono n.hi r
  | bool _ => exact Rp.mono n.hi r
  | int _ => exact Rp.mono n.hi r
  | str _ => exact Rp.mono n.hi r
  | tuple _ => exact Rp.mono n.hi r
  | dict _ => exact Rp.mono n.hi r
theorem Rw.mono (n : Nx fr Hi H Hi' H') (r : Rw K fr Hi H v d) : Rw K fr Hi' H' v d := by
  cases d with
  | list ds =>
    obtain ⟨a, vs, e, h, r⟩ := r
    exact ⟨a, vs, e, SqL_ex n.h h, r.mono n.hi⟩
  | none => exact Rp.mono n.hi r
  | bool _ => exact Rp.mono n.hi r
  | int _ => exact Rp.mono n.hi r
  | str _ => exact Rp.mono n.hi r
  | tuple _ => exact Rp.mono n.hi r
  | dict _ => exact Rp.mono n.hi r
theorem Rw.dp (R : Rl K fr Hi H σ sl G) (r : Rw K fr Hi H v d) : Dp K H v d := by
  cases d with
  | list ds =>
    obtain ⟨a, vs, e, h, r⟩ := r
    subst e
    exact .lst (SqL_ex hid_ex h) (r.mono R.sub).dp
  | none => exact (Rp.mono R.sub r).dp
  | bool _ => exact (Rp.mono R.sub r).dp
  | int _ => exact (Rp.mono R.sub r).dp
  | str _ => exact (Rp.mono R.sub r).dp
  | tuple _ => exact (Rp.mono R.sub r).dp
  | dict _ => exact (Rp.mono R.sub r).dp
theorem Rw.int_inv {i : Int} (r : Rw K fr Hi H v (.int i)) : v = .int i := by
  have r' : Rp K Hi v (.int i) := r
  cases r'; rfl
theorem Rp.int_inv {i : Int} (r : Rp K Hi v (.int i)) : v = .int i := by cases r; rfl
theorem Rp.bl_inv {b : Bool} (r : Rp K Hi v (.bool b)) : v = .bl b := by cases r; rfl
end
section
variable {X : Cx} {e a b c : Expr} {f fa fb fc : EF} {pos : Pos}
theorem q_s (h : PE X e (tE X.K f)) : PE X e (tB X.K f) := PE.mono h fun σ H Q q => by
  obtain ⟨fr, Hi, sl, G, d, G', R, ef, k⟩ := q
  exact ⟨fr, Hi, sl, G, d, G', R, ef, fun v Hi' H' n R' r => k v Hi' H' n R' (Rs.of R' r)⟩
theorem q_ws (h : PE X e (tB X.K f)) : PE X e (tW X.K f) := PE.mono h fun σ H Q q => by
  obtain ⟨fr, Hi, sl, G, d, G', R, ef, k⟩ := q
  exact ⟨fr, Hi, sl, G, d, G', R, ef, fun v Hi' H' n R' r => k v Hi' H' n R' (Rw.of r)⟩
theorem q_w (h : PE X e (tE X.K f)) : PE X e (tW X.K f) := q_ws (q_s h)
/-- a new list as a value -/
def eO (f : OF) : EF := fun sl G => match f sl G with
  | some (ds, G') => some (.list ds, G')
  | none => none
theorem q_o {f : OF} (h : PE X e (tO X.K f)) : PE X e (tE X.K (eO f)) := PE.mono h fun σ H Q q => by
  obtain ⟨fr, Hi, sl, G, d, G', R, ef, k⟩ := q
  unfold eO at ef
  cases hf : f sl G with
  | none => rw [hf] at ef; cases ef
  | some z =>
    obtain ⟨ds, G2⟩ := z
    rw [hf] at ef
    cases ef
    refine ⟨fr, Hi, sl, G, ds, _, R, hf, fun p vs Hi' H' n R' h1 h2 h3 r => ?_⟩
    have hg : fr.g ≠ some p := fun z => R.gne h1 z
    have h0 : fr.H0 p = none := R.h0free h1
    have ho : ∀ (i : Nat) (ds : List PyData), sl[i]? = some (.own ds) → σ[i]? ≠ some (some (.ref p)) := R.unown h1
    have R2 := R'.become (p := p) (o := .lst vs) h3 h2 hg h0 ho
    exact k (.ref p) _ H' (n.add h1 h2) R2 (.lst upd_same (r.mono (Ex.new h2)))
/-! ### names, constants -/
def eC (d : PyData) : EF := fun _ G => some (d, G)
def eV (i : Nat) : EF := fun sl G => match sl[i]? with
  | some (.val d) => some (d, G)
  | _ => none
/-- a name that may own its list -/
def bV (i : Nat) : EF := fun sl G => match sl[i]? with
  | some (.val d) => some (d, G)
  | some (.own ds) => some (.list ds, G)
  | _ => none
/-- .. or is the script -/
def wV (i : Nat) : EF := fun sl G => match sl[i]? with
  | some (.val d) => some (d, G)
  | some (.own ds) => some (.list ds, G)
  | some (.scr ns) => some (.list (ns.map .int), G)
  | _ => none
theorem q_c {d : PyData} {v : V} (h : PE X e (tC v)) (r : ∀ H, Rp X.K H v d) : PE X e (tE X.K (eC d)) := PE.mono h fun σ H Q q => by
  obtain ⟨fr, Hi, sl, G, d', G', R, ef, k⟩ := q
  cases ef
  exact k v Hi H Nx.refl R (r Hi)
theorem q_int {i : Int} {j : Nat} : PE X (.Constant (.int i) j pos) (tE X.K (eC (.int i))) := q_c pe_int fun _ => .int i
theorem q_bl {b : Bool} {j : Nat} : PE X (.Constant (.bool b) j pos) (tE X.K (eC (.bool b))) := q_c pe_bl fun _ => .bl b
theorem q_non {j : Nat} : PE X (.Constant .none j pos) (tE X.K (eC .none)) := q_c pe_non fun _ => .non
theorem q_str {x : Str} {j : Nat} : PE X (.Constant (.str x) j pos) (tE X.K (eC (.str x))) := q_c pe_str fun _ => .str x
theorem q_v {i : Nat} (h : PE X e (tVar i)) : PE X e (tE X.K (eV i)) := PE.mono h fun σ H Q q => by
  obtain ⟨fr, Hi, sl, G, d', G', R, ef, k⟩ := q
  unfold eV at ef
  split at ef
  · rename_i d hs
    cases ef
    obtain ⟨v, hv, r⟩ := R.slot hs
    exact ⟨v, hv, k v Hi H Nx.refl R r⟩
  · cases ef
theorem q_bv {i : Nat} (h : PE X e (tVar i)) : PE X e (tB X.K (bV i)) := PE.mono h fun σ H Q q => by
  obtain ⟨fr, Hi, sl, G, d', G', R, ef, k⟩ := q
  unfold bV at ef
  split at ef
  · rename_i d hs
    cases ef
    obtain ⟨v, hv, r⟩ := R.slot hs
    exact ⟨v, hv, k v Hi H Nx.refl R (Rs.of R r)⟩
  · rename_i ds hs
    cases ef
    obtain ⟨a, vs, hv, h1, r, _, hg, _⟩ := R.slotOwn hs
    exact ⟨.ref a, hv, k (.ref a) Hi H Nx.refl R ⟨a, vs, rfl, hg, h1, r⟩⟩
  · cases ef
theorem q_wv {i : Nat} (h : PE X e (tVar i)) : PE X e (tW X.K (wV i)) := PE.mono h fun σ H Q q => by
  obtain ⟨fr, Hi, sl, G, d', G', R, ef, k⟩ := q
  unfold wV at ef
  split at ef
  · rename_i d hs
    cases ef
    obtain ⟨v, hv, r⟩ := R.slot hs
    exact ⟨v, hv, k v Hi H Nx.refl R (Rw.of (Rs.of R r))⟩
  · rename_i ds hs
    cases ef
    obtain ⟨a, vs, hv, h1, r, _, hg, _⟩ := R.slotOwn hs
    exact ⟨.ref a, hv, k (.ref a) Hi H Nx.refl R (Rw.of ⟨a, vs, rfl, hg, h1, r⟩)⟩
  · rename_i ns hs
    cases ef
    obtain ⟨a, hv, q⟩ := R.at_ i _ hs
    exact ⟨.ref a, hv, k (.ref a) Hi H Nx.refl R ⟨a, _, rfl, SqL_ex R.subh q, RpL.of_ints ns⟩⟩
  · cases ef
/-! ### two-place operations on values -/
def e2 (op : PyData → PyData → Option PyData) (a b : EF) : EF := fun sl G => match a sl G with
  | some (x, G1) => (match b sl G1 with
    | some (y, G2) => (match op x y with
      | some z => some (z, G2)
      | none => none)
    | none => none)
  | none => none
/-- Rx: Rs or Rw -/
structure BinOk (K : PySem.W.Frag) (Ra : Fr → Hp → Hp → V → PyData → Prop) (r : R2) (op : PyData → PyData → Option PyData) : Prop where
  ok : ∀ fr Hi H (σ : L2.St) (sl : Sl) (G : GS) x y dx dy d (Q : VK), Rl K fr Hi H σ sl G → Ra fr Hi H x dx → Ra fr Hi H y dy → op dx dy = some d →
    (∀ v Hi' H', Nx fr Hi H Hi' H' → Rl K fr Hi' H' σ sl G → Rp K Hi' v d → Q v H') → r x y H Q
theorem tOp_w {K : PySem.W.Frag} {r : R2} {op : PyData → PyData → Option PyData} (B : BinOk K (Rw K) r op) {σ : L2.St} {H : Hp} {Q : VK} (q : tE K (e2 op fa fb) σ H Q) : tOp r (tW K fa) (tW K fb) σ H Q := by
  obtain ⟨fr, Hi, sl, G, d', G', R, ef, k⟩ := q
  unfold e2 at ef
  cases ha : fa sl G with
  | none => rw [ha] at ef; cases ef
  | some z =>
    obtain ⟨x, G1⟩ := z
    rw [ha] at ef
    replace ef : (match fb sl G1 with | some (y, G2) => (match op x y with | some z => some (z, G2) | none => none) | none => none) = some (d', G') := ef
    cases hb : fb sl G1 with
    | none => rw [hb] at ef; cases ef
    | some z =>
      obtain ⟨y, G2⟩ := z
      rw [hb] at ef
      replace ef : (match op x y with | some z => some (z, G2) | none => none) = some (d', G') := ef
      cases ho : op x y with
      | none => rw [ho] at ef; cases ef
      | some z =>
        rw [ho] at ef
        cases ef
        refine ⟨fr, Hi, sl, G, x, G1, R, ha, fun u Hi1 H1 n1 R1 ru => ?_⟩
        refine ⟨fr, Hi1, sl, G1, y, _, R1, hb, fun w Hi2 H2 n2 R2 rw' => ?_⟩
        exact B.ok fr Hi2 H2 σ sl _ u w x y _ Q R2 (Rw.mono n2 ru) rw' ho fun v Hi3 H3 n3 R3 rv => k v Hi3 H3 ((n1.trans n2).trans n3) R3 rv
theorem tOp_s {K : PySem.W.Frag} {r : R2} {op : PyData → PyData → Option PyData} (B : BinOk K (Rs K) r op) {σ : L2.St} {H : Hp} {Q : VK} (q : tE K (e2 op fa fb) σ H Q) : tOp r (tB K fa) (tB K fb) σ H Q := by
  obtain ⟨fr, Hi, sl, G, d', G', R, ef, k⟩ := q
  unfold e2 at ef
  cases ha : fa sl G with
  | none => rw [ha] at ef; cases ef
  | some z =>
    obtain ⟨x, G1⟩ := z
    rw [ha] at ef
    replace ef : (match fb sl G1 with | some (y, G2) => (match op x y with | some z => some (z, G2) | none => none) | none => none) = some (d', G') := ef
    cases hb : fb sl G1 with
    | none => rw [hb] at ef; cases ef
    | some z =>
      obtain ⟨y, G2⟩ := z
      rw [hb] at ef
      replace ef : (match op x y with | some z => some (z, G2) | none => none) = some (d', G') := ef
      cases ho : op x y with
      | none => rw [ho] at ef; cases ef
      | some z =>
        rw [ho] at ef
        cases ef
        refine ⟨fr, Hi, sl, G, x, G1, R, ha, fun u Hi1 H1 n1 R1 ru => ?_⟩
        refine ⟨fr, Hi1, sl, G1, y, _, R1, hb, fun w Hi2 H2 n2 R2 rw' => ?_⟩
        exact B.ok fr Hi2 H2 σ sl _ u w x y _ Q R2 (Rs.mono n2 ru) rw' ho fun v Hi3 H3 n3 R3 rv => k v Hi3 H3 ((n1.trans n2).trans n3) R3 rv
/-- ints -/
def oI (C : Int → Int → Bool) (g : Int → Int → PyData) : PyData → PyData → Option PyData
  | .int i, .int j => if C i j = true then some (g i j) else none
  | _, _ => none
theorem BinOk.ints {K : PySem.W.Frag} {C : Int → Int → Prop} {Cb : Int → Int → Bool} {g : Int → Int → V} {gd : Int → Int → PyData} (hC : ∀ i j, Cb i j = true → C i j) (hg : ∀ i j H, Rp K H (g i j) (gd i j)) : BinOk K (Rw K) (rI C g) (oI Cb gd) :=
  ⟨fun fr Hi H σ sl G x y dx dy d Q R rx ry ho k => by
    unfold oI at ho
    split at ho
    · split at ho
      · rename_i i j hc
        cases ho
        exact ⟨i, j, rx.int_inv, ry.int_inv, hC i j hc, k _ Hi H Nx.refl R (hg i j Hi)⟩
      · cases ho
    · cases ho⟩
theorem BinOk.ints0 {K : PySem.W.Frag} {g : Int → Int → V} {gd : Int → Int → PyData} (hg : ∀ i j H, Rp K H (g i j) (gd i j)) : BinOk K (Rw K) (rI0 g) (oI (fun _ _ => true) gd) :=
  ⟨fun fr Hi H σ sl G x y dx dy d Q R rx ry ho k => by
    unfold oI at ho
    split at ho
    · rename_i i j
      cases ho
      exact ⟨i, j, rx.int_inv, ry.int_inv, k _ Hi H Nx.refl R (hg i j Hi)⟩
    · cases ho⟩
def dSub := oI (fun _ _ => true) fun i j => .int (i - j)
def dMod := oI (fun _ j => decide (j ≠ 0)) fun i j => .int (i.fmod j)
def dFdiv := oI (fun _ j => decide (j ≠ 0 ∧ j.natAbs < 1073741824)) fun i j => .int (i.fdiv j)
def dPow := oI (fun i j => decide (0 ≤ j ∧ j ≤ 1000000 ∧ i.natAbs < 2 ^ 64)) fun i j => .int (i ^ j.toNat)
def dLt := oI (fun _ _ => true) fun i j => .bool (decide (i < j))
def dLe := oI (fun _ _ => true) fun i j => .bool (decide (i ≤ j))
def dGt := oI (fun _ _ => true) fun i j => .bool (decide (j < i))
def dGe := oI (fun _ _ => true) fun i j => .bool (decide (j ≤ i))
theorem b_sub {K : PySem.W.Frag} : BinOk K (Rw K) (rI0 fun i j => .int (i - j)) dSub := .ints0 fun _ _ _ => .int _
theorem b_mod {K : PySem.W.Frag} : BinOk K (Rw K) (rI (fun _ j => j ≠ 0) fun i j => .int (i.fmod j)) dMod := .ints (fun _ _ h => of_decide_eq_true h) fun _ _ _ => .int _
theorem b_fdiv {K : PySem.W.Frag} : BinOk K (Rw K) (rI CDivN fun i j => .int (i.fdiv j)) dFdiv := .ints (fun _ j h => of_decide_eq_true (p := j ≠ 0 ∧ j.natAbs < 1073741824) h) fun _ _ _ => .int _
theorem b_pow {K : PySem.W.Frag} : BinOk K (Rw K) (rI CPow fun i j => .int (i ^ j.toNat)) dPow := .ints (fun i j h => of_decide_eq_true (p := 0 ≤ j ∧ j ≤ 1000000 ∧ i.natAbs < 2 ^ 64) h) fun _ _ _ => .int _
theorem b_lt {K : PySem.W.Frag} : BinOk K (Rw K) (rI0 fun i j => .bl (decide (i < j))) dLt := .ints0 fun _ _ _ => .bl _
theorem b_le {K : PySem.W.Frag} : BinOk K (Rw K) (rI0 fun i j => .bl (decide (i ≤ j))) dLe := .ints0 fun _ _ _ => .bl _
theorem b_gt {K : PySem.W.Frag} : BinOk K (Rw K) (rI0 fun i j => .bl (decide (j < i))) dGt := .ints0 fun _ _ _ => .bl _
theorem b_ge {K : PySem.W.Frag} : BinOk K (Rw K) (rI0 fun i j => .bl (decide (j ≤ i))) dGe := .ints0 fun _ _ _ => .bl _
/-- + of ints, of lists -/
def dAdd : PyData → PyData → Option PyData
  | .int i, .int j => some (.int (i + j))
  | .list a, .list b => if a.length + b.length ≤ 16777216 then some (.list (a ++ b)) else none
  | _, _ => none
def dMul : PyData → PyData → Option PyData
  | .int i, .int j => if Nat.ble (Builtin.Int.intBits i + Builtin.Int.intBits j) 134217728 = true then some (.int (i * j)) else none
  | .list a, .int k => if Nat.ble k.natAbs 1000000000000 = true ∧ a.length * k.toNat ≤ 16777216 then some (.list (List.replicate k.toNat a).flatten) else none
  | _, _ => none
theorem Rp.int_of {K : PySem.W.Frag} {fr : Fr} {Hi H : Hp} {v : V} {i : Int} (r : Rs K fr Hi H v (.int i)) : v = .int i := by
  have r' : Rp K Hi v (.int i) := r
  cases r'; rfl
theorem b_add {K : PySem.W.Frag} : BinOk K (Rs K) (fun x y H Q => rI0 (fun i j => .int (i + j)) x y H Q ∨ rCat x y H Q) dAdd :=
  ⟨fun fr Hi H σ sl G x y dx dy d Q R rx ry ho k => by
    unfold dAdd at ho
    split at ho
    · rename_i i j
      cases ho
      exact .inl ⟨i, j, Rp.int_of rx, Rp.int_of ry, k _ Hi H Nx.refl R (.int _)⟩
    · rename_i as bs
      split at ho
      · rename_i hl
        cases ho
        obtain ⟨a, vs, ea, ga, ha, ra⟩ := rx
        obtain ⟨b, ws, eb, gb, hb, rb⟩ := ry
        refine .inr ⟨a, b, vs, ws, ea, eb, ha, hb, ?_, fun p hp => ?_⟩
        · rw [sizeLine_eq, ra.length, rb.length]; exact hl
        · obtain ⟨n, R2⟩ := R.laid (o := .lst (vs ++ ws)) hp
          exact k _ _ _ n R2 (.lst upd_same ((ra.append rb).mono n.hi))
      · cases ho
    · cases ho⟩
theorem b_mul {K : PySem.W.Frag} : BinOk K (Rs K) (fun x y H Q => rI CMulX (fun i j => .int (i * j)) x y H Q ∨ rRep x y H Q) dMul :=
  ⟨fun fr Hi H σ sl G x y dx dy d Q R rx ry ho k => by
    unfold dMul at ho
    split at ho
    · split at ho
      · rename_i i j hc
        cases ho
        have hc' : (Builtin.Int.intBits i : Int) + (Builtin.Int.intBits j : Int) ≤ 134217728 := by
          have := Nat.le_of_ble_eq_true hc
          omega
        exact .inl ⟨i, j, Rp.int_of rx, Rp.int_of ry, hc', k _ Hi H Nx.refl R (.int _)⟩
      · cases ho
    · rename_i as j
      split at ho
      · rename_i hl
        cases ho
        obtain ⟨a, vs, ea, ga, ha, ra⟩ := rx
        have hl1 := Nat.le_of_ble_eq_true hl.1
        refine .inr ⟨a, j, vs, ea, Rp.int_of ry, ha, by omega, by omega, ?_, fun p hp => ?_⟩
        · rw [sizeLine_eq, ra.length]; exact hl.2
        · obtain ⟨n, R2⟩ := R.laid (o := .lst (List.replicate j.toNat vs).flatten) hp
          exact k _ _ _ n R2 (.lst upd_same ((ra.repL _).mono n.hi))
      · cases ho
    · cases ho⟩
theorem q_bin {op : Operator} {r : R2} {o : PyData → PyData → Option PyData} (ho : OpR X (binaryOp op) r) (B : BinOk X.K (Rw X.K) r o) (ha : PE X a (tW X.K fa)) (hb : PE X b (tW X.K fb)) : PE X (.BinOp a op b pos) (tE X.K (e2 o fa fb)) :=
  PE.mono (pe_op ho ha hb) fun _ _ _ q => tOp_w B q
theorem q_add (ha : PE X a (tB X.K fa)) (hb : PE X b (tB X.K fb)) : PE X (.BinOp a .Add b pos) (tE X.K (e2 dAdd fa fb)) :=
  PE.mono (pe_op (op_add.or op_cat) ha hb) fun _ _ _ q => tOp_s b_add q
theorem q_mul (ha : PE X a (tB X.K fa)) (hb : PE X b (tB X.K fb)) : PE X (.BinOp a .Mult b pos) (tE X.K (e2 dMul fa fb)) :=
  PE.mono (pe_op (op_mulX.or op_rep) ha hb) fun _ _ _ q => tOp_s b_mul q
theorem q_sub (ha : PE X a (tW X.K fa)) (hb : PE X b (tW X.K fb)) : PE X (.BinOp a .Sub b pos) (tE X.K (e2 dSub fa fb)) := q_bin op_sub b_sub ha hb
theorem q_mod (ha : PE X a (tW X.K fa)) (hb : PE X b (tW X.K fb)) : PE X (.BinOp a .Mod b pos) (tE X.K (e2 dMod fa fb)) := q_bin op_modN b_mod ha hb
theorem q_fdiv (ha : PE X a (tW X.K fa)) (hb : PE X b (tW X.K fb)) : PE X (.BinOp a .FloorDiv b pos) (tE X.K (e2 dFdiv fa fb)) := q_bin op_fdivN b_fdiv ha hb
theorem q_pow (ha : PE X a (tW X.K fa)) (hb : PE X b (tW X.K fb)) : PE X (.BinOp a .Pow b pos) (tE X.K (e2 dPow fa fb)) := q_bin op_pow b_pow ha hb
end
end QL

set_option maxHeartbeats 2000000
namespace QL
open PySem PySem.Spec PyProof.Rows L2
section
variable {X : Cx} {e a b c : Expr} {f fa fb fc : EF} {pos : Pos}
/-! ### comparisons -/
def bE (f : EF) : TF := fun sl G => match f sl G with
  | some (.bool b, G') => some (b, G')
  | _ => none
theorem tT_of {K : PySem.W.Frag} {t : TE} {σ : L2.St} {H : Hp} {Q : Bool → Hp → Prop} (m : ∀ Q, tE K f σ H Q → t σ H Q) (q : tT K (bE f) σ H Q) : t σ H fun x H' => ∃ k, x = .bl k ∧ Q k H' := by
  obtain ⟨fr, Hi, sl, G, d', G', R, ef, k⟩ := q
  refine m _ ?_
  unfold bE at ef
  split at ef
  · rename_i b' G2 hf
    cases ef
    exact ⟨fr, Hi, sl, G, _, _, R, hf, fun v Hi' H' n R' r => ⟨_, r.bl_inv, k Hi' H' n R'⟩⟩
  · cases ef
theorem q_cmp {op : CmpOp} {r : R2} {o : PyData → PyData → Option PyData} (ho : OpR X (compareOp op) r) (B : BinOk X.K (Rw X.K) r o) (ha : PE X a (tW X.K fa)) (hb : PE X b (tW X.K fb)) (hm : behindInMarks op b = false) : PE X (.Compare a [op] [b] pos) (tE X.K (e2 o fa fb)) :=
  PE.mono (pe_cmpR ho ha hb hm) fun _ _ _ q => tOp_w B q
theorem q_cmpT {op : CmpOp} {r : R2} {o : PyData → PyData → Option PyData} (ho : OpR X (compareOp op) r) (B : BinOk X.K (Rw X.K) r o) (ha : PE X a (tW X.K fa)) (hb : PE X b (tW X.K fb)) (hm : behindInMarks op b = false) : PT X (.Compare a [op] [b] pos) (tT X.K (bE (e2 o fa fb))) :=
  PT.mono (pt_cmpR ho ha hb hm) fun _ _ _ q => tT_of (fun Q q => tOp_w B q) q
/-- an expression whose value is a bool, as a test -/
theorem q_t (h : PE X e (tE X.K f)) (he : ∀ whole, isTrue e X.env whole = (do let v ← whole; standAt e.pos; holding [v] (truthy v)) := by intro _; rfl) : PT X e (tT X.K (bE f)) :=
  PT.mono (pt_val h he) fun _ _ _ q => tT_of (fun Q q => q) q
def dEq (x y : PyData) : Option PyData := if (SeqAt.shaped x && SeqAt.shaped y) = true then some (.bool (PyData.eqv x y)) else none
def dNe (x y : PyData) : Option PyData := if (SeqAt.shaped x && SeqAt.shaped y) = true then some (.bool (!PyData.eqv x y)) else none
theorem b_eq {K : PySem.W.Frag} : BinOk K (Rw K) (rEqD K) dEq :=
  ⟨fun fr Hi H σ sl G x y dx dy d Q R rx ry ho k => by
    unfold dEq at ho
    split at ho
    · rename_i hc
      obtain ⟨h1, h2⟩ := Bool.and_eq_true_iff.mp hc
      cases ho
      exact ⟨dx, dy, rx.dp R, ry.dp R, h1, h2, k _ Hi H Nx.refl R (.bl _)⟩
    · cases ho⟩
theorem b_ne {K : PySem.W.Frag} : BinOk K (Rw K) (rNeD K) dNe :=
  ⟨fun fr Hi H σ sl G x y dx dy d Q R rx ry ho k => by
    unfold dNe at ho
    split at ho
    · rename_i hc
      obtain ⟨h1, h2⟩ := Bool.and_eq_true_iff.mp hc
      cases ho
      exact ⟨dx, dy, rx.dp R, ry.dp R, h1, h2, k _ Hi H Nx.refl R (.bl _)⟩
    · cases ho⟩
/-- in, not in: a list, a tuple -/
def rInT (K : PySem.W.Frag) : R2 := fun x y H Q => ∃ d ds, Dp K H x d ∧ Dp K H y (.tuple ds) ∧ SeqAt.shaped d = true ∧ SeqAt.shaped (.tuple ds) = true ∧ Q (.bl (ds.any fun z => PyData.eqv z d)) H
def rNotInT (K : PySem.W.Frag) : R2 := fun x y H Q => ∃ d ds, Dp K H x d ∧ Dp K H y (.tuple ds) ∧ SeqAt.shaped d = true ∧ SeqAt.shaped (.tuple ds) = true ∧ Q (.bl (!ds.any fun z => PyData.eqv z d)) H
theorem room_inT {A : Around} {ds : List PyData} {d : PyData} (h : SeqAt.shaped d = true) (hu : A.units + 65 < cLine) : A.units + 1 + min (PyData.depthAll ds) d.depth < cLine := by
  have h1 := SeqAt.depth_of_shaped h
  omega
theorem op_inT (hu : X.A.units + 65 < cLine) : OpR X (compareOp .In) (rInT X.K) := by
  intro pins s σ H x y v u Q I rx ry h
  obtain ⟨d, ds, hd, he, sd, se, q⟩ := h
  obtain ⟨as, r1⟩ := Dp.reads I d x v hd rx
  obtain ⟨bs, r2⟩ := Dp.reads I (.tuple ds) y u he ry
  exact SeqAt.in_tuple_reads r2 r1 (SeqAt.canLay_of_shaped se) (SeqAt.canLay_of_shaped sd) (room_inT sd hu) ⟨.bl _, H, I, rfl, q⟩
theorem op_notInT (hu : X.A.units + 65 < cLine) : OpR X (compareOp .NotIn) (rNotInT X.K) := by
  intro pins s σ H x y v u Q I rx ry h
  obtain ⟨d, ds, hd, he, sd, se, q⟩ := h
  obtain ⟨as, r1⟩ := Dp.reads I d x v hd rx
  obtain ⟨bs, r2⟩ := Dp.reads I (.tuple ds) y u he ry
  exact SeqAt.notIn_tuple_reads r2 r1 (SeqAt.canLay_of_shaped se) (SeqAt.canLay_of_shaped sd) (room_inT sd hu) ⟨.bl _, H, I, rfl, q⟩
def dIn (x y : PyData) : Option PyData := match y with
  | .list ds => if (SeqAt.shaped x && SeqAt.shaped (.list ds)) = true then some (.bool (ds.any fun z => PyData.eqv z x)) else none
  | .tuple ds => if (SeqAt.shaped x && SeqAt.shaped (.tuple ds)) = true then some (.bool (ds.any fun z => PyData.eqv z x)) else none
  | _ => none
def dNotIn (x y : PyData) : Option PyData := match y with
  | .list ds => if (SeqAt.shaped x && SeqAt.shaped (.list ds)) = true then some (.bool (!ds.any fun z => PyData.eqv z x)) else none
  | .tuple ds => if (SeqAt.shaped x && SeqAt.shaped (.tuple ds)) = true then some (.bool (!ds.any fun z => PyData.eqv z x)) else none
  | _ => none
theorem b_in {K : PySem.W.Frag} : BinOk K (Rw K) (fun x y H Q => rInD K x y H Q ∨ rInT K x y H Q) dIn :=
  ⟨fun fr Hi H σ sl G x y dx dy d Q R rx ry ho k => by
    unfold dIn at ho
    split at ho
    · split at ho
      · rename_i hc
        obtain ⟨h1, h2⟩ := Bool.and_eq_true_iff.mp hc
        cases ho
        exact .inl ⟨dx, _, rx.dp R, ry.dp R, h1, h2, k _ Hi H Nx.refl R (.bl _)⟩
      · cases ho
    · split at ho
      · rename_i hc
        obtain ⟨h1, h2⟩ := Bool.and_eq_true_iff.mp hc
        cases ho
        exact .inr ⟨dx, _, rx.dp R, ry.dp R, h1, h2, k _ Hi H Nx.refl R (.bl _)⟩
      · cases ho
    · cases ho⟩
theorem b_notIn {K : PySem.W.Frag} : BinOk K (Rw K) (fun x y H Q => rNotInD K x y H Q ∨ rNotInT K x y H Q) dNotIn :=
  ⟨fun fr Hi H σ sl G x y dx dy d Q R rx ry ho k => by
    unfold dNotIn at ho
    split at ho
    · split at ho
      · rename_i hc
        obtain ⟨h1, h2⟩ := Bool.and_eq_true_iff.mp hc
        cases ho
        exact .inl ⟨dx, _, rx.dp R, ry.dp R, h1, h2, k _ Hi H Nx.refl R (.bl _)⟩
      · cases ho
    · split at ho
      · rename_i hc
        obtain ⟨h1, h2⟩ := Bool.and_eq_true_iff.mp hc
        cases ho
        exact .inr ⟨dx, _, rx.dp R, ry.dp R, h1, h2, k _ Hi H Nx.refl R (.bl _)⟩
      · cases ho
    · cases ho⟩
/-- is None, is not None (the right side the constant), is True -/
def dIsN (x y : PyData) : Option PyData := match x, y with
  | .none, .none => some (.bool true)
  | .dict _, _ => none
  | _, .none => some (.bool false)
  | _, _ => none
def dNotN (x y : PyData) : Option PyData := match x, y with
  | .none, .none => some (.bool false)
  | .dict _, _ => none
  | _, .none => some (.bool true)
  | _, _ => none
theorem Rp.non_iff {K : PySem.W.Frag} {H : Hp} {v : V} {d : PyData} (r : Rp K H v d) : (d = .none → v = .non) ∧ (d ≠ .none → v ≠ .non) := by
  cases r <;> simp
theorem Rw.rp {K : PySem.W.Frag} {fr : Fr} {Hi H : Hp} {v : V} {d : PyData} (r : Rw K fr Hi H v d) (h : ∀ ds, d ≠ .list ds) : Rp K Hi v d := by
  cases d with
  | list ds => exact (h ds rfl).elim
  | _ => exact r
theorem Rw.non_of {K : PySem.W.Frag} {fr : Fr} {Hi H : Hp} {v : V} (r : Rw K fr Hi H v .none) : v = .non := by
  have r' : Rp K Hi v .none := r
  cases r'; rfl
theorem Rw.nonN {K : PySem.W.Frag} {fr : Fr} {Hi H : Hp} {v : V} {d : PyData} (r : Rw K fr Hi H v d) (h : d ≠ .none) : v ≠ .non := by
  cases d with
  | list ds => obtain ⟨a, vs, e, _⟩ := r; rw [e]; simp
  | none => exact (h rfl).elim
  | _ => exact (Rp.non_iff (show Rp K Hi v _ from r)).2 h
theorem b_isN {K : PySem.W.Frag} : BinOk K (Rw K) (fun x y H Q => y = .non ∧ Q (.bl (decide (x = .non))) H) dIsN :=
  ⟨fun fr Hi H σ sl G x y dx dy d Q R rx ry ho k => by
    unfold dIsN at ho
    split at ho
    · cases ho
      exact ⟨ry.non_of, by rw [rx.non_of]; exact k _ Hi H Nx.refl R (.bl true)⟩
    · cases ho
    · rename_i h1 _
      cases ho
      exact ⟨ry.non_of, by rw [decide_eq_false (rx.nonN h1)]; exact k _ Hi H Nx.refl R (.bl false)⟩
    · cases ho⟩
theorem b_notN {K : PySem.W.Frag} : BinOk K (Rw K) (fun x y H Q => y = .non ∧ Q (.bl (!decide (x = .non))) H) dNotN :=
  ⟨fun fr Hi H σ sl G x y dx dy d Q R rx ry ho k => by
    unfold dNotN at ho
    split at ho
    · cases ho
      exact ⟨ry.non_of, by rw [rx.non_of]; exact k _ Hi H Nx.refl R (.bl false)⟩
    · cases ho
    · rename_i h1 _
      cases ho
      exact ⟨ry.non_of, by rw [decide_eq_false (rx.nonN h1)]; exact k _ Hi H Nx.refl R (.bl true)⟩
    · cases ho⟩
/-! ### and, or, not; conditional expressions -/
def tAndF (a b : TF) : TF := fun sl G => match a sl G with
  | some (true, G1) => b sl G1
  | some (false, G1) => some (false, G1)
  | none => none
def tOrF (a b : TF) : TF := fun sl G => match a sl G with
  | some (true, G1) => some (true, G1)
  | some (false, G1) => b sl G1
  | none => none
def tNotF (a : TF) : TF := fun sl G => match a sl G with
  | some (b, G1) => some (!b, G1)
  | none => none
variable {ta tb : TF} {rest : List Expr}
theorem q_and1 (ha : PT X a (tT X.K ta)) : PW X (.BoolOp .And [a] pos) (tT X.K ta) := pw_and1 ha
theorem q_or1 (ha : PT X a (tT X.K ta)) : PW X (.BoolOp .Or [a] pos) (tT X.K ta) := pw_or1 ha
theorem q_and (ha : PT X a (tT X.K ta)) (hb : PW X (.BoolOp .And (b :: rest) pos) (tT X.K tb)) : PW X (.BoolOp .And (a :: b :: rest) pos) (tT X.K (tAndF ta tb)) := PW.mono (pw_and ha hb) fun σ H Q q => by
  obtain ⟨fr, Hi, sl, G, d', G', R, ef, k⟩ := q
  unfold tAndF at ef
  split at ef
  · rename_i G1 h1
    refine ⟨fr, Hi, sl, G, true, G1, R, h1, fun Hi1 H1 n1 R1 => ?_⟩
    show tT X.K tb σ H1 Q
    exact ⟨fr, Hi1, sl, G1, d', G', R1, ef, fun Hi2 H2 n2 R2 => k Hi2 H2 (n1.trans n2) R2⟩
  · rename_i G1 h1
    cases ef
    exact ⟨fr, Hi, sl, G, false, _, R, h1, fun Hi1 H1 n1 R1 => k Hi1 H1 n1 R1⟩
  · cases ef
theorem q_or (ha : PT X a (tT X.K ta)) (hb : PW X (.BoolOp .Or (b :: rest) pos) (tT X.K tb)) : PW X (.BoolOp .Or (a :: b :: rest) pos) (tT X.K (tOrF ta tb)) := PW.mono (pw_or ha hb) fun σ H Q q => by
  obtain ⟨fr, Hi, sl, G, d', G', R, ef, k⟩ := q
  unfold tOrF at ef
  split at ef
  · rename_i G1 h1
    cases ef
    exact ⟨fr, Hi, sl, G, true, _, R, h1, fun Hi1 H1 n1 R1 => k Hi1 H1 n1 R1⟩
  · rename_i G1 h1
    refine ⟨fr, Hi, sl, G, false, G1, R, h1, fun Hi1 H1 n1 R1 => ?_⟩
    show tT X.K tb σ H1 Q
    exact ⟨fr, Hi1, sl, G1, d', G', R1, ef, fun Hi2 H2 n2 R2 => k Hi2 H2 (n1.trans n2) R2⟩
  · cases ef
theorem q_pw (h : PW X e (tT X.K ta)) : PT X e (tT X.K ta) := h.pt
theorem q_not (ha : PT X a (tT X.K ta)) : PT X (.UnaryOp .Not a pos) (tT X.K (tNotF ta)) := PT.mono (pt_not ha) fun σ H Q q => by
  obtain ⟨fr, Hi, sl, G, d', G', R, ef, k⟩ := q
  unfold tNotF at ef
  split at ef
  · rename_i b G1 h1
    cases ef
    exact ⟨fr, Hi, sl, G, b, _, R, h1, fun Hi1 H1 n1 R1 => k Hi1 H1 n1 R1⟩
  · cases ef
/-- as values -/
def eAnd (a b : EF) : EF := fun sl G => match a sl G with
  | some (.bool true, G1) => b sl G1
  | some (.bool false, G1) => some (.bool false, G1)
  | _ => none
def eOr (a b : EF) : EF := fun sl G => match a sl G with
  | some (.bool true, G1) => some (.bool true, G1)
  | some (.bool false, G1) => b sl G1
  | _ => none
def eNot (a : EF) : EF := fun sl G => match a sl G with
  | some (.bool b, G1) => some (.bool (!b), G1)
  | _ => none
theorem q_one {op : BoolOp} (h : PE X a (tE X.K f)) : PE X (.BoolOp op [a] pos) (tE X.K f) := pe_one h
theorem q_andV (ha : PE X a (tE X.K fa)) (hb : PE X (.BoolOp .And (b :: rest) pos) (tE X.K fb)) : PE X (.BoolOp .And (a :: b :: rest) pos) (tE X.K (eAnd fa fb)) := PE.mono (pe_and ha hb) fun σ H Q q => by
  obtain ⟨fr, Hi, sl, G, d', G', R, ef, k⟩ := q
  unfold eAnd at ef
  split at ef
  · rename_i G1 h1
    refine ⟨fr, Hi, sl, G, _, G1, R, h1, fun v Hi1 H1 n1 R1 r => ⟨true, r.bl_inv, ?_⟩⟩
    show tE X.K fb σ H1 Q
    exact ⟨fr, Hi1, sl, G1, d', G', R1, ef, fun v Hi2 H2 n2 R2 => k v Hi2 H2 (n1.trans n2) R2⟩
  · rename_i G1 h1
    cases ef
    exact ⟨fr, Hi, sl, G, _, _, R, h1, fun v Hi1 H1 n1 R1 r => ⟨false, r.bl_inv, k _ Hi1 H1 n1 R1 (.bl false)⟩⟩
  · cases ef
theorem q_orV (ha : PE X a (tE X.K fa)) (hb : PE X (.BoolOp .Or (b :: rest) pos) (tE X.K fb)) : PE X (.BoolOp .Or (a :: b :: rest) pos) (tE X.K (eOr fa fb)) := PE.mono (pe_or ha hb) fun σ H Q q => by
  obtain ⟨fr, Hi, sl, G, d', G', R, ef, k⟩ := q
  unfold eOr at ef
  split at ef
  · rename_i G1 h1
    cases ef
    exact ⟨fr, Hi, sl, G, _, _, R, h1, fun v Hi1 H1 n1 R1 r => ⟨true, r.bl_inv, k _ Hi1 H1 n1 R1 (.bl true)⟩⟩
  · rename_i G1 h1
    refine ⟨fr, Hi, sl, G, _, G1, R, h1, fun v Hi1 H1 n1 R1 r => ⟨false, r.bl_inv, ?_⟩⟩
    show tE X.K fb σ H1 Q
    exact ⟨fr, Hi1, sl, G1, d', G', R1, ef, fun v Hi2 H2 n2 R2 => k v Hi2 H2 (n1.trans n2) R2⟩
  · cases ef
theorem q_notV (ha : PE X a (tE X.K fa)) : PE X (.UnaryOp .Not a pos) (tE X.K (eNot fa)) := PE.mono (pe_not ha) fun σ H Q q => by
  obtain ⟨fr, Hi, sl, G, d', G', R, ef, k⟩ := q
  unfold eNot at ef
  split at ef
  · rename_i b G1 h1
    cases ef
    exact ⟨fr, Hi, sl, G, _, _, R, h1, fun v Hi1 H1 n1 R1 r => ⟨b, r.bl_inv, k _ Hi1 H1 n1 R1 (.bl _)⟩⟩
  · cases ef
def eIf (c : TF) (a b : EF) : EF := fun sl G => match c sl G with
  | some (true, G1) => a sl G1
  | some (false, G1) => b sl G1
  | none => none
theorem q_if (hc : PT X c (tT X.K ta)) (ha : PE X a (tE X.K fa)) (hb : PE X b (tE X.K fb)) : PE X (.IfExp c a b pos) (tE X.K (eIf ta fa fb)) := PE.mono (pe_ifExp hc ha hb) fun σ H Q q => by
  obtain ⟨fr, Hi, sl, G, d', G', R, ef, k⟩ := q
  unfold eIf at ef
  split at ef
  · rename_i G1 h1
    refine ⟨fr, Hi, sl, G, true, G1, R, h1, fun Hi1 H1 n1 R1 => ?_⟩
    show tE X.K fa σ H1 Q
    exact ⟨fr, Hi1, sl, G1, d', G', R1, ef, fun v Hi2 H2 n2 R2 => k v Hi2 H2 (n1.trans n2) R2⟩
  · rename_i G1 h1
    refine ⟨fr, Hi, sl, G, false, G1, R, h1, fun Hi1 H1 n1 R1 => ?_⟩
    show tE X.K fb σ H1 Q
    exact ⟨fr, Hi1, sl, G1, d', G', R1, ef, fun v Hi2 H2 n2 R2 => k v Hi2 H2 (n1.trans n2) R2⟩
  · cases ef
/-! ### unary minus -/
def eNeg (a : EF) : EF := fun sl G => match a sl G with
  | some (.int i, G1) => some (.int (-i), G1)
  | _ => none
theorem q_neg (ha : PE X a (tE X.K fa)) : PE X (.UnaryOp .USub a pos) (tE X.K (eNeg fa)) := PE.mono (pe_un un_neg ha) fun σ H Q q => by
  obtain ⟨fr, Hi, sl, G, d', G', R, ef, k⟩ := q
  unfold eNeg at ef
  split at ef
  · rename_i i G1 h1
    cases ef
    exact ⟨fr, Hi, sl, G, _, _, R, h1, fun v Hi1 H1 n1 R1 r => ⟨i, r.int_inv, k _ Hi1 H1 n1 R1 (.int _)⟩⟩
  · cases ef
/-! ### chains -/
def eChain (o o' : PyData → PyData → Option PyData) (a b c : EF) : EF := fun sl G => match a sl G with
  | some (x, G1) => (match b sl G1 with
    | some (y, G2) => (match o x y with
      | some (.bool true) => (match c sl G2 with
        | some (z, G3) => (match o' y z with
          | some w => some (w, G3)
          | none => none)
        | none => none)
      | some (.bool false) => some (.bool false, G2)
      | _ => none)
    | none => none)
  | none => none
theorem tChain_w {K : PySem.W.Frag} {r r' : R2} {o o' : PyData → PyData → Option PyData} (B : BinOk K (Rw K) r o) (B' : BinOk K (Rw K) r' o') {σ : L2.St} {H : Hp} {Q : VK} (q : tE K (eChain o o' fa fb fc) σ H Q) : tChain r r' (tW K fa) (tW K fb) (tW K fc) σ H Q := by
  obtain ⟨fr, Hi, sl, G, d', G', R, ef, k⟩ := q
  unfold eChain at ef
  split at ef
  · rename_i x G1 ha
    split at ef
    · rename_i y G2 hb
      refine ⟨fr, Hi, sl, G, x, G1, R, ha, fun u Hi1 H1 n1 R1 ru => ?_⟩
      refine ⟨fr, Hi1, sl, G1, y, G2, R1, hb, fun w Hi2 H2 n2 R2 rw' => ?_⟩
      split at ef
      · rename_i ho
        split at ef
        · rename_i z G3 hc
          split at ef
          · rename_i ww ho'
            cases ef
            refine B.ok fr Hi2 H2 σ sl _ u w x y _ _ R2 (Rw.mono n2 ru) rw' ho fun v Hi3 H3 n3 R3 rv => ⟨true, rv.bl_inv, ?_⟩
            rw [if_pos rfl]
            refine ⟨fr, Hi3, sl, G2, z, _, R3, hc, fun u4 Hi4 H4 n4 R4 r4 => ?_⟩
            exact B'.ok fr Hi4 H4 σ sl _ w u4 y z _ Q R4 (Rw.mono (n3.trans n4) rw') r4 ho' fun v5 Hi5 H5 n5 R5 r5 => k v5 Hi5 H5 ((((n1.trans n2).trans n3).trans n4).trans n5) R5 r5
          · cases ef
        · cases ef
      · rename_i ho
        cases ef
        refine B.ok fr Hi2 H2 σ sl _ u w x y _ _ R2 (Rw.mono n2 ru) rw' ho fun v Hi3 H3 n3 R3 rv => ⟨false, rv.bl_inv, ?_⟩
        rw [if_neg Bool.false_ne_true]
        exact k _ Hi3 H3 ((n1.trans n2).trans n3) R3 (.bl false)
      · cases ef
    · cases ef
  · cases ef
theorem q_chain {op op' : CmpOp} {r r' : R2} {o o' : PyData → PyData → Option PyData} (ho : OpR X (compareOp op) r) (ho' : OpR X (compareOp op') r') (B : BinOk X.K (Rw X.K) r o) (B' : BinOk X.K (Rw X.K) r' o') (ha : PE X a (tW X.K fa)) (hb : PE X b (tW X.K fb)) (hc : PE X c (tW X.K fc)) (hm : lastMarks [op, op'] [b, c] = false := by with_unfolding_all rfl) :
    PE X (.Compare a [op, op'] [b, c] pos) (tE X.K (eChain o o' fa fb fc)) := PE.mono (pe_chain ho ho' ha hb hc hm) fun _ _ _ q => tChain_w B B' q
theorem q_chainT {op op' : CmpOp} {r r' : R2} {o o' : PyData → PyData → Option PyData} (ho : OpR X (compareOp op) r) (ho' : OpR X (compareOp op') r') (B : BinOk X.K (Rw X.K) r o) (B' : BinOk X.K (Rw X.K) r' o') (ha : PE X a (tW X.K fa)) (hb : PE X b (tW X.K fb)) (hc : PE X c (tW X.K fc)) (hm : lastMarks [op, op'] [b, c] = false := by with_unfolding_all rfl) :
    PT X (.Compare a [op, op'] [b, c] pos) (tT X.K (bE (eChain o o' fa fb fc))) := PT.mono (pt_chain ho ho' ha hb hc hm) fun _ _ _ q => tT_of (fun Q q => tChain_w B B' q) q
/-! ### items, slices, displays -/
def dIx (x y : PyData) : Option PyData := match x, y with
  | .list ds, .int i => atI ds i
  | .tuple ds, .int i => atI ds i
  | _, _ => none
theorem atI_rel {K : PySem.W.Frag} {H : Hp} {vs : List V} {ds : List PyData} {i : Int} {d : PyData} (r : RpL K H vs ds) (h : atI ds i = some d) : ∃ v, atI vs i = some v ∧ Rp K H v d := by
  unfold atI at h ⊢
  rw [r.length]
  cases e : ixN ds.length i with
  | none => rw [e] at h; cases h
  | some j =>
    rw [e] at h
    exact r.get h
theorem b_ix {K : PySem.W.Frag} : BinOk K (Rw K) (fun x y H Q => rIxL K x y H Q ∨ rIxT K x y H Q) dIx :=
  ⟨fun fr Hi H σ sl G x y dx dy d Q R rx ry ho k => by
    unfold dIx at ho
    split at ho
    · obtain ⟨a, vs, e, h, r⟩ := rx
      obtain ⟨v, hv, rv⟩ := atI_rel r ho
      exact .inl ⟨a, vs, _, v, e, ry.int_inv, SqL_ex hid_ex h, hv, k v Hi H Nx.refl R rv⟩
    · rename_i ds i
      have rx' : Rp K Hi x (.tuple ds) := rx
      cases rx' with
      | tup h r =>
        obtain ⟨v, hv, rv⟩ := atI_rel r ho
        exact .inr ⟨_, _, _, v, rfl, ry.int_inv, SqT_ex R.sub h, hv, k v Hi H Nx.refl R rv⟩
    · cases ho⟩
theorem q_ix (ha : PE X a (tW X.K fa)) (hb : PE X b (tW X.K fb)) (hs : PlainIx b := by exact fun _ _ => rfl) : PE X (.Subscript a b pos) (tE X.K (e2 dIx fa fb)) :=
  PE.mono (pe_ix (ix_list.or ix_tup) ha hb hs) fun _ _ _ q => tOp_w b_ix q
/-- a slice's parts -/
abbrev PF := Sl → GS → Option (Option Int × GS)
def pNo : PF := fun _ G => some (none, G)
def pSo (f : EF) : PF := fun sl G => match f sl G with
  | some (.int i, G') => some (some i, G')
  | _ => none
def cutD (xs : List PyData) (lo hi : Option Int) : List PyData := (xs.drop (HT.sIx xs.length 0 lo)).take (HT.sIx xs.length xs.length hi - HT.sIx xs.length 0 lo)
theorem cut_rel {K : PySem.W.Frag} {H : Hp} {vs : List V} {ds : List PyData} (r : RpL K H vs ds) (lo hi : Option Int) : RpL K H (cutV vs lo hi) (cutD ds lo hi) := by
  unfold cutV cutD
  rw [r.length]
  exact (r.drop _).take _
def tP (K : PySem.W.Frag) (f : PF) : TO := fun σ H Q => ∃ fr Hi sl G o G', Rl K fr Hi H σ sl G ∧ f sl G = some (o, G') ∧ ∀ Hi' H', Nx fr Hi H Hi' H' → Rl K fr Hi' H' σ sl G' → Q o H'
theorem PO.mono {e : Option Expr} {t t' : TO} (h : PO X e t) (m : ∀ σ H Q, t' σ H Q → t σ H Q) : PO X e t' := ⟨fun pins s σ H Q I q => h.run pins s σ H Q I (m σ H Q q)⟩
theorem q_pno : PO X none (tP X.K pNo) := PO.mono po_none fun σ H Q q => by
  obtain ⟨fr, Hi, sl, G, o, G', R, ef, k⟩ := q
  cases ef
  exact k Hi H Nx.refl R
theorem q_pso (h : PE X e (tE X.K f)) : PO X (some e) (tP X.K (pSo f)) := PO.mono (po_some h) fun σ H Q q => by
  obtain ⟨fr, Hi, sl, G, o, G', R, ef, k⟩ := q
  unfold pSo at ef
  split at ef
  · rename_i i G1 h1
    cases ef
    exact ⟨fr, Hi, sl, G, _, _, R, h1, fun v Hi1 H1 n1 R1 r => ⟨i, r.int_inv, k Hi1 H1 n1 R1⟩⟩
  · cases ef
variable {pl pu : PF} {lo hi : Option Expr} {p2 : Pos}
/-- xs[lo:hi], a list: a new list -/
def oSl (f : EF) (l u : PF) : OF := fun sl G => match f sl G with
  | some (.list ds, G1) => (match l sl G1 with
    | some (i, G2) => (match u sl G2 with
      | some (j, G3) => some (cutD ds i j, G3)
      | none => none)
    | none => none)
  | _ => none
theorem q_sl (he : PE X e (tW X.K f)) (hl : PO X lo (tP X.K pl)) (hu : PO X hi (tP X.K pu)) : PE X (.Subscript e (.Slice lo hi none p2) pos) (tO X.K (oSl f pl pu)) := PE.mono (pe_slice sl_list he hl hu) fun σ H Q q => by
  obtain ⟨fr, Hi, sl, G, ds', G', R, ef, k⟩ := q
  unfold oSl at ef
  split at ef
  · rename_i ds G1 h1
    split at ef
    · rename_i i G2 h2
      split at ef
      · rename_i j G3 h3
        cases ef
        refine ⟨fr, Hi, sl, G, _, G1, R, h1, fun v Hi1 H1 n1 R1 r1 => ?_⟩
        refine ⟨fr, Hi1, sl, G1, i, G2, R1, h2, fun Hi2 H2 n2 R2 => ?_⟩
        refine ⟨fr, Hi2, sl, G2, j, _, R2, h3, fun Hi3 H3 n3 R3 => ?_⟩
        obtain ⟨a, vs, ev, hq, r⟩ := Rw.mono (n2.trans n3) r1
        refine ⟨a, vs, ev, SqL_ex hid_ex hq, fun p hp => ?_⟩
        obtain ⟨n4, R4⟩ := R3.lay (o := .lst (cutV vs i j)) hp
        have hp0 : H p = none := by
          have g3 : fr.g ≠ some p := R3.gne hp
          have h5 : hid fr.g H3 p = none := by rw [hid_ne g3]; exact hp
          have h6 := ((n1.trans n2).trans n3).h.free h5
          rwa [hid_ne g3] at h6
        exact k p (cutV vs i j) _ _ (((n1.trans n2).trans n3).trans n4) R4 hp0 (R3.hifree hp) upd_same (cut_rel r i j)
      · cases ef
    · cases ef
  · cases ef
/-- t[lo:hi], a tuple, not the whole -/
def eSlT (f : EF) (l u : PF) : EF := fun sl G => match f sl G with
  | some (.tuple ds, G1) => (match l sl G1 with
    | some (i, G2) => (match u sl G2 with
      | some (j, G3) => if HT.sIx ds.length 0 i = 0 ∧ HT.sIx ds.length ds.length j = ds.length then none else some (.tuple (cutD ds i j), G3)
      | none => none)
    | none => none)
  | _ => none
theorem q_slT (he : PE X e (tW X.K f)) (hl : PO X lo (tP X.K pl)) (hu : PO X hi (tP X.K pu)) : PE X (.Subscript e (.Slice lo hi none p2) pos) (tE X.K (eSlT f pl pu)) := PE.mono (pe_slice sl_tup he hl hu) fun σ H Q q => by
  obtain ⟨fr, Hi, sl, G, ds', G', R, ef, k⟩ := q
  unfold eSlT at ef
  split at ef
  · rename_i ds G1 h1
    split at ef
    · rename_i i G2 h2
      split at ef
      · rename_i j G3 h3
        split at ef
        · cases ef
        · rename_i hw
          cases ef
          refine ⟨fr, Hi, sl, G, _, G1, R, h1, fun v Hi1 H1 n1 R1 r1 => ?_⟩
          refine ⟨fr, Hi1, sl, G1, i, G2, R1, h2, fun Hi2 H2 n2 R2 => ?_⟩
          refine ⟨fr, Hi2, sl, G2, j, _, R2, h3, fun Hi3 H3 n3 R3 => ?_⟩
          have r1' : Rp X.K Hi3 v (.tuple ds) := Rp.mono (n2.trans n3).hi r1
          cases r1' with
          | tup hq r =>
            refine ⟨_, _, rfl, SqT_ex R3.sub hq, by rw [r.length]; exact hw, fun p hp => ?_⟩
            obtain ⟨n4, R4⟩ := R3.laid (o := .tup (cutV _ i j)) hp
            exact k _ _ _ (((n1.trans n2).trans n3).trans n4) R4 (.tup (SqT.of upd_same) ((cut_rel r i j).mono n4.hi))
      · cases ef
    · cases ef
  · cases ef
/-! ### lists of arguments -/
def aNil : OF := fun _ G => some ([], G)
def aCons (f : EF) (r : OF) : OF := fun sl G => match f sl G with
  | some (d, G1) => (match r sl G1 with
    | some (ds, G2) => some (d :: ds, G2)
    | none => none)
  | none => none
variable {es : List Expr} {as : OF}
theorem qa_nil : PA X [] (tAr X.K aNil) := PA.mono pa_nil fun σ H Q q => by
  obtain ⟨fr, Hi, sl, G, ds', G', R, ef, k⟩ := q
  cases ef
  exact k [] Hi H Nx.refl R .nil
theorem qa_cons (he : PE X e (tE X.K f)) (hr : PA X es (tAr X.K as)) (hs : starEach (e :: es) X.env = (false, eval e X.env) :: starEach es X.env := by rfl) : PA X (e :: es) (tAr X.K (aCons f as)) := PA.mono (pa_cons he hr hs) fun σ H Q q => by
  obtain ⟨fr, Hi, sl, G, ds', G', R, ef, k⟩ := q
  unfold aCons at ef
  split at ef
  · rename_i d G1 h1
    split at ef
    · rename_i ds G2 h2
      cases ef
      refine ⟨fr, Hi, sl, G, d, G1, R, h1, fun v Hi1 H1 n1 R1 r1 => ?_⟩
      exact ⟨fr, Hi1, sl, G1, ds, _, R1, h2, fun vs Hi2 H2 n2 R2 r2 => k (v :: vs) Hi2 H2 (n1.trans n2) R2 (.cons (r1.mono n2.hi) r2)⟩
    · cases ef
  · cases ef
def oLst (as : OF) : OF := fun sl G => match as sl G with
  | some (ds, G') => if ds.length ≤ 16777216 then some (ds, G') else none
  | none => none
theorem q_lst (h : PA X es (tAr X.K as)) : PE X (.List es pos) (tO X.K (oLst as)) := PE.mono (pe_lst h) fun σ H Q q => by
  obtain ⟨fr, Hi, sl, G, ds', G', R, ef, k⟩ := q
  unfold oLst at ef
  split at ef
  · rename_i ds G1 h1
    split at ef
    · rename_i hz
      cases ef
      refine ⟨fr, Hi, sl, G, _, _, R, h1, fun vs Hi1 H1 n1 R1 r1 => ⟨by rw [sizeLine_eq, r1.length]; exact hz, fun p hp => ?_⟩⟩
      obtain ⟨n2, R2⟩ := R1.lay (o := .lst vs) hp
      exact k p vs _ _ (n1.trans n2) R2 (n1.free (R1.gne hp) hp) (R1.hifree hp) upd_same r1
    · cases ef
  · cases ef
def eTup (as : OF) : EF := fun sl G => match as sl G with
  | some (ds, G') => if ds.length ≤ 16777216 then some (.tuple ds, G') else none
  | none => none
theorem q_tup {x1 : Nat} (h : PA X es (tAr X.K as)) : PE X (.Tuple es x1 pos) (tE X.K (eTup as)) := PE.mono (pe_tup h) fun σ H Q q => by
  obtain ⟨fr, Hi, sl, G, ds', G', R, ef, k⟩ := q
  unfold eTup at ef
  split at ef
  · rename_i ds G1 h1
    split at ef
    · rename_i hz
      cases ef
      refine ⟨fr, Hi, sl, G, _, _, R, h1, fun vs Hi1 H1 n1 R1 r1 => ⟨by rw [sizeLine_eq, r1.length]; exact hz, fun p hp => ?_⟩⟩
      obtain ⟨n2, R2⟩ := R1.laid (o := .tup vs) hp
      exact k (.ref p) _ _ (n1.trans n2) R2 (.tup (SqT.of upd_same) (r1.mono n2.hi))
    · cases ef
  · cases ef
end
end QL

set_option maxHeartbeats 2000000
namespace QL
open PySem PySem.Spec PyProof.Rows L2
theorem Rl.forget {K : PySem.W.Frag} {fr : Fr} {Hi H : Hp} {σ : L2.St} {sl : Sl} {G : GS} {p : Addr} (R : Rl K fr Hi H σ sl G) (h : Hi p = none) (hg : fr.g ≠ some p) (h0 : fr.H0 p = none) (ho : ∀ (j : Nat) (es : List PyData), sl[j]? = some (.own es) → σ[j]? ≠ some (some (.ref p))) : Rl K fr Hi (hid (some p) H) σ sl G where
  sub := fun a o e => by
    rw [hid_ne fun z => by
      have : p = a := Option.some.inj z
      rw [← this, h] at e; cases e]
    exact R.sub a o e
  hi := R.hi
  nw := R.nw
  keep := fun a o e => by
    have q := R.keep a o e
    obtain ⟨z1, z2⟩ := hid_some q
    rw [hid_ne z1, hid_ne fun z => by
      have : p = a := Option.some.inj z
      obtain ⟨_, z4⟩ := hid_some e
      rw [← this, h0] at z4; cases z4]
    exact z2
  len := R.len
  at_ := fun i s hs => by
    have q := R.at_ i s hs
    cases s with
    | own ds =>
      obtain ⟨a, vs, e, h1, r, h2, h3, h4⟩ := q
      refine ⟨a, vs, e, ?_, r, h2, h3, h4⟩
      rw [hid_ne fun z => ho i ds hs (by rw [Option.some.inj z]; exact e)]; exact h1
    | _ => exact q
  inj := R.inj
  gen := fun a e => by
    obtain ⟨z1, vs, z2, z3⟩ := R.gen a e
    refine ⟨z1, vs, ?_, z3⟩
    rw [hid_ne fun z => hg (by rw [Option.some.inj z]; exact e)]; exact z2
/-! ### what a def hands back -/
inductive RV where
  | val (d : PyData)
  /-- a list that is new -/
  | own (ds : List PyData)
def RV.d : RV → PyData
  | .val d => d
  | .own ds => .list ds
def RvR (K : PySem.W.Frag) (H Hi' H' : Hp) (v : V) : RV → Prop
  | .val d => Rp K Hi' v d
  | .own ds => ∃ p vs, v = .ref p ∧ H p = none ∧ Hi' p = none ∧ H' p = some (.lst vs) ∧ RpL K Hi' vs ds
/-- a def that shares nothing: of data, a datum -/
abbrev DF := List PyData → Option RV
def spF (K : PySem.W.Frag) (f : DF) : Sp := fun vs H Q _ => ∃ Hi ds r, Ex Hi H ∧ RpL K Hi vs ds ∧ f ds = some r ∧
  ∀ v Hi' H', Ex Hi Hi' → Ex H H' → Ex Hi' H' → (∀ a, Hi' a ≠ none → Hi a = none → H a = none) → RvR K H Hi' H' v r → Q v H'
/-- a def whose first argument is the shared object -/
abbrev GF := List PyData → GS → Option (RV × GS)
def spG (K : PySem.W.Frag) (f : GF) : Sp := fun vs H Q _ => ∃ g gs Hi ws ds G r G', vs = .ref g :: ws ∧ H g = some (.lst gs) ∧ Hi g = none ∧ RpL K Hi gs G ∧ Ex Hi H ∧ RpL K Hi ws ds ∧ f ds G = some (r, G') ∧
  ∀ v Hi' H' gs', Ex Hi Hi' → Ex (hid (some g) H) (hid (some g) H') → Ex Hi' H' → (∀ a, Hi' a ≠ none → Hi a = none → H a = none) → Hi' g = none → H' g = some (.lst gs') → RpL K Hi' gs' G' → RvR K H Hi' H' v r → Q v H'
section
variable {X : Cx} {e a b c : Expr} {f fa fb fc : EF} {pos p : Pos} {es : List Expr} {as : OF}
def eCall (f : DF) (as : OF) : EF := fun sl G => match as sl G with
  | some (ds, G1) => (match f ds with
    | some r => some (r.d, G1)
    | none => none)
  | none => none
def oCall (f : DF) (as : OF) : OF := fun sl G => match as sl G with
  | some (ds, G1) => (match f ds with
    | some (.own zs) => some (zs, G1)
    | _ => none)
  | none => none
theorem Nx.of_full {fr : Fr} {Hi H Hi' H' : Hp} (h1 : Ex Hi Hi') (h2 : Ex H H') (nw : ∀ a, Hi' a ≠ none → Hi a = none → H a = none) : Nx fr Hi H Hi' H' := ⟨h1, fun a o h => by
  obtain ⟨e1, e2⟩ := hid_some h
  rw [hid_ne e1]; exact h2 a o e2, fun a _ => nw a⟩
/-- a call's end, the result a datum -/
theorem RvR.datum {K : PySem.W.Frag} {fr : Fr} {Hi H Hi' H' : Hp} {σ : L2.St} {sl : Sl} {G G' : GS} {v : V} {r : RV} (R : Rl K fr Hi H σ sl G) (n : Nx fr Hi H Hi' H') (R' : Rl K fr Hi' H' σ sl G') (q : RvR K H Hi' H' v r) :
    ∃ Hi'', Nx fr Hi H Hi'' H' ∧ Rl K fr Hi'' H' σ sl G' ∧ Rp K Hi'' v r.d := by
  cases r with
  | val d => exact ⟨Hi', n, R', q⟩
  | own ds =>
    obtain ⟨p, vs, e, h1, h2, h3, r⟩ := q
    subst e
    refine ⟨upd Hi' p (.lst vs), n.add h1 h2, R'.become h3 h2 (R.gne h1) (R.h0free h1) (R.unown h1), .lst upd_same (r.mono (Ex.new h2))⟩
theorem eCall_ok {K : PySem.W.Frag} {df : DF} {σ : L2.St} {H : Hp} {Q : VK} {E : XK} (q : tE K (eCall df as) σ H Q) : tCall (spF K df) [] E (tAr K as) σ H Q := by
  obtain ⟨fr, Hi, sl, G, d, G', R, ef, k⟩ := q
  unfold eCall at ef
  split at ef
  · rename_i ds G1 h1
    split at ef
    · rename_i r hr
      cases ef
      refine ⟨fr, Hi, sl, G, ds, _, R, h1, fun vs Hi1 H1 n1 R1 r1 => ?_⟩
      refine ⟨Hi1, ds, r, R1.sub, by rw [List.append_nil]; exact r1, hr, fun v Hi2 H2 e1 e2 e3 nw rv => ?_⟩
      have n2 : Nx fr Hi1 H1 Hi2 H2 := Nx.of_full e1 e2 nw
      have R2 : Rl K fr Hi2 H2 σ sl _ := R1.step n2 e3 (R1.gen_of n2 (fun a _ => nw a) fun a ea => by
        obtain ⟨_, ws, hw, _⟩ := R1.gen a ea
        rw [hw]; exact e2 _ _ hw)
      obtain ⟨Hi3, n3, R3, r3⟩ := RvR.datum R1 n2 R2 rv
      exact k v Hi3 H2 (n1.trans n3) R3 r3
    · cases ef
  · cases ef
theorem oCall_ok {K : PySem.W.Frag} {df : DF} {σ : L2.St} {H : Hp} {Q : VK} {E : XK} (q : tO K (oCall df as) σ H Q) : tCall (spF K df) [] E (tAr K as) σ H Q := by
  obtain ⟨fr, Hi, sl, G, d, G', R, ef, k⟩ := q
  unfold oCall at ef
  split at ef
  · rename_i ds G1 h1
    split at ef
    · rename_i zs hr
      cases ef
      refine ⟨fr, Hi, sl, G, ds, _, R, h1, fun vs Hi1 H1 n1 R1 r1 => ?_⟩
      refine ⟨Hi1, ds, _, R1.sub, by rw [List.append_nil]; exact r1, hr, fun v Hi2 H2 e1 e2 e3 nw rv => ?_⟩
      have n2 : Nx fr Hi1 H1 Hi2 H2 := Nx.of_full e1 e2 nw
      have R2 : Rl K fr Hi2 H2 σ sl _ := R1.step n2 e3 (R1.gen_of n2 (fun a _ => nw a) fun a ea => by
        obtain ⟨_, ws, hw, _⟩ := R1.gen a ea
        rw [hw]; exact e2 _ _ hw)
      obtain ⟨p, vs', ev, h5, h6, h7, r7⟩ := rv
      rw [ev]
      exact k p vs' Hi2 H2 (n1.trans n2) R2 (n1.free (R1.gne h5) h5) h6 h7 r7
    · cases ef
  · cases ef
section
variable {CX : CXT} {kk : Nat} {fAddr : Addr} {fd : FuncData} {ps : List Str} {E : XK} {x : Str} {df : DF} {gf : GF}
theorem q_call (F : FnOk X.prog X.w X.K X.mg X.base CX kk fAddr fd ps (spF X.K df)) (hr : Room kk X.A) (hg : Gl X x) (hm : X.mg x = some (.ref fAddr)) (hk : PySem.W.keepIn X.K (.ref fAddr) = true) (hb : Binds X.K fd ps []) (hx : Passes CX X E) (ha : PA X (e :: es) (tAr X.K as)) (hdb : (x == ("__debug__" : Str)) = false := by decide)
    (he : starEach (e :: es) X.env = (false, eval e X.env) :: starEach es X.env := by rfl) (hpl : (backTo pos (starEach es X.env)).any (·.1) = false := by rfl) : PE X (.Call (.Name x p) (e :: es) [] pos) (tE X.K (eCall df as)) :=
  PE.mono (pe_call F hr hg hm hk hb .nil hx ha hdb he hpl) fun _ _ _ q => eCall_ok q
theorem q_callO (F : FnOk X.prog X.w X.K X.mg X.base CX kk fAddr fd ps (spF X.K df)) (hr : Room kk X.A) (hg : Gl X x) (hm : X.mg x = some (.ref fAddr)) (hk : PySem.W.keepIn X.K (.ref fAddr) = true) (hb : Binds X.K fd ps []) (hx : Passes CX X E) (ha : PA X (e :: es) (tAr X.K as)) (hdb : (x == ("__debug__" : Str)) = false := by decide)
    (he : starEach (e :: es) X.env = (false, eval e X.env) :: starEach es X.env := by rfl) (hpl : (backTo pos (starEach es X.env)).any (·.1) = false := by rfl) : PE X (.Call (.Name x p) (e :: es) [] pos) (tO X.K (oCall df as)) :=
  PE.mono (pe_call F hr hg hm hk hb .nil hx ha hdb he hpl) fun _ _ _ q => oCall_ok q
/-! ### a call that shares the shared object: f(g, e, ..) -/
def eCallG (i : Nat) (f : GF) (as : OF) : EF := fun sl G => match sl[i]? with
  | some .gen => (match as sl G with
    | some (ds, G1) => (match f ds G1 with
      | some (r, G2) => some (r.d, G2)
      | none => none)
    | none => none)
  | _ => none
def tArG (K : PySem.W.Frag) (i : Nat) (f : OF) : TA := fun σ H Q => ∃ fr Hi sl G ds G', Rl K fr Hi H σ sl G ∧ sl[i]? = some .gen ∧ f sl G = some (ds, G') ∧ ∀ g vs Hi' H', fr.g = some g → Nx fr Hi H Hi' H' → Rl K fr Hi' H' σ sl G' → RpL K Hi' vs ds → Q (.ref g :: vs) H'
theorem qa_gen {i : Nat} (he : PE X e (tVar i)) (hr : PA X es (tAr X.K as)) (hs : starEach (e :: es) X.env = (false, eval e X.env) :: starEach es X.env := by rfl) : PA X (e :: es) (tArG X.K i as) := PA.mono (pa_cons he hr hs) fun σ H Q q => by
  obtain ⟨fr, Hi, sl, G, ds, G', R, hi, ef, k⟩ := q
  obtain ⟨g, hv, hg⟩ := R.at_ i _ hi
  exact ⟨.ref g, hv, fr, Hi, sl, G, ds, G', R, ef, fun vs Hi' H' n R' r => k g vs Hi' H' hg n R' r⟩
theorem Nx.of_hid {fr : Fr} {g : Addr} {Hi H Hi' H' : Hp} (hg : fr.g = some g) (h1 : Ex Hi Hi') (h2 : Ex (hid (some g) H) (hid (some g) H')) (nw : ∀ a, Hi' a ≠ none → Hi a = none → H a = none) : Nx fr Hi H Hi' H' := ⟨h1, by rw [hg]; exact h2, fun a _ => nw a⟩
theorem q_callG {i : Nat} (F : FnOk X.prog X.w X.K X.mg X.base CX kk fAddr fd ps (spG X.K gf)) (hr : Room kk X.A) (hg : Gl X x) (hm : X.mg x = some (.ref fAddr)) (hk : PySem.W.keepIn X.K (.ref fAddr) = true) (hb : Binds X.K fd ps []) (hx : Passes CX X E) (ha : PA X (e :: es) (tArG X.K i as)) (hdb : (x == ("__debug__" : Str)) = false := by decide)
    (he : starEach (e :: es) X.env = (false, eval e X.env) :: starEach es X.env := by rfl) (hpl : (backTo pos (starEach es X.env)).any (·.1) = false := by rfl) : PE X (.Call (.Name x p) (e :: es) [] pos) (tE X.K (eCallG i gf as)) :=
  PE.mono (pe_call F hr hg hm hk hb .nil hx ha hdb he hpl) fun σ H Q q => by
    obtain ⟨fr, Hi, sl, G, d, G', R, ef, k⟩ := q
    unfold eCallG at ef
    split at ef
    · rename_i hi
      split at ef
      · rename_i ds G1 h1
        split at ef
        · rename_i r G2 hr
          cases ef
          refine ⟨fr, Hi, sl, G, ds, G1, R, hi, h1, fun g vs Hi1 H1 hgg n1 R1 r1 => ?_⟩
          obtain ⟨g1, gs, g2, g3⟩ := R1.gen g hgg
          refine ⟨g, gs, Hi1, vs, ds, G1, r, _, by rw [List.append_nil], g2, g1, g3, R1.sub, r1, hr, fun v Hi2 H2 gs' e1 e2 e3 nw k1 k2 k3 rv => ?_⟩
          have n2 : Nx fr Hi1 H1 Hi2 H2 := Nx.of_hid hgg e1 e2 nw
          have R2 : Rl X.K fr Hi2 H2 σ sl _ := R1.step n2 e3 fun a ea => by
            have : a = g := by rw [hgg] at ea; exact (Option.some.inj ea).symm
            subst this
            exact ⟨k1, gs', k2, k3⟩
          obtain ⟨Hi3, n3, R3, r3⟩ := RvR.datum R1 n2 R2 rv
          exact k v Hi3 H2 (n1.trans n3) R3 r3
        · cases ef
      · cases ef
    · cases ef
/-- f(new list): the new list is shared with f alone -/
def eCallN (f : GF) (o : OF) : EF := fun sl G => match o sl G with
  | some (zs, G1) => (match f [] zs with
    | some (r, _) => some (r.d, G1)
    | none => none)
  | none => none
theorem q_callN {o : OF} (F : FnOk X.prog X.w X.K X.mg X.base CX kk fAddr fd ps (spG X.K gf)) (hr : Room kk X.A) (hg : Gl X x) (hm : X.mg x = some (.ref fAddr)) (hk : PySem.W.keepIn X.K (.ref fAddr) = true) (hb : Binds X.K fd ps []) (hx : Passes CX X E) (ha : PE X e (tO X.K o)) (hdb : (x == ("__debug__" : Str)) = false := by decide)
    (he : starEach [e] X.env = (false, eval e X.env) :: starEach [] X.env := by rfl) (hpl : (backTo pos (starEach [] X.env)).any (·.1) = false := by rfl) : PE X (.Call (.Name x p) [e] [] pos) (tE X.K (eCallN gf o)) :=
  PE.mono (pe_call F hr hg hm hk hb .nil hx (pa_cons ha pa_nil he) hdb he hpl) fun σ H Q q => by
    obtain ⟨fr, Hi, sl, G, d, G', R, ef, k⟩ := q
    unfold eCallN at ef
    split at ef
    · rename_i zs G1 h1
      split at ef
      · rename_i r G2 hr
        cases ef
        refine ⟨fr, Hi, sl, G, zs, _, R, h1, fun p vs Hi1 H1 n1 R1 q1 q2 q3 r1 => ?_⟩
        refine ⟨p, vs, Hi1, [], [], zs, r, G2, by simp, q3, q2, r1, R1.sub, .nil, hr, fun v Hi2 H2 gs' e1 e2 e3 nw k1 k2 k3 rv => ?_⟩
        have gp : fr.g ≠ some p := R.gne q1
        have R1' : Rl X.K fr Hi1 (hid (some p) H1) σ sl _ := R1.forget q2 gp (R.h0free q1) (R.unown q1)
        have n1' : Nx fr Hi H Hi1 (hid (some p) H1) := ⟨n1.hi, fun a o ha => by
          obtain ⟨z1, z2⟩ := hid_some ha
          have ap : some p ≠ some a := fun z => by
            have : p = a := Option.some.inj z
            rw [← this, q1] at z2; cases z2
          have h2 := n1.h a o ha
          rw [hid_ne z1] at h2 ⊢
          rw [hid_ne ap]; exact h2, fun a g h1 h2 => n1.nw a g h1 h2⟩
        have nw' : ∀ a, Hi2 a ≠ none → Hi1 a = none → hid (some p) H1 a = none := fun a h1 h2 => by
          unfold hid; split
          · rfl
          · exact nw a h1 h2
        have n2 : Nx fr Hi1 (hid (some p) H1) Hi2 H2 := ⟨e1, fun a o ha => by
          obtain ⟨z1, z2⟩ := hid_some ha
          rw [hid_ne z1]
          exact (hid_some (e2 a o z2)).2, fun a _ => nw' a⟩
        have R2 : Rl X.K fr Hi2 H2 σ sl _ := R1'.step n2 e3 (R1'.gen_of n2 (fun a _ => nw' a) fun a ea => by
          obtain ⟨_, ws, hw, _⟩ := R1'.gen a ea
          rw [hw]; exact (hid_some (e2 _ _ hw)).2)
        have rv' : RvR X.K (hid (some p) H1) Hi2 H2 v r := by
          cases r with
          | val d => exact rv
          | own ds =>
            obtain ⟨p', vs', w1, w2, w3, w4, w5⟩ := rv
            refine ⟨p', vs', w1, ?_, w3, w4, w5⟩
            unfold hid; split
            · rfl
            · exact w2
        obtain ⟨Hi3, n3, R3, r3⟩ := RvR.datum R1' n2 R2 rv'
        exact k v Hi3 H2 (n1'.trans n3) R3 r3
      · cases ef
    · cases ef
end
end
end QL

set_option maxHeartbeats 2000000
namespace QL
open PySem PySem.Spec PyProof.Rows L2
section
variable {X : Cx} {e a b c : Expr} {f fa fb fc : EF} {pos p : Pos} {es : List Expr} {as : OF}
/-! ### built-ins of one argument -/
def e1 (op : PyData → Option PyData) (a : EF) : EF := fun sl G => match a sl G with
  | some (x, G1) => (match op x with
    | some y => some (y, G1)
    | none => none)
  | none => none
structure UnOk (K : PySem.W.Frag) (r : List V → Hp → VK → Prop) (op : PyData → Option PyData) : Prop where
  ok : ∀ fr Hi H (σ : L2.St) (sl : Sl) (G : GS) x dx d (Q : VK), Rl K fr Hi H σ sl G → Rw K fr Hi H x dx → op dx = some d →
    (∀ v Hi' H', Nx fr Hi H Hi' H' → Rl K fr Hi' H' σ sl G → Rp K Hi' v d → Q v H') → r [x] H Q
theorem tCB_w {K : PySem.W.Frag} {r : List V → Hp → VK → Prop} {op : PyData → Option PyData} (B : UnOk K r op) {σ : L2.St} {H : Hp} {Q : VK} (q : tE K (e1 op fa) σ H Q) : tCB r (tCons (tW K fa) tNil) σ H Q := by
  obtain ⟨fr, Hi, sl, G, d', G', R, ef, k⟩ := q
  unfold e1 at ef
  split at ef
  · rename_i x G1 h1
    split at ef
    · rename_i y ho
      cases ef
      exact ⟨fr, Hi, sl, G, x, _, R, h1, fun v Hi1 H1 n1 R1 r1 => B.ok fr Hi1 H1 σ sl _ v x _ Q R1 r1 ho fun w Hi2 H2 n2 R2 r2 => k w Hi2 H2 (n1.trans n2) R2 r2⟩
    · cases ef
  · cases ef
theorem q_B {id : String} {r : List V → Hp → VK → Prop} {op : PyData → Option PyData} {x : Str} (hc : CallR X (.builtin id) r) (B : UnOk X.K r op) (hg : Gl X x) (hm : X.mg x = none) (hv : bootBuiltins x = some (.builtin id)) (ha : PE X e (tW X.K fa)) (hn : x ≠ "__name__" := by decide) (hdb : (x == ("__debug__" : Str)) = false := by decide)
    (he : starEach (e :: []) X.env = (false, eval e X.env) :: starEach [] X.env := by rfl) (hpl : (backTo pos (starEach [] X.env)).any (·.1) = false := by rfl) : PE X (.Call (.Name x p) [e] [] pos) (tE X.K (e1 op fa)) :=
  PE.mono (pe_callB hc hg hm hv (pa_cons ha pa_nil he) hn hdb he hpl) fun _ _ _ q => tCB_w B q
theorem q_BT {T : String} {r : List V → Hp → VK → Prop} {op : PyData → Option PyData} {x : Str} (hc : CallR X (.type T) r) (B : UnOk X.K r op) (hg : Gl X x) (hm : X.mg x = none) (hv : bootBuiltins x = some (.type T)) (ha : PE X e (tW X.K fa)) (hn : x ≠ "__name__" := by decide) (hdb : (x == ("__debug__" : Str)) = false := by decide)
    (he : starEach (e :: []) X.env = (false, eval e X.env) :: starEach [] X.env := by rfl) (hpl : (backTo pos (starEach [] X.env)).any (·.1) = false := by rfl) : PE X (.Call (.Name x p) [e] [] pos) (tE X.K (e1 op fa)) :=
  PE.mono (pe_callTy hc hg hm hv (pa_cons ha pa_nil he) hn hdb he hpl) fun _ _ _ q => tCB_w B q
def dLen (x : PyData) : Option PyData := match x with
  | .list ds => some (.int ds.length)
  | .tuple ds => some (.int ds.length)
  | _ => none
theorem u_len {K : PySem.W.Frag} : UnOk K (fun xs H Q => ∃ p ys, xs = [.ref p] ∧ (SqL K H p ys ∨ SqT K H p ys) ∧ Q (.int ys.length) H) dLen :=
  ⟨fun fr Hi H σ sl G x dx d Q R rx ho k => by
    unfold dLen at ho
    split at ho
    · cases ho
      obtain ⟨a, vs, e, h, r⟩ := rx
      refine ⟨a, vs, by rw [e], .inl (SqL_ex hid_ex h), ?_⟩
      rw [r.length]
      exact k _ Hi H Nx.refl R (.int _)
    · rename_i ds
      cases ho
      have rx' : Rp K Hi x (.tuple ds) := rx
      cases rx' with
      | tup h r =>
        refine ⟨_, _, rfl, .inr (SqT_ex R.sub h), ?_⟩
        rw [r.length]
        exact k _ Hi H Nx.refl R (.int _)
    · cases ho⟩
def dInt (x : PyData) : Option PyData := match x with
  | .int i => some (.int i)
  | .bool b => some (.int (if b then 1 else 0))
  | _ => none
theorem u_int {K : PySem.W.Frag} : UnOk K (fun xs H Q => (∃ i, xs = [.int i] ∧ Q (.int i) H) ∨ ∃ k, xs = [.bl k] ∧ Q (.int (if k then 1 else 0)) H) dInt :=
  ⟨fun fr Hi H σ sl G x dx d Q R rx ho k => by
    unfold dInt at ho
    split at ho
    · cases ho
      exact .inl ⟨_, by rw [rx.int_inv], k _ Hi H Nx.refl R (.int _)⟩
    · rename_i b
      cases ho
      have rx' : Rp K Hi x (.bool b) := rx
      cases rx'
      exact .inr ⟨b, rfl, k _ Hi H Nx.refl R (.int _)⟩
    · cases ho⟩
def dSum (x : PyData) : Option PyData := match x with
  | .list ds => (ints? ds).map fun ns => .int ns.sum
  | _ => none
theorem u_sum {K : PySem.W.Frag} : UnOk K (rSum K) dSum :=
  ⟨fun fr Hi H σ sl G x dx d Q R rx ho k => by
    unfold dSum at ho
    split at ho
    · rename_i ds
      obtain ⟨ns, hn, e⟩ := Option.map_eq_some_iff.mp ho
      subst e
      obtain ⟨a, vs, ev, h, r⟩ := rx
      exact ⟨a, ns, by rw [ev], by rw [← r.ints hn]; exact SqL_ex hid_ex h, k _ Hi H Nx.refl R (.int _)⟩
    · cases ho⟩
/-- x.bit_length() -/
def dBits (x : PyData) : Option PyData := match x with
  | .int i => some (.int (Builtin.Int.intBits i : Nat))
  | _ => none
theorem q_bits {apos : Pos} (ha : PE X e (tE X.K fa)) (hbase : attributeBase e "bit_length" X.env (eval e X.env) = eval e X.env := by rfl) (hline : (apos.endLine == pos.line) = true := by rfl) : PE X (.Call (.Attribute e "bit_length" apos) [] [] pos) (tE X.K (e1 dBits fa)) :=
  PE.mono (pe_bits ha hbase hline) fun σ H Q q => by
    obtain ⟨fr, Hi, sl, G, d', G', R, ef, k⟩ := q
    unfold e1 at ef
    split at ef
    · rename_i x G1 h1
      split at ef
      · rename_i y ho
        cases ef
        unfold dBits at ho
        split at ho
        · cases ho
          exact ⟨fr, Hi, sl, G, _, _, R, h1, fun v Hi1 H1 n1 R1 r1 => ⟨_, r1.int_inv, k _ Hi1 H1 n1 R1 (.int _)⟩⟩
        · cases ho
      · cases ef
    · cases ef
/-- list(xs): a new list -/
def oList (f : EF) : OF := fun sl G => match f sl G with
  | some (.list ds, G1) => some (ds, G1)
  | some (.tuple ds, G1) => some (ds, G1)
  | _ => none
theorem q_list {p : Pos} (hg : Gl X "list") (hm : X.mg "list" = none) (ha : PE X e (tW X.K f)) (he : starEach (e :: []) X.env = (false, eval e X.env) :: starEach [] X.env := by rfl) (hpl : (backTo pos (starEach [] X.env)).any (·.1) = false := by rfl) :
    PE X (.Call (.Name "list" p) [e] [] pos) (tO X.K (oList f)) :=
  PE.mono (pe_callTy call_list_of hg hm (by decide +kernel) (pa_cons ha pa_nil he) (by decide) (by decide) he hpl) fun σ H Q q => by
    obtain ⟨fr, Hi, sl, G, d', G', R, ef, k⟩ := q
    unfold oList at ef
    split at ef
    · rename_i ds G1 h1
      cases ef
      refine ⟨fr, Hi, sl, G, _, _, R, h1, fun v Hi1 H1 n1 R1 r1 => ?_⟩
      obtain ⟨a, vs, ev, hq, r⟩ := r1
      refine ⟨a, vs, by rw [ev], .inl (SqL_ex hid_ex hq), fun p hp => ?_⟩
      obtain ⟨n2, R2⟩ := R1.lay (o := .lst vs) hp
      exact k p vs _ _ (n1.trans n2) R2 (n1.free (R1.gne hp) hp) (R1.hifree hp) upd_same r
    · rename_i ds G1 h1
      cases ef
      refine ⟨fr, Hi, sl, G, _, _, R, h1, fun v Hi1 H1 n1 R1 r1 => ?_⟩
      have r1' : Rp X.K Hi1 v (.tuple d') := r1
      cases r1' with
      | tup hq r =>
        refine ⟨_, _, rfl, .inr (SqT_ex R1.sub hq), fun p hp => ?_⟩
        obtain ⟨n2, R2⟩ := R1.lay (o := .lst _) hp
        exact k p _ _ _ (n1.trans n2) R2 (n1.free (R1.gne hp) hp) (R1.hifree hp) upd_same r
    · cases ef
/-- max(a, b), min(a, b) of ints -/
def eM2 (g : Int → Int → Int) (as : OF) : EF := fun sl G => match as sl G with
  | some ([.int i, .int j], G1) => some (.int (g i j), G1)
  | _ => none
theorem eM2_ok {K : PySem.W.Frag} {g : Int → Int → Int} {σ : L2.St} {H : Hp} {Q : VK} (q : tE K (eM2 g as) σ H Q) : tCB (fun xs H Q => ∃ i j, xs = [.int i, .int j] ∧ Q (.int (g i j)) H) (tAr K as) σ H Q := by
  obtain ⟨fr, Hi, sl, G, d', G', R, ef, k⟩ := q
  unfold eM2 at ef
  split at ef
  · rename_i i j G1 h1
    cases ef
    refine ⟨fr, Hi, sl, G, _, _, R, h1, fun vs Hi1 H1 n1 R1 r1 => ⟨i, j, ?_, k _ Hi1 H1 n1 R1 (.int _)⟩⟩
    cases r1 with
    | cons u t =>
      cases t with
      | cons u2 t2 =>
        cases t2
        rw [u.int_inv, u2.int_inv]
  · cases ef
theorem q_max {p : Pos} (hc : X.calm = true) (hg : Gl X "max") (hm : X.mg "max" = none) (ha : PA X (a :: es) (tAr X.K as)) (he : starEach (a :: es) X.env = (false, eval a X.env) :: starEach es X.env := by rfl) (hpl : (backTo pos (starEach es X.env)).any (·.1) = false := by rfl) :
    PE X (.Call (.Name "max" p) (a :: es) [] pos) (tE X.K (eM2 (fun i j => if j > i then j else i) as)) := PE.mono (pe_callB (call_max2 hc) hg hm (by decide +kernel) ha (by decide) (by decide) he hpl) fun _ _ _ q => eM2_ok q
theorem q_min {p : Pos} (hc : X.calm = true) (hg : Gl X "min") (hm : X.mg "min" = none) (ha : PA X (a :: es) (tAr X.K as)) (he : starEach (a :: es) X.env = (false, eval a X.env) :: starEach es X.env := by rfl) (hpl : (backTo pos (starEach es X.env)).any (·.1) = false := by rfl) :
    PE X (.Call (.Name "min" p) (a :: es) [] pos) (tE X.K (eM2 (fun i j => if j < i then j else i) as)) := PE.mono (pe_callB (call_min2 hc) hg hm (by decide +kernel) ha (by decide) (by decide) he hpl) fun _ _ _ q => eM2_ok q
/-! ### isinstance(x, T) -/
def tyName : PyData → Option String
  | .none => some "NoneType"
  | .bool _ => some "bool"
  | .int _ => some "int"
  | .str _ => some "str"
  | .list _ => some "list"
  | .tuple _ => some "tuple"
  | .dict _ => none
def dIsi (T : String) (x : PyData) : Option PyData := match tyName x with
  | some n => (match kitB n T with
    | some b => some (.bool b)
    | none => none)
  | none => none
theorem Rw.ty {K : PySem.W.Frag} {fr : Fr} {Hi H : Hp} {σ : L2.St} {sl : Sl} {G : GS} {v : V} {d : PyData} {n : String} (R : Rl K fr Hi H σ sl G) (r : Rw K fr Hi H v d) (h : tyName d = some n) : TyX K H v (.type n) := by
  cases d with
  | list ds =>
    cases h
    obtain ⟨a, vs, e, hq, _⟩ := r
    subst e
    rcases SqL_ex hid_ex hq with (q | ⟨o, q⟩) | ⟨o, its, m, q, c, _⟩
    · exact .base (.lst q)
    · exact .base (.frz q)
    · exact .kList q c
  | tuple ds =>
    cases h
    have r' : Rp K Hi v (.tuple ds) := r
    cases r' with
    | tup hq _ =>
      rcases SqT_ex R.sub hq with (q | ⟨o, q⟩) | ⟨o, its, m, q, c, _⟩
      · exact .base (.tup q)
      · exact .fTuple q
      · exact .kTuple q c
  | none => cases h; have r' : Rp K Hi v .none := r; cases r'; exact .base .non
  | bool b => cases h; have r' : Rp K Hi v (.bool b) := r; cases r'; exact .base (.bl b)
  | int i => cases h; have r' : Rp K Hi v (.int i) := r; cases r'; exact .base (.int i)
  | str x => cases h; have r' : Rp K Hi v (.str x) := r; cases r'; exact .base (.str x)
  | dict _ => cases h
theorem q_isi {T : Str} {n : String} {p p1 : Pos} (hg : Gl X "isinstance") (hm : X.mg "isinstance" = none) (hgT : Gl X T) (hmT : X.mg T = none) (hvT : bootBuiltins T = some (.type n)) (ha : PE X e (tW X.K fa)) (hnT : T ≠ "__name__" := by decide) (hdT : (T == ("__debug__" : Str)) = false := by decide)
    (he : starEach (e :: [.Name T p1]) X.env = (false, eval e X.env) :: starEach [.Name T p1] X.env := by rfl) (he2 : starEach [.Name T p1] X.env = (false, eval (.Name T p1) X.env) :: starEach [] X.env := by rfl) (hpl : (backTo pos (starEach [.Name T p1] X.env)).any (·.1) = false := by rfl) :
    PE X (.Call (.Name "isinstance" p) [e, .Name T p1] [] pos) (tE X.K (e1 (dIsi n) fa)) :=
  PE.mono (pe_callB call_isi hg hm (by decide +kernel) (pa_cons ha (pa_cons (pe_bltn (v := .ty n) hgT hmT hvT rfl hnT hdT) pa_nil he2) he) (by decide) (by decide) he hpl) fun σ H Q q => by
    obtain ⟨fr, Hi, sl, G, d', G', R, ef, k⟩ := q
    unfold e1 at ef
    split at ef
    · rename_i x G1 h1
      split at ef
      · rename_i y ho
        cases ef
        unfold dIsi at ho
        split at ho
        · rename_i m hm
          split at ho
          · rename_i b hb
            cases ho
            exact ⟨fr, Hi, sl, G, x, _, R, h1, fun v Hi1 H1 n1 R1 r1 => ⟨v, .ty n, .type m, .type n, b, rfl, .ty n, r1.ty R1 hm, kit_ty hb, k _ Hi1 H1 n1 R1 (.bl b)⟩⟩
          · cases ho
        · cases ho
      · cases ef
    · cases ef
/-! ### what is walked -/
/-- a made walk over the data ds -/
structure ItOk (K : PySem.W.Frag) (fr : Fr) (Hi : Hp) (J : It) (ds : List PyData) : Prop where
  goes : ∀ i Hi2 H2, Ex Hi Hi2 → Ex Hi2 H2 → i < ds.length → J.go i H2
  stops : ∀ Hi2 H2, Ex Hi Hi2 → Ex Hi2 H2 → J.stop ds.length H2
  yields : ∀ i Hi2 H2 x H3 (σ : L2.St) (sl : Sl) (G : GS), Ex Hi Hi2 → Rl K fr Hi2 H2 σ sl G → i < ds.length → J.yld i H2 x H3 → ∃ d Hi3, ds[i]? = some d ∧ Nx fr Hi2 H2 Hi3 H3 ∧ Rl K fr Hi3 H3 σ sl G ∧ Rp K Hi3 x d
def tI (K : PySem.W.Frag) (f : OF) : TI := fun σ H T => ∃ fr Hi sl G ds G', Rl K fr Hi H σ sl G ∧ f sl G = some (ds, G') ∧ ∀ J Hi' H', Nx fr Hi H Hi' H' → Rl K fr Hi' H' σ sl G' → ItOk K fr Hi' J ds → T J H'
theorem PI.mono {tg it : Expr} {t t' : TI} (h : PI X tg it t) (m : ∀ σ H Q, t' σ H Q → t σ H Q) : PI X tg it t' := ⟨fun pins s σ H Q I q => h.run pins s σ H Q I (m σ H Q q)⟩
/-- a list -/
def iL (f : EF) : OF := fun sl G => match f sl G with
  | some (.list ds, G1) => some (ds, G1)
  | _ => none
theorem ItOk.list {K : PySem.W.Frag} {fr : Fr} {Hi : Hp} {a : Addr} {vs : List V} {ds : List PyData} (h : Hi a = some (.lst vs)) (r : RpL K Hi vs ds) : ItOk K fr Hi (Itl K a) ds where
  goes := fun i Hi2 H2 e1 e2 hi => walk_list.goes i H2 (by rw [r.length]; exact hi) (SqL.of (e2 _ _ (e1 _ _ h)))
  stops := fun Hi2 H2 e1 e2 => by
    rw [← r.length]
    exact walk_list.stops H2 (SqL.of (e2 _ _ (e1 _ _ h)))
  yields := fun i Hi2 H2 x H3 σ sl G e1 R hi y => by
    obtain ⟨e, hx⟩ := walk_list.yields i H2 x H3 (by rw [r.length]; exact hi) (SqL.of (R.sub _ _ (e1 _ _ h))) y
    subst e
    obtain ⟨d, hd, rd⟩ := r.getv hx
    exact ⟨d, Hi2, hd, Nx.refl, R, rd.mono e1⟩
theorem qi_list {tg : Expr} (h : PE X e (tE X.K f)) : PI X tg e (tI X.K (iL f)) := PI.mono (pi_list h) fun σ H T q => by
  obtain ⟨fr, Hi, sl, G, ds', G', R, ef, k⟩ := q
  unfold iL at ef
  split at ef
  · rename_i ds G1 h1
    cases ef
    refine ⟨fr, Hi, sl, G, _, _, R, h1, fun v Hi1 H1 n1 R1 r1 => ?_⟩
    cases r1 with
    | lst hq r => exact ⟨_, rfl, ⟨_, SqL.of (R1.sub _ _ hq)⟩, k _ Hi1 H1 n1 R1 (ItOk.list hq r)⟩
  · cases ef
/-- range -/
def rngD (lo : Int) : Nat → List PyData
  | 0 => []
  | n + 1 => .int lo :: rngD (lo + 1) n
theorem rngD_len : ∀ (lo : Int) (n : Nat), (rngD lo n).length = n
  | _, 0 => rfl
  | lo, n + 1 => by show (rngD (lo + 1) n).length + 1 = n + 1; rw [rngD_len]
theorem rngD_at : ∀ (lo : Int) (n i : Nat), i < n → (rngD lo n)[i]? = some (.int (lo + i))
  | _, 0, _, h => by omega
  | lo, n + 1, 0, _ => by simp [rngD]
  | lo, n + 1, i + 1, h => by
    show (rngD (lo + 1) n)[i]? = _
    rw [rngD_at (lo + 1) n i (by omega)]
    congr 2
    omega
theorem ItOk.rng {K : PySem.W.Frag} {fr : Fr} {Hi : Hp} {lo : Int} {n : Nat} : ItOk K fr Hi (Itr lo n) (rngD lo n) where
  goes := fun i _ H2 _ _ hi => walk_range.goes i H2 (by rwa [rngD_len] at hi) trivial
  stops := fun _ H2 _ _ => by rw [rngD_len]; exact walk_range.stops H2 trivial
  yields := fun i Hi2 H2 x H3 σ sl G e1 R hi y => by
    rw [rngD_len] at hi
    obtain ⟨e, hx⟩ := walk_range.yields i H2 x H3 hi trivial y
    subst e
    exact ⟨_, Hi2, rngD_at lo n i hi, Nx.refl, R, by rw [hx]; exact .int _⟩
def okR (i : Int) : Bool := Nat.ble i.natAbs 1000000000000
def iR (as : OF) : OF := fun sl G => match as sl G with
  | some ([.int n], G1) => if okR n = true then some (rngD 0 n.toNat, G1) else none
  | some ([.int i, .int j], G1) => if (okR i && okR j) = true then some (rngD i (j - i).toNat, G1) else none
  | _ => none
theorem okR_ok {i : Int} (h : okR i = true) : -(2 ^ 62) ≤ i ∧ i < 2 ^ 62 := by
  have := Nat.le_of_ble_eq_true h
  omega
theorem RpL.one {K : PySem.W.Frag} {H : Hp} {vs : List V} {i : Int} (r : RpL K H vs [.int i]) : vs = [.int i] := by
  cases r with
  | cons u t => cases t; rw [u.int_inv]
theorem RpL.two {K : PySem.W.Frag} {H : Hp} {vs : List V} {i j : Int} (r : RpL K H vs [.int i, .int j]) : vs = [.int i, .int j] := by
  cases r with
  | cons u t => cases t with
    | cons u2 t2 => cases t2; rw [u.int_inv, u2.int_inv]
theorem RpL.three {K : PySem.W.Frag} {H : Hp} {vs : List V} {i j k : Int} (r : RpL K H vs [.int i, .int j, .int k]) : vs = [.int i, .int j, .int k] := by
  cases r with
  | cons u t => cases t with
    | cons u2 t2 => cases t2 with
      | cons u3 t3 => cases t3; rw [u.int_inv, u2.int_inv, u3.int_inv]
def iR1 (as : OF) : OF := fun sl G => match as sl G with
  | some ([.int n], G1) => if okR n = true then some (rngD 0 n.toNat, G1) else none
  | _ => none
def iR2 (as : OF) : OF := fun sl G => match as sl G with
  | some ([.int i, .int j], G1) => if (okR i && okR j) = true then some (rngD i (j - i).toNat, G1) else none
  | _ => none
theorem qi_r1 {tg : Expr} (hg : Gl X "range") (hm : X.mg "range" = none) (ha : PA X [a] (tAr X.K as)) (hs : starEach [a] X.env = [(false, eval a X.env)] := by rfl) : PI X tg (.Call (.Name "range" p) [a] [] pos) (tI X.K (iR1 as)) := PI.mono (pi_range1 hg hm ha hs) fun σ H T q => by
  obtain ⟨fr, Hi, sl, G, ds', G', R, ef, k⟩ := q
  unfold iR1 at ef
  split at ef
  · rename_i n G1 h1
    split at ef
    · rename_i hn
      cases ef
      refine ⟨fr, Hi, sl, G, _, _, R, h1, fun vs Hi1 H1 n1 R1 r1 => ⟨n, r1.one, (okR_ok hn).1, (okR_ok hn).2, k _ Hi1 H1 n1 R1 ItOk.rng⟩⟩
    · cases ef
  · cases ef
theorem qi_r2 {tg : Expr} (hg : Gl X "range") (hm : X.mg "range" = none) (ha : PA X [a, b] (tAr X.K as)) (hs : starEach [a, b] X.env = [(false, eval a X.env), (false, eval b X.env)] := by rfl) (hs2 : starEach [b] X.env = [(false, eval b X.env)] := by rfl) : PI X tg (.Call (.Name "range" p) [a, b] [] pos) (tI X.K (iR2 as)) := PI.mono (pi_range2 hg hm ha hs hs2) fun σ H T q => by
  obtain ⟨fr, Hi, sl, G, ds', G', R, ef, k⟩ := q
  unfold iR2 at ef
  split at ef
  · rename_i i j G1 h1
    split at ef
    · rename_i hn
      obtain ⟨hi, hj⟩ := Bool.and_eq_true_iff.mp hn
      cases ef
      exact ⟨fr, Hi, sl, G, _, _, R, h1, fun vs Hi1 H1 n1 R1 r1 => ⟨i, j, r1.two, ⟨(okR_ok hi).1, (okR_ok hi).2, (okR_ok hj).1, (okR_ok hj).2⟩, k _ Hi1 H1 n1 R1 ItOk.rng⟩⟩
    · cases ef
  · cases ef
/-- range down by ones -/
def rngDn (hi : Int) : Nat → List PyData
  | 0 => []
  | n + 1 => .int hi :: rngDn (hi - 1) n
theorem rngDn_len : ∀ (lo : Int) (n : Nat), (rngDn lo n).length = n
  | _, 0 => rfl
  | lo, n + 1 => by show (rngDn (lo - 1) n).length + 1 = n + 1; rw [rngDn_len]
theorem rngDn_at : ∀ (lo : Int) (n i : Nat), i < n → (rngDn lo n)[i]? = some (.int (lo + (i : Nat) * -1))
  | _, 0, _, h => by omega
  | lo, n + 1, 0, _ => by simp [rngDn]
  | lo, n + 1, i + 1, h => by
    show (rngDn (lo - 1) n)[i]? = _
    rw [rngDn_at (lo - 1) n i (by omega)]
    congr 2
    omega
theorem ItOk.rngDn {K : PySem.W.Frag} {fr : Fr} {Hi : Hp} {lo : Int} {n : Nat} : ItOk K fr Hi (Itc lo (-1) n) (rngDn lo n) where
  goes := fun i _ H2 _ _ hi => walk_rangeC.goes i H2 (by rwa [rngDn_len] at hi) trivial
  stops := fun _ H2 _ _ => by rw [rngDn_len]; exact walk_rangeC.stops H2 trivial
  yields := fun i Hi2 H2 x H3 σ sl G e1 R hi y => by
    rw [rngDn_len] at hi
    obtain ⟨e, hx⟩ := walk_rangeC.yields i H2 x H3 hi trivial y
    subst e
    exact ⟨_, Hi2, rngDn_at lo n i hi, Nx.refl, R, by rw [hx]; exact .int _⟩
def iR3 (as : OF) : OF := fun sl G => match as sl G with
  | some ([.int i, .int j, .int k], G1) => if (decide (k = -1) && (okR i && okR j)) = true then some (rngDn i (i - j).toNat, G1) else none
  | _ => none
theorem qi_r3 {tg : Expr} (hg : Gl X "range") (hm : X.mg "range" = none) (ha : PA X [a, b, c] (tAr X.K as)) (hs : starEach [a, b, c] X.env = (false, eval a X.env) :: starEach [b, c] X.env := by rfl) (hpl : (backTo pos (starEach [b, c] X.env)).any (·.1) = false := by rfl) : PI X tg (.Call (.Name "range" p) [a, b, c] [] pos) (tI X.K (iR3 as)) := PI.mono (pi_range3 hg hm ha hs hpl) fun σ H T q => by
  obtain ⟨fr, Hi, sl, G, ds', G', R, ef, k⟩ := q
  unfold iR3 at ef
  split at ef
  · rename_i i j m G1 h1
    split at ef
    · rename_i hn
      obtain ⟨hm, hn⟩ := Bool.and_eq_true_iff.mp hn
      obtain ⟨hi, hj⟩ := Bool.and_eq_true_iff.mp hn
      have em : m = -1 := of_decide_eq_true hm
      subst em
      cases ef
      refine ⟨fr, Hi, sl, G, _, _, R, h1, fun vs Hi1 H1 n1 R1 r1 => ⟨i, j, -1, (i - j).toNat, r1.three, RgC.neg (okR_ok hi).1 (okR_ok hi).2 (okR_ok hj).1 (okR_ok hj).2, k _ Hi1 H1 n1 R1 ItOk.rngDn⟩⟩
    · cases ef
  · cases ef
/-- enumerate(xs) -/
def enumD : Nat → List PyData → List PyData
  | _, [] => []
  | i, d :: r => .tuple [.int i, d] :: enumD (i + 1) r
theorem enumD_len : ∀ (i : Nat) (ds : List PyData), (enumD i ds).length = ds.length
  | _, [] => rfl
  | i, d :: r => by show (enumD (i + 1) r).length + 1 = r.length + 1; rw [enumD_len]
theorem enumD_at : ∀ (k : Nat) (ds : List PyData) (i : Nat) (d : PyData), ds[i]? = some d → (enumD k ds)[i]? = some (.tuple [.int ((k + i : Nat) : Int), d])
  | _, [], _, _, h => by simp at h
  | k, x :: r, 0, d, h => by
    have e : x = d := by simpa using h
    subst e
    simp [enumD]
  | k, x :: r, i + 1, d, h => by
    show (enumD (k + 1) r)[i]? = _
    rw [enumD_at (k + 1) r i d (by simpa using h)]
    have : k + 1 + i = k + (i + 1) := by omega
    rw [this]
theorem ItOk.enum {K : PySem.W.Frag} {fr : Fr} {Hi : Hp} {a : Addr} {vs : List V} {ds : List PyData} (h : Hi a = some (.lst vs)) (r : RpL K Hi vs ds) : ItOk K fr Hi (Ite K a) (enumD 0 ds) where
  goes := fun i Hi2 H2 e1 e2 hi => walk_enum.goes i H2 (by rw [r.length]; rwa [enumD_len] at hi) (SqL.of (e2 _ _ (e1 _ _ h)))
  stops := fun Hi2 H2 e1 e2 => by
    rw [enumD_len, ← r.length]
    exact walk_enum.stops H2 (SqL.of (e2 _ _ (e1 _ _ h)))
  yields := fun i Hi2 H2 x H3 σ sl G e1 R hi y => by
    rw [enumD_len] at hi
    obtain ⟨T, x1, x2, ex, hT, e3, h1, h2⟩ := walk_enum.yields i H2 x H3 (by rw [r.length]; exact hi) (SqL.of (R.sub _ _ (e1 _ _ h))) y
    cases h1
    subst ex
    subst e3
    obtain ⟨d, hd, rd⟩ := r.getv h2
    obtain ⟨n, R3⟩ := R.laid (o := .tup [.int (i : Nat), x2]) hT
    refine ⟨_, _, enumD_at 0 ds i d hd, n, R3, ?_⟩
    rw [Nat.zero_add]
    exact .tup (SqT.of upd_same) (.cons (.int _) (.cons ((rd.mono e1).mono n.hi) .nil))
def iEn (as : OF) : OF := fun sl G => match as sl G with
  | some ([.list ds], G1) => some (enumD 0 ds, G1)
  | _ => none
theorem RpL.oneL {K : PySem.W.Frag} {H : Hp} {vs : List V} {ds : List PyData} (r : RpL K H vs [.list ds]) : ∃ a xs, vs = [.ref a] ∧ H a = some (.lst xs) ∧ RpL K H xs ds := by
  cases r with
  | cons u t =>
    cases t
    cases u with
    | lst h r => exact ⟨_, _, rfl, h, r⟩
theorem qi_enum {tpos : Pos} {elts : List Expr} {kk : Nat} (hg : Gl X "enumerate") (hm : X.mg "enumerate" = none) (ha : PA X [e] (tAr X.K as)) (hs : starEach [e] X.env = [(false, eval e X.env)] := by rfl) :
    PI X (.Tuple elts kk tpos) (.Call (.Name "enumerate" p) [e] [] pos) (tI X.K (iEn as)) := PI.mono (pi_enum hg hm ha hs) fun σ H T q => by
  obtain ⟨fr, Hi, sl, G, ds', G', R, ef, k⟩ := q
  unfold iEn at ef
  split at ef
  · rename_i ds G1 h1
    cases ef
    refine ⟨fr, Hi, sl, G, _, _, R, h1, fun vs Hi1 H1 n1 R1 r1 => ?_⟩
    obtain ⟨a, xs, ev, h, r⟩ := r1.oneL
    exact ⟨a, xs, ev, SqL.of (R1.sub _ _ h), k _ Hi1 H1 n1 R1 (ItOk.enum h r)⟩
  · cases ef
/-- zip(xs, ys) -/
def zipD : List PyData → List PyData → List PyData
  | a :: r, b :: s => .tuple [a, b] :: zipD r s
  | _, _ => []
theorem zipD_len : ∀ (a b : List PyData), (zipD a b).length = min a.length b.length
  | [], _ => by simp [zipD]
  | _ :: _, [] => by simp [zipD]
  | x :: r, y :: s => by simp only [zipD, List.length_cons]; rw [zipD_len]; omega
theorem zipD_at : ∀ (as bs : List PyData) (i : Nat) (a b : PyData), as[i]? = some a → bs[i]? = some b → (zipD as bs)[i]? = some (.tuple [a, b])
  | [], _, _, _, _, h, _ => by simp at h
  | _ :: _, [], _, _, _, _, h => by simp at h
  | x :: r, y :: s, 0, a, b, h1, h2 => by
    have e1 : x = a := by simpa using h1
    have e2 : y = b := by simpa using h2
    subst e1; subst e2
    simp [zipD]
  | x :: r, y :: s, i + 1, a, b, h1, h2 => zipD_at r s i a b (by simpa using h1) (by simpa using h2)
theorem ItOk.zip {K : PySem.W.Frag} {fr : Fr} {Hi : Hp} {a b : Addr} {vs ws : List V} {ds es : List PyData} (h : Hi a = some (.lst vs)) (r : RpL K Hi vs ds) (h' : Hi b = some (.lst ws)) (r' : RpL K Hi ws es) : ItOk K fr Hi (Itz K a b) (zipD ds es) where
  goes := fun i Hi2 H2 e1 e2 hi => (walk_zip (n := min vs.length ws.length) rfl).goes i H2 (by rw [r.length, r'.length]; rwa [zipD_len] at hi) ⟨SqL.of (e2 _ _ (e1 _ _ h)), SqL.of (e2 _ _ (e1 _ _ h'))⟩
  stops := fun Hi2 H2 e1 e2 => by
    rw [zipD_len, ← r.length, ← r'.length]
    exact (walk_zip rfl).stops H2 ⟨SqL.of (e2 _ _ (e1 _ _ h)), SqL.of (e2 _ _ (e1 _ _ h'))⟩
  yields := fun i Hi2 H2 x H3 σ sl G e1 R hi y => by
    rw [zipD_len] at hi
    obtain ⟨T, x1, x2, ex, hT, e3, h1, h2⟩ := (walk_zip (n := min vs.length ws.length) rfl).yields i H2 x H3 (by rw [r.length, r'.length]; exact hi) ⟨SqL.of (R.sub _ _ (e1 _ _ h)), SqL.of (R.sub _ _ (e1 _ _ h'))⟩ y
    subst ex
    subst e3
    obtain ⟨d, hd, rd⟩ := r.getv h1
    obtain ⟨d', hd', rd'⟩ := r'.getv h2
    obtain ⟨n, R3⟩ := R.laid (o := .tup [x1, x2]) hT
    refine ⟨_, _, zipD_at ds es i d d' hd hd', n, R3, ?_⟩
    exact .tup (SqT.of upd_same) (.cons ((rd.mono e1).mono n.hi) (.cons ((rd'.mono e1).mono n.hi) .nil))
def iZi (as : OF) : OF := fun sl G => match as sl G with
  | some ([.list ds, .list es], G1) => some (zipD ds es, G1)
  | _ => none
theorem RpL.twoL {K : PySem.W.Frag} {H : Hp} {vs : List V} {ds es : List PyData} (r : RpL K H vs [.list ds, .list es]) : ∃ a b xs ys, vs = [.ref a, .ref b] ∧ H a = some (.lst xs) ∧ RpL K H xs ds ∧ H b = some (.lst ys) ∧ RpL K H ys es := by
  cases r with
  | cons u t =>
    cases t with
    | cons u2 t2 =>
      cases t2
      cases u with
      | lst h r => cases u2 with
        | lst h' r' => exact ⟨_, _, _, _, rfl, h, r, h', r'⟩
theorem qi_zip {tpos : Pos} {elts : List Expr} {kk : Nat} (hg : Gl X "zip") (hm : X.mg "zip" = none) (ha : PA X [a, b] (tAr X.K as)) (hs : starEach [a, b] X.env = (false, eval a X.env) :: starEach [b] X.env := by rfl) (hpl : (backTo pos (starEach [b] X.env)).any (·.1) = false := by rfl) :
    PI X (.Tuple elts kk tpos) (.Call (.Name "zip" p) [a, b] [] pos) (tI X.K (iZi as)) := PI.mono (pi_zip hg hm ha hs hpl) fun σ H T q => by
  obtain ⟨fr, Hi, sl, G, ds', G', R, ef, k⟩ := q
  unfold iZi at ef
  split at ef
  · rename_i ds es G1 h1
    cases ef
    refine ⟨fr, Hi, sl, G, _, _, R, h1, fun vs Hi1 H1 n1 R1 r1 => ?_⟩
    obtain ⟨a, b, xs, ys, ev, h, r, h', r'⟩ := r1.twoL
    exact ⟨a, b, xs, ys, ev, SqL.of (R1.sub _ _ h), SqL.of (R1.sub _ _ h'), k _ Hi1 H1 n1 R1 (ItOk.zip h r h' r')⟩
  · cases ef
end
end QL

set_option maxHeartbeats 2000000
namespace QL
open PySem PySem.Spec PyProof.Rows L2
section
variable {X : Cx} {e a b c : Expr} {f fa fb fc : EF} {pos p : Pos} {es : List Expr} {as : OF}
/-! ### targets -/
abbrev TgF := PyData → Sl → Option Sl
def tG (K : PySem.W.Frag) (g : TgF) : TG := fun v σ H Q => ∃ fr Hi sl G d sl', Rl K fr Hi H σ sl G ∧ Rp K Hi v d ∧ g d sl = some sl' ∧ ∀ σ', Rl K fr Hi H σ' sl' G → Q σ' H
def gN (i : Nat) : TgF := fun d sl => some (sl.set i (.val d))
theorem qg_name {i : Nat} {x : Str} (hN : X.N.Nodup) (hi : X.N[i]? = some x) (hx : Loc X.env.scope x) (hf : X.fn x = true ∨ X.env.scope.names.lookup x = some .local := by first | exact .inl rfl | exact .inr rfl | assumption) : PG X (.Name x pos) (tG X.K (gN i)) := by
  refine ⟨fun pins s σ H v u Q I r h => ?_⟩
  refine (pg_name hN hi hx hf).run pins s σ H v u Q I r ?_
  obtain ⟨fr, Hi, sl, G, d, sl', R, rv, eg, k⟩ := h
  cases eg
  exact k _ (R.setVal rv)
def gsSet : List TgF → List PyData → Sl → Option Sl
  | [], [], sl => some sl
  | g :: gs, d :: ds, sl => (match g d sl with
    | some sl1 => gsSet gs ds sl1
    | none => none)
  | _, _, _ => none
def tGs (K : PySem.W.Frag) (gs : List TgF) : TGs := fun vs σ H Q => ∃ fr Hi sl G ds sl', Rl K fr Hi H σ sl G ∧ RpL K Hi vs ds ∧ gsSet gs ds sl = some sl' ∧ ∀ σ', Rl K fr Hi H σ' sl' G → Q σ' H
variable {tg : Expr} {tgs : List Expr} {g : TgF} {gs : List TgF}
theorem PGs.mono {tgs : List Expr} {t t' : TGs} (h : PGs X tgs t) (m : ∀ vs σ H Q, t' vs σ H Q → t vs σ H Q) : PGs X tgs t' := ⟨fun pins s σ H vs us Q I r q => h.run pins s σ H vs us Q I r (m vs σ H Q q)⟩
theorem PG.mono {tg : Expr} {t t' : TG} (h : PG X tg t) (m : ∀ v σ H Q, t' v σ H Q → t v σ H Q) : PG X tg t' := ⟨fun pins s σ H v u Q I r q => h.run pins s σ H v u Q I r (m v σ H Q q)⟩
theorem qgs_nil : PGs X [] (tGs X.K []) := PGs.mono pgs_nil fun vs σ H Q q => by
  obtain ⟨fr, Hi, sl, G, ds, sl', R, rv, eg, k⟩ := q
  cases rv with
  | nil => cases eg; exact ⟨rfl, k σ R⟩
  | cons _ _ => cases eg
theorem qgs_cons (h1 : PG X tg (tG X.K g)) (h2 : PGs X tgs (tGs X.K gs)) (hs : (assignEach (tg :: tgs) X.env).map (·.2) = assign tg X.env :: (assignEach tgs X.env).map (·.2) := by rfl) : PGs X (tg :: tgs) (tGs X.K (g :: gs)) := PGs.mono (pgs_cons h1 h2 hs) fun vs σ H Q q => by
  obtain ⟨fr, Hi, sl, G, ds, sl', R, rv, eg, k⟩ := q
  cases rv with
  | nil => cases eg
  | cons r t =>
    rename_i v vs d ds
    have eg' : (match g d sl with | some sl1 => gsSet gs ds sl1 | none => none) = some sl' := eg
    split at eg'
    · rename_i sl1 h1
      refine ⟨v, vs, rfl, fr, Hi, sl, G, d, sl1, R, r, h1, fun σ' R' => ?_⟩
      exact ⟨fr, Hi, sl1, G, ds, sl', R', t, eg', k⟩
    · cases eg'
def gT (gs : List TgF) : TgF := fun d sl => match d with
  | .tuple ds => gsSet gs ds sl
  | _ => none
theorem gsSet_len : ∀ {gs : List TgF} {ds : List PyData} {sl sl' : Sl}, gsSet gs ds sl = some sl' → ds.length = gs.length
  | [], [], _, _, _ => rfl
  | [], _ :: _, _, _, h => by cases h
  | _ :: _, [], _, _, h => by cases h
  | g :: gs, d :: ds, sl, sl', h => by
    have h' : (match g d sl with | some sl1 => gsSet gs ds sl1 | none => none) = some sl' := h
    split at h'
    · show ds.length + 1 = gs.length + 1
      rw [gsSet_len h']
    · cases h'
theorem qg_tup {k n : Nat} (hc : X.calm = true) (h : PGs X tgs (tGs X.K gs)) (hl : gs.length = n := by rfl) (hn : (assignEach tgs X.env).length = n := by rfl) (hst : (assignEach tgs X.env).findIdx? (·.1) = none := by rfl) : PG X (.Tuple tgs k pos) (tG X.K (gT gs)) := PG.mono (pg_tup (n := n) hc h hn hst) fun v σ H Q q => by
  obtain ⟨fr, Hi, sl, G, d, sl', R, rv, eg, k⟩ := q
  unfold gT at eg
  split at eg
  · rename_i ds
    cases rv with
    | tup hq r =>
      refine ⟨_, _, rfl, SqT_ex R.sub hq, by rw [r.length, gsSet_len eg, hl], fr, Hi, sl, G, ds, sl', R, r, eg, k⟩
  · cases eg
/-! ### comprehensions -/
def wipeS (sl : Sl) : List Nat → Sl
  | [] => sl
  | v :: vs => (wipeS sl vs).set v .no
def lcL (g : TgF) (t : TF) (e : EF) (sl : Sl) : List PyData → OF
  | [] => fun _ G => some ([], G)
  | d :: r => fun u G => match g d sl with
    | some sl1 => (match t sl1 G with
      | some (true, G1) => (match e sl1 G1 with
        | some (y, G2) => (match lcL g t e sl r u G2 with
          | some (ys, G3) => some (y :: ys, G3)
          | none => none)
        | none => none)
      | some (false, G1) => lcL g t e sl r u G1
      | none => none)
    | none => none
/-- [e for g in it if t], vs the block's own slots -/
def oLc (it : OF) (g : TgF) (t : TF) (e : EF) (vs : List Nat) : OF := fun sl G => match it sl G with
  | some (ds, G1) => if ds.length ≤ 16777215 then lcL g t e (wipeS sl vs) ds [] G1 else none
  | none => none
theorem Rl.setNone {K : PySem.W.Frag} {fr : Fr} {Hi H : Hp} {σ : L2.St} {sl : Sl} {G : GS} {i : Nat} (R : Rl K fr Hi H σ sl G) : Rl K fr Hi H (σ.set i none) (sl.set i .no) G where
  sub := R.sub
  hi := R.hi
  nw := R.nw
  keep := R.keep
  len := by simp [R.len]
  at_ := fun j t h => by
    rcases get_set h with ⟨e, hl, q⟩ | ⟨e, q⟩
    · subst e; subst q; trivial
    · rw [List.getElem?_set_ne e]; exact R.at_ j t q
  inj := fun j k ds es h1 h2 e => by
    rcases get_set h1 with ⟨_, _, q⟩ | ⟨e1, q1⟩
    · cases q
    · rcases get_set h2 with ⟨_, _, q⟩ | ⟨e2, q2⟩
      · cases q
      · rw [List.getElem?_set_ne e1, List.getElem?_set_ne e2] at e
        exact R.inj j k ds es q1 q2 e
  gen := R.gen
theorem Rl.wipe {K : PySem.W.Frag} {fr : Fr} {Hi H : Hp} {σ : L2.St} {sl : Sl} {G : GS} (R : Rl K fr Hi H σ sl G) : ∀ vs : List Nat, Rl K fr Hi H (L2.wipe σ vs) (wipeS sl vs) G
  | [] => R
  | v :: vs => (R.wipe vs).setNone
theorem lc_ok {K : PySem.W.Frag} {it : OF} {g : TgF} {t : TF} {e : EF} {vs : List Nat} {σ : L2.St} {H : Hp} {Q : VK} {tgr : TG} (hgr : ∀ v σ H (Q : L2.St → Hp → Prop), tG K g v (L2.wipe σ vs) H Q → tgr v (L2.wipe σ vs) H fun σ2 H2 => L2.wipe σ2 vs = L2.wipe σ vs ∧ Q σ2 H2)
    (q : tO K (oLc it g t e vs) σ H Q) : tLc (tI K it) tgr (tT K t) (tE K e) vs σ H Q := by
  obtain ⟨fr, Hi, sl, G, ys, G', R, ef, k⟩ := q
  unfold oLc at ef
  split at ef
  · rename_i ds G1 h1
    split at ef
    · rename_i hz
      refine ⟨fr, Hi, sl, G, ds, G1, R, h1, fun J Hi1 H1 n1 R1 iok D hD => ?_⟩
      have gD : fr.g ≠ some D := R1.gne hD
      have hD0 : H D = none := n1.free gD hD
      have hiD := R1.hifree hD
      have h0D := R1.h0free hD
      have unD := R1.unown hD
      -- the word at turn i
      let W : Nat → Hp → Prop := fun i H2 => i ≤ ds.length ∧ ∃ Hi2 G2 acc ac zs, Nx fr Hi1 H1 Hi2 H2 ∧ Rl K fr Hi2 H2 σ sl G2 ∧ H2 D = some (.lst acc) ∧ Hi2 D = none ∧ RpL K Hi2 acc ac ∧ ac.length ≤ i ∧ lcL g t e (wipeS sl vs) (ds.drop i) [] G2 = some (zs, G') ∧ ys = ac ++ zs
      refine ⟨fun i m H2 => m = ds.length - i ∧ W i H2, ?_, ?_⟩
      · obtain ⟨n2, R2⟩ := R1.lay (o := .lst []) hD
        exact ⟨ds.length, by omega, by omega, Hi1, G1, [], [], ys, n2, R2, upd_same, hiD, .nil, by simp, by rw [List.drop_zero]; exact ef, rfl⟩
      · rintro i m H2 ⟨em, hi, Hi2, G2, acc, ac, zs, n2, R2, hacc, hiD2, rac, lac, eL, ey⟩
        by_cases hlt : i < ds.length
        · refine .inr ⟨iok.goes i Hi2 H2 n2.hi R2.sub hlt, W (i + 1), fun H3 h3 => ⟨ds.length - (i + 1), by omega, rfl, h3⟩, fun x H3 hy => ?_⟩
          obtain ⟨d, Hi3, hd, n3, R3, r3⟩ := iok.yields i Hi2 H2 x H3 σ sl G2 n2.hi R2 hlt hy
          have ed : ds.drop i = d :: ds.drop (i + 1) := by
            rw [List.drop_eq_getElem_cons hlt]
            congr 1
            rw [List.getElem?_eq_getElem hlt] at hd
            exact Option.some.inj hd
          rw [ed] at eL
          have hacc3 : H3 D = some (.lst acc) := n3.at_ gD hacc
          have hiD3 : Hi3 D = none := n3.apart gD hacc hiD2
          have eL' : (match g d (wipeS sl vs) with
            | some sl1 => (match t sl1 G2 with
              | some (true, G1) => (match e sl1 G1 with
                | some (y, G2) => (match lcL g t e (wipeS sl vs) (ds.drop (i + 1)) [] G2 with
                  | some (ys, G3) => some (y :: ys, G3)
                  | none => none)
                | none => none)
              | some (false, G1) => lcL g t e (wipeS sl vs) (ds.drop (i + 1)) [] G1
              | none => none)
            | none => none) = some (zs, G') := eL
          split at eL'
          · rename_i sl1 hg1
            refine hgr x σ H3 _ ⟨fr, Hi3, wipeS sl vs, G2, d, sl1, R3.wipe vs, r3, hg1, fun σ2 R4 => ?_⟩
            split at eL'
            · rename_i G3 ht
              refine ⟨fr, Hi3, sl1, G2, true, G3, R4, ht, fun Hi4 H4 n4 R5 => ?_⟩
              show tE K e σ2 H4 fun y H4 => ∃ acc, H4 D = some (.lst acc) ∧ acc.length < sizeLine ∧ W (i + 1) (upd H4 D (.lst (acc ++ [y])))
              split at eL'
              · rename_i y G4 he
                refine ⟨fr, Hi4, sl1, G3, y, G4, R5, he, fun v Hi5 H5 n5 R6 rv => ?_⟩
                split at eL'
                · rename_i ys' G5 hL
                  cases eL'
                  have nn : Nx fr Hi2 H2 Hi5 H5 := (n3.trans n4).trans n5
                  have hacc5 : H5 D = some (.lst acc) := nn.at_ gD hacc
                  have hiD5 : Hi5 D = none := nn.apart gD hacc hiD2
                  have R7 : Rl K fr Hi5 H5 σ sl G4 := R2.step nn R6.sub R6.gen
                  refine ⟨acc, hacc5, ?_, by omega, Hi5, G4, acc ++ [v], ac ++ [y], ys', ?_, R7.poke hiD5 gD h0D unD, upd_same, hiD5, ?_, ?_, hL, ?_⟩
                  · rw [sizeLine_eq, rac.length]; omega
                  · have nA := n2.trans nn
                    exact ⟨nA.hi, fun a o ha => by
                      obtain ⟨z1, z2⟩ := hid_some ha
                      rw [hid_ne z1, upd_ne fun z => by rw [z, hD] at z2; cases z2]
                      exact nA.at_ z1 z2, nA.nw⟩
                  · exact (rac.mono nn.hi).append (.cons rv .nil)
                  · rw [List.length_append]; simp only [List.length_cons, List.length_nil]; omega
                  · rw [ey, List.append_assoc]; rfl
                · cases eL'
              · cases eL'
            · rename_i G3 ht
              refine ⟨fr, Hi3, sl1, G2, false, G3, R4, ht, fun Hi4 H4 n4 R5 => ?_⟩
              show W (i + 1) H4
              have nn : Nx fr Hi2 H2 Hi4 H4 := n3.trans n4
              exact ⟨by omega, Hi4, G3, acc, ac, zs, n2.trans nn, R2.step nn R5.sub R5.gen, nn.at_ gD hacc, nn.apart gD hacc hiD2, rac.mono nn.hi, by omega, eL', ey⟩
            · cases eL'
          · cases eL'
        · have ei : i = ds.length := by omega
          subst ei
          rw [List.drop_length] at eL
          have ez : zs = [] ∧ G2 = G' := by
            have : some (([] : List PyData), G2) = some (zs, G') := eL
            cases this; exact ⟨rfl, rfl⟩
          obtain ⟨ez1, ez2⟩ := ez
          subst ez1
          subst ez2
          rw [List.append_nil] at ey
          subst ey
          exact .inl ⟨iok.stops Hi2 H2 n2.hi R2.sub, k D acc Hi2 H2 (n1.trans n2) R2 hD0 hiD2 hacc rac⟩
    · cases ef
  · cases ef
/-! a target within a block: its slots are the block's -/
theorem wipe_at {vs : List Nat} {m : Nat} (hm : m ∈ vs) (ρ : L2.St) : (L2.wipe ρ vs)[m]? = if m < ρ.length then some none else none := by
  split
  · rename_i q
    cases q2 : (L2.wipe ρ vs)[m]? with
    | none => rw [List.getElem?_eq_none_iff, wipe_length] at q2; omega
    | some o => cases o with
      | none => rfl
      | some x => exact absurd hm (wipe_some q2).2
  · rename_i q
    rw [List.getElem?_eq_none_iff, wipe_length]; omega
theorem wipe_ext {vs : List Nat} {ρ τ : L2.St} (hl : ρ.length = τ.length) (h : ∀ m, m ∉ vs → ρ[m]? = τ[m]?) : L2.wipe ρ vs = L2.wipe τ vs := by
  refine List.ext_getElem? fun m => ?_
  by_cases hm : m ∈ vs
  · rw [wipe_at hm, wipe_at hm, hl]
  · rw [wipe_out hm, wipe_out hm]; exact h m hm
theorem wipe_set {σ : L2.St} {i : Nat} {x : Option V} {vs : List Nat} (hi : i ∈ vs) : L2.wipe ((L2.wipe σ vs).set i x) vs = L2.wipe σ vs :=
  wipe_ext (by rw [List.length_set, wipe_length]) fun m hm => by
    have e : i ≠ m := fun z => hm (by rw [← z]; exact hi)
    rw [List.getElem?_set_ne e, wipe_out hm]
theorem wipe_set2 {σ : L2.St} {i j : Nat} {x y : Option V} {vs : List Nat} (hi : i ∈ vs) (hj : j ∈ vs) : L2.wipe (((L2.wipe σ vs).set i x).set j y) vs = L2.wipe σ vs :=
  wipe_ext (by rw [List.length_set, List.length_set, wipe_length]) fun m hm => by
    have e : i ≠ m := fun z => hm (by rw [← z]; exact hi)
    have e' : j ≠ m := fun z => hm (by rw [← z]; exact hj)
    rw [List.getElem?_set_ne e', List.getElem?_set_ne e, wipe_out hm]
/-- the slots that a target stores -/
structure BlkG (K : PySem.W.Frag) (g : TgF) (tgr : TG) (vs : List Nat) : Prop where
  ok : ∀ v σ H (Q : L2.St → Hp → Prop), tG K g v (L2.wipe σ vs) H Q → tgr v (L2.wipe σ vs) H fun σ2 H2 => L2.wipe σ2 vs = L2.wipe σ vs ∧ Q σ2 H2
theorem blkg_name {K : PySem.W.Frag} {i : Nat} {vs : List Nat} (h : i ∈ vs) : BlkG K (gN i) (gName i) vs := ⟨fun v σ H Q q => by
  obtain ⟨fr, Hi, sl, G, d, sl', R, rv, eg, k⟩ := q
  cases eg
  exact ⟨wipe_set h, k _ (R.setVal rv)⟩⟩
theorem blkg_pair {K : PySem.W.Frag} {i j : Nat} {vs : List Nat} (hi : i ∈ vs) (hj : j ∈ vs) : BlkG K (gT [gN i, gN j]) (gTup K 2 (gCons (gName i) (gCons (gName j) gNil))) vs := ⟨fun v σ H Q q => by
  obtain ⟨fr, Hi, sl, G, d, sl', R, rv, eg, k⟩ := q
  unfold gT at eg
  split at eg
  · rename_i ds
    cases rv with
    | tup hq r =>
      have hl := gsSet_len eg
      cases r with
      | nil => cases hl
      | cons r1 t1 =>
        cases t1 with
        | nil => cases hl
        | cons r2 t2 =>
          cases t2 with
          | nil =>
            cases eg
            exact ⟨_, _, rfl, SqT_ex R.sub hq, rfl, _, _, rfl, _, _, rfl, rfl, wipe_set2 hi hj, k _ ((R.setVal r1).setVal r2)⟩
          | cons _ _ => simp at hl
  · cases eg⟩
section
variable {elt tg iter : Expr} {ifs : List Expr} {scope : Scope} {own : List (Str × Nat)} {it : OF} {g : TgF} {t : TF} {tgr : TG} {spos : Pos} {vs : List Nat}
theorem q_lc (hc : X.calm = true) (hN : X.N.Nodup) (hi : PI X tg iter (tI X.K it)) (ok : BlkOk X.N X.env.scope scope own) (hv : own.map (·.2) = vs) (hb : BlkG X.K g tgr vs) (hg : ∀ (s : Shared) (H : Hp) (C : Addr) (cl : List (Str × Addr)) (fp : List Addr), PG (X.blk s H scope (compEnvC scope cl C X.env) fp) tg tgr)
    (ht : ∀ (s : Shared) (H : Hp) (C : Addr) (cl : List (Str × Addr)) (fp : List Addr), PTs (X.blk s H scope (compEnvC scope cl C X.env) fp) ifs (tT X.K t)) (he : ∀ (s : Shared) (H : Hp) (C : Addr) (cl : List (Str × Addr)) (fp : List Addr), PE (X.blk s H scope (compEnvC scope cl C X.env) fp) elt (tE X.K f))
    (hs : ∀ x, foldedSetIterable iter X.env x = pure x := by intro _; rfl) : PE X (.ListComp elt [⟨tg, iter, ifs, 0⟩] scope pos) (tO X.K (oLc it g t f vs)) :=
  PE.mono (pe_lc hc hN hi ok hg ht he hs) fun _ _ _ q => by rw [hv]; exact lc_ok hb.ok q
/-- name = [..] on one line -/
def sO (i : Nat) (o : OF) : SF := fun sl G => match o sl G with
  | some (ds, G') => some (.nx, sl.set i (.val (.list ds)), G')
  | none => none
def sOwn (i : Nat) (o : OF) : SF := fun sl G => match o sl G with
  | some (ds, G') => some (.nx, sl.set i (.own ds), G')
  | none => none
theorem sO_ok {K : PySem.W.Frag} {i : Nat} {o : OF} {te : TE} (m : ∀ σ H Q, tO K o σ H Q → te σ H Q) {D : Ends} {σ : L2.St} {H : Hp} (q : tS K (sO i o) D σ H) : tAsg te (gName i) D σ H := by
  obtain ⟨fr, Hi, sl, G, fl, sl', G', R, ef, k⟩ := q
  unfold sO at ef
  split at ef
  · rename_i ds G1 h1
    cases ef
    refine m _ _ _ ⟨fr, Hi, sl, G, ds, _, R, h1, fun p vs Hi1 H1 n1 R1 q1 q2 q3 r1 => ?_⟩
    have R2 := R1.become (p := p) (o := .lst vs) q3 q2 (R.gne q1) (R.h0free q1) (R.unown q1)
    exact k _ H1 _ (n1.hi.trans (Ex.new q2)) (R2.setVal (i := i) (v := .ref p) (d := .list ds) (.lst upd_same (r1.mono (Ex.new q2))))
  · cases ef
theorem sOwn_ok {K : PySem.W.Frag} {i : Nat} {o : OF} {te : TE} (m : ∀ σ H Q, tO K o σ H Q → te σ H Q) {D : Ends} {σ : L2.St} {H : Hp} (q : tS K (sOwn i o) D σ H) : tAsg te (gName i) D σ H := by
  obtain ⟨fr, Hi, sl, G, fl, sl', G', R, ef, k⟩ := q
  unfold sOwn at ef
  split at ef
  · rename_i ds G1 h1
    cases ef
    refine m _ _ _ ⟨fr, Hi, sl, G, ds, _, R, h1, fun p vs Hi1 H1 n1 R1 q1 q2 q3 r1 => ?_⟩
    exact k Hi1 H1 _ n1.hi (R1.setOwn (i := i) q3 r1 q2 (R.gne q1) (R.h0free q1) fun j es _ hj => R.unown q1 j es hj)
  · cases ef
theorem q_setLc {i : Nat} {y : Str} {py : Pos} (hc : X.calm = true) (hN : X.N.Nodup) (hy : X.N[i]? = some y) (hyl : X.env.scope.names.lookup y = some .local) (hsw : swapsWith (.ListComp elt [⟨tg, iter, ifs, 0⟩] scope pos) (some (.Name y py)) spos.line X.env = pure true) (hi : PI X tg iter (tI X.K it)) (ok : BlkOk X.N X.env.scope scope own) (hv : own.map (·.2) = vs) (hb : BlkG X.K g tgr vs)
    (hg : ∀ (s : Shared) (H : Hp) (C : Addr) (cl : List (Str × Addr)) (fp : List Addr), PG (X.blk s H scope (compEnvC scope cl C X.env) fp) tg tgr)
    (ht : ∀ (s : Shared) (H : Hp) (C : Addr) (cl : List (Str × Addr)) (fp : List Addr), PTs (X.blk s H scope (compEnvC scope cl C X.env) fp) ifs (tT X.K t)) (he : ∀ (s : Shared) (H : Hp) (C : Addr) (cl : List (Str × Addr)) (fp : List Addr), PE (X.blk s H scope (compEnvC scope cl C X.env) fp) elt (tE X.K f))
    (hs : ∀ x, foldedSetIterable iter X.env x = pure x := by intro _; rfl) : PS X (.Assign [.Name y py] (.ListComp elt [⟨tg, iter, ifs, 0⟩] scope pos) spos) (tS X.K (sO i (oLc it g t f vs))) :=
  PS.mono (ps_setLc hc hN hy hyl hsw hi ok hg ht he hs) fun _ _ _ q => by rw [hv]; exact sO_ok (fun _ _ _ q => lc_ok hb.ok q) q
theorem q_setLcO {i : Nat} {y : Str} {py : Pos} (hc : X.calm = true) (hN : X.N.Nodup) (hy : X.N[i]? = some y) (hyl : X.env.scope.names.lookup y = some .local) (hsw : swapsWith (.ListComp elt [⟨tg, iter, ifs, 0⟩] scope pos) (some (.Name y py)) spos.line X.env = pure true) (hi : PI X tg iter (tI X.K it)) (ok : BlkOk X.N X.env.scope scope own) (hv : own.map (·.2) = vs) (hb : BlkG X.K g tgr vs)
    (hg : ∀ (s : Shared) (H : Hp) (C : Addr) (cl : List (Str × Addr)) (fp : List Addr), PG (X.blk s H scope (compEnvC scope cl C X.env) fp) tg tgr)
    (ht : ∀ (s : Shared) (H : Hp) (C : Addr) (cl : List (Str × Addr)) (fp : List Addr), PTs (X.blk s H scope (compEnvC scope cl C X.env) fp) ifs (tT X.K t)) (he : ∀ (s : Shared) (H : Hp) (C : Addr) (cl : List (Str × Addr)) (fp : List Addr), PE (X.blk s H scope (compEnvC scope cl C X.env) fp) elt (tE X.K f))
    (hs : ∀ x, foldedSetIterable iter X.env x = pure x := by intro _; rfl) : PS X (.Assign [.Name y py] (.ListComp elt [⟨tg, iter, ifs, 0⟩] scope pos) spos) (tS X.K (sOwn i (oLc it g t f vs))) :=
  PS.mono (ps_setLc hc hN hy hyl hsw hi ok hg ht he hs) fun _ _ _ q => by rw [hv]; exact sOwn_ok (fun _ _ _ q => lc_ok hb.ok q) q
/-- no tests; one -/
def tTrue : TF := fun _ G => some (true, G)
theorem qts_nil : PTs X [] (tT X.K tTrue) := by
  refine ⟨fun pins s σ H Q I h => ?_⟩
  refine pts_nil.run pins s σ H Q I ?_
  obtain ⟨fr, Hi, sl, G, b, G', R, ef, k⟩ := h
  cases ef
  exact k Hi H Nx.refl R
theorem qts_one {c : Expr} (h : PT X c (tT X.K t)) : PTs X [c] (tT X.K t) := pts_one h
end
end
end QL

set_option maxHeartbeats 2000000
namespace QL
open PySem PySem.Spec PyProof.Rows L2
section
variable {X : Cx} {e a b c : Expr} {f fa fb fc : EF} {pos p : Pos} {es : List Expr} {as : OF} {st : Stmt} {rest : List Stmt} {u w : SF}
/-! ### blocks -/
def sNil : SF := fun sl G => some (.nx, sl, G)
def sSeq (u w : SF) : SF := fun sl G => match u sl G with
  | some (.nx, sl1, G1) => w sl1 G1
  | r => r
theorem EndR.seq {K : PySem.W.Frag} {fr : Fr} {Hi H : Hp} {σ : L2.St} {D : Ends} {N : L2.St → Hp → Prop} {fl : Fl} (h : EndR K fr Hi H σ D fl) (n : fl ≠ .nx) : EndR K fr Hi H σ { D with nx := N } fl := by
  cases fl with
  | nx => exact (n rfl).elim
  | _ => exact h
theorem qs_nil : PSs X [] (tS X.K sNil) := PSs.mono pss_nil fun D σ H q => by
  obtain ⟨fr, Hi, sl, G, fl, sl', G', R, ef, k⟩ := q
  cases ef
  exact k Hi H σ (Ex.refl _) R
theorem qs_cons (h1 : PS X st (tS X.K u)) (h2 : PSs X rest (tS X.K w)) : PSs X (st :: rest) (tS X.K (sSeq u w)) := PSs.mono (pss_cons h1 h2) fun D σ H q => by
  obtain ⟨fr, Hi, sl, G, fl, sl', G', R, ef, k⟩ := q
  unfold sSeq at ef
  split at ef
  · rename_i sl1 G1 hu
    refine ⟨fr, Hi, sl, G, .nx, sl1, G1, R, hu, fun Hi1 H1 σ1 e1 R1 => ?_⟩
    exact ⟨fr, Hi1, sl1, G1, fl, sl', G', R1, ef, fun Hi2 H2 σ2 e2 R2 => k Hi2 H2 σ2 (e1.trans e2) R2⟩
  · rename_i hne
    refine ⟨fr, Hi, sl, G, fl, sl', G', R, ef, fun Hi1 H1 σ1 e1 R1 => ?_⟩
    exact (k Hi1 H1 σ1 e1 R1).seq fun z => hne sl' G' (by rw [ef, z])
theorem qs_one (h1 : PS X st (tS X.K u)) : PSs X [st] (tS X.K u) := pss_one h1
theorem q_never : PS X st (tS X.K fun _ _ => none) := PS.mono ps_never fun D σ H q => by
  obtain ⟨fr, Hi, sl, G, fl, sl', G', R, ef, k⟩ := q
  cases ef
theorem q_pass : PS X (.Pass pos) (tS X.K sNil) := PS.mono ps_pass fun D σ H q => by
  obtain ⟨fr, Hi, sl, G, fl, sl', G', R, ef, k⟩ := q
  cases ef
  exact k Hi H σ (Ex.refl _) R
def sBrk : SF := fun sl G => some (.bk, sl, G)
def sCnt : SF := fun sl G => some (.ct, sl, G)
theorem q_break : PS X (.Break pos) (tS X.K sBrk) := PS.mono ps_break fun D σ H q => by
  obtain ⟨fr, Hi, sl, G, fl, sl', G', R, ef, k⟩ := q
  cases ef
  exact k Hi H σ (Ex.refl _) R
theorem q_cont : PS X (.Continue pos) (tS X.K sCnt) := PS.mono ps_continue fun D σ H q => by
  obtain ⟨fr, Hi, sl, G, fl, sl', G', R, ef, k⟩ := q
  cases ef
  exact k Hi H σ (Ex.refl _) R
/-- a slot's list is changed no more: from here on a datum -/
def sFrz (i : Nat) (u : SF) : SF := fun sl G => match sl[i]? with
  | some (.own ds) => u (sl.set i (.val (.list ds))) G
  | _ => none
theorem q_frz (i : Nat) (h : PS X st (tS X.K u)) : PS X st (tS X.K (sFrz i u)) := PS.mono h fun D σ H q => by
  obtain ⟨fr, Hi, sl, G, fl, sl', G', R, ef, k⟩ := q
  unfold sFrz at ef
  split at ef
  · rename_i ds hs
    obtain ⟨Hi1, e1, R1⟩ := R.freeze hs
    exact ⟨fr, Hi1, _, G, fl, sl', G', R1, ef, fun Hi2 H2 σ2 e2 R2 => k Hi2 H2 σ2 (e1.trans e2) R2⟩
  · cases ef
/-! ### assignments -/
def sSet (i : Nat) (f : EF) : SF := fun sl G => match f sl G with
  | some (d, G') => some (.nx, sl.set i (.val d), G')
  | none => none
def sTg (g : TgF) (f : EF) : SF := fun sl G => match f sl G with
  | some (d, G') => (match g d sl with
    | some sl' => some (.nx, sl', G')
    | none => none)
  | none => none
theorem sTg_ok {K : PySem.W.Frag} {g : TgF} {D : Ends} {σ : L2.St} {H : Hp} (q : tS K (sTg g f) D σ H) : tAsg (tE K f) (tG K g) D σ H := by
  obtain ⟨fr, Hi, sl, G, fl, sl', G', R, ef, k⟩ := q
  unfold sTg at ef
  split at ef
  · rename_i d G1 h1
    split at ef
    · rename_i sl1 hg
      cases ef
      exact ⟨fr, Hi, sl, G, d, _, R, h1, fun v Hi1 H1 n1 R1 r1 => ⟨fr, Hi1, sl, _, d, _, R1, r1, hg, fun σ' R2 => k Hi1 H1 σ' n1.hi R2⟩⟩
    · cases ef
  · cases ef
theorem sSet_eq {i : Nat} : sSet i f = sTg (gN i) f := by
  funext sl G
  unfold sSet sTg gN
  cases f sl G with
  | none => rfl
  | some z => rfl
section
variable {tg : Expr} {g : TgF} {i : Nat} {x : Str} {p1 : Pos}
theorem q_asg (he : PE X e (tE X.K f)) (hg : PG X tg (tG X.K g)) (hs : swapsWithSole [tg] e pos.line X.env = pure false := by rfl) (hw : swappedStores [tg] e X.env = pure none := by rfl) (h1 : (assignEach [tg] X.env).map (·.2) = [assign tg X.env] := by rfl) : PS X (.Assign [tg] e pos) (tS X.K (sTg g f)) :=
  PS.mono (ps_asg he hg hs hw h1) fun _ _ _ q => sTg_ok q
theorem q_set (hN : X.N.Nodup) (hi : X.N[i]? = some x) (hx : Loc X.env.scope x) (he : PE X e (tE X.K f)) (hf : X.fn x = true ∨ X.env.scope.names.lookup x = some .local := by first | exact .inl rfl | exact .inr rfl | assumption) (hs : swapsWithSole [.Name x p1] e pos.line X.env = pure false := by rfl) (hw : swappedStores [.Name x p1] e X.env = pure none := by rfl) (h1 : (assignEach [.Name x p1] X.env).map (·.2) = [assign (.Name x p1) X.env] := by rfl) : PS X (.Assign [.Name x p1] e pos) (tS X.K (sSet i f)) := by
  rw [sSet_eq]
  exact q_asg he (qg_name hN hi hx hf) hs hw h1
theorem q_setO {o : OF} (hN : X.N.Nodup) (hi : X.N[i]? = some x) (hx : Loc X.env.scope x) (he : PE X e (tO X.K o)) (hf : X.fn x = true ∨ X.env.scope.names.lookup x = some .local := by first | exact .inl rfl | exact .inr rfl | assumption) (hs : swapsWithSole [.Name x p1] e pos.line X.env = pure false := by rfl) (hw : swappedStores [.Name x p1] e X.env = pure none := by rfl) (h1 : (assignEach [.Name x p1] X.env).map (·.2) = [assign (.Name x p1) X.env] := by rfl) : PS X (.Assign [.Name x p1] e pos) (tS X.K (sOwn i o)) :=
  PS.mono (ps_asg he (pg_name hN hi hx hf) hs hw h1) fun _ _ _ q => sOwn_ok (fun _ _ _ q => q) q
end
/-- a new list by + or * -/
def oBin (op : PyData → PyData → Option PyData) (a b : EF) : OF := fun sl G => match a sl G with
  | some (x, G1) => (match b sl G1 with
    | some (y, G2) => (match op x y with
      | some (.list ds) => some (ds, G2)
      | _ => none)
    | none => none)
  | none => none
theorem q_repO (ha : PE X a (tB X.K fa)) (hb : PE X b (tB X.K fb)) : PE X (.BinOp a .Mult b pos) (tO X.K (oBin dMul fa fb)) := PE.mono (pe_op op_rep ha hb) fun σ H Q q => by
  obtain ⟨fr, Hi, sl, G, d', G', R, ef, k⟩ := q
  unfold oBin at ef
  split at ef
  · rename_i x G1 h1
    split at ef
    · rename_i y G2 h2
      split at ef
      · rename_i ds ho
        cases ef
        refine ⟨fr, Hi, sl, G, x, G1, R, h1, fun u Hi1 H1 n1 R1 ru => ?_⟩
        refine ⟨fr, Hi1, sl, G1, y, _, R1, h2, fun w Hi2 H2 n2 R2 rw' => ?_⟩
        unfold dMul at ho
        split at ho
        · split at ho <;> cases ho
        · rename_i as' j
          split at ho
          · rename_i hl
            cases ho
            obtain ⟨a, vs, ea, ga, ha, ra⟩ := Rs.mono n2 ru
            have hl1 := Nat.le_of_ble_eq_true hl.1
            refine ⟨a, j, vs, ea, Rp.int_of rw', ha, by omega, by omega, ?_, fun p hp => ?_⟩
            · rw [sizeLine_eq, ra.length]; exact hl.2
            · obtain ⟨n3, R3⟩ := R2.lay (o := .lst (List.replicate j.toNat vs).flatten) hp
              exact k p _ _ _ ((n1.trans n2).trans n3) R3 ((n1.trans n2).free (R2.gne hp) hp) (R2.hifree hp) upd_same (ra.repL _)
          · cases ho
        · cases ho
      · cases ef
    · cases ef
  · cases ef
theorem q_catO (ha : PE X a (tB X.K fa)) (hb : PE X b (tB X.K fb)) : PE X (.BinOp a .Add b pos) (tO X.K (oBin dAdd fa fb)) := PE.mono (pe_op op_cat ha hb) fun σ H Q q => by
  obtain ⟨fr, Hi, sl, G, d', G', R, ef, k⟩ := q
  unfold oBin at ef
  split at ef
  · rename_i x G1 h1
    split at ef
    · rename_i y G2 h2
      split at ef
      · rename_i ds ho
        cases ef
        refine ⟨fr, Hi, sl, G, x, G1, R, h1, fun u Hi1 H1 n1 R1 ru => ?_⟩
        refine ⟨fr, Hi1, sl, G1, y, _, R1, h2, fun w Hi2 H2 n2 R2 rw' => ?_⟩
        unfold dAdd at ho
        split at ho
        · cases ho
        · rename_i as' bs
          split at ho
          · rename_i hl
            cases ho
            obtain ⟨a, vs, ea, ga, ha, ra⟩ := Rs.mono n2 ru
            obtain ⟨b, ws, eb, gb, hb, rb⟩ := rw'
            refine ⟨a, b, vs, ws, ea, eb, ha, hb, ?_, fun p hp => ?_⟩
            · rw [sizeLine_eq, ra.length, rb.length]; exact hl
            · obtain ⟨n3, R3⟩ := R2.lay (o := .lst (vs ++ ws)) hp
              exact k p _ _ _ ((n1.trans n2).trans n3) R3 ((n1.trans n2).free (R2.gne hp) hp) (R2.hifree hp) upd_same (ra.append rb)
          · cases ho
        · cases ho
      · cases ef
    · cases ef
  · cases ef
/-! ### several values at once: a, b = x, y; each a datum (false) or a new list of one's own (true) -/
abbrev MF := Sl → GS → Option (List (Bool × PyData) × GS)
def mNil : MF := fun _ G => some ([], G)
def mVal (f : EF) (r : MF) : MF := fun sl G => match f sl G with
  | some (d, G1) => (match r sl G1 with
    | some (ds, G2) => some ((false, d) :: ds, G2)
    | none => none)
  | none => none
def mOwn (o : OF) (r : MF) : MF := fun sl G => match o sl G with
  | some (zs, G1) => (match r sl G1 with
    | some (ds, G2) => some ((true, .list zs) :: ds, G2)
    | none => none)
  | none => none
/-- a value that comes with others: a new list was not there at the start -/
def MvR (K : PySem.W.Frag) (fr : Fr) (Hs Hi H : Hp) (v : V) : Bool × PyData → Prop
  | (false, d) => Rp K Hi v d
  | (true, .list zs) => ∃ p vs, v = .ref p ∧ H p = some (.lst vs) ∧ RpL K Hi vs zs ∧ Hi p = none ∧ fr.g ≠ some p ∧ fr.H0 p = none ∧ Hs p = none
  | _ => False
inductive MsR (K : PySem.W.Frag) (fr : Fr) : Hp → Hp → Hp → List V → List (Bool × PyData) → Prop
  | nil {Hs Hi H : Hp} : MsR K fr Hs Hi H [] []
  | cons {Hs Hm Hi H : Hp} {v : V} {vs : List V} {d : Bool × PyData} {ds : List (Bool × PyData)} : MvR K fr Hs Hi H v d → (d.1 = true → ∀ p, v = .ref p → Hm p ≠ none) → (∀ p, Hm p = none → Hs p = none) → MsR K fr Hm Hi H vs ds → MsR K fr Hs Hi H (v :: vs) (d :: ds)
theorem MvR.mono {K : PySem.W.Frag} {fr : Fr} {Hs Hi H Hi' H' : Hp} {v : V} {d : Bool × PyData} (n : Nx fr Hi H Hi' H') (h : MvR K fr Hs Hi H v d) : MvR K fr Hs Hi' H' v d := by
  obtain ⟨b, d⟩ := d
  cases b with
  | false => exact Rp.mono n.hi h
  | true =>
    cases d with
    | list zs =>
      obtain ⟨p, vs, e, h1, r, h2, h3, h4, h5⟩ := h
      exact ⟨p, vs, e, n.at_ h3 h1, r.mono n.hi, n.apart h3 h1 h2, h3, h4, h5⟩
    | _ => exact h
def tMs (K : PySem.W.Frag) (f : MF) : TA := fun σ H Q => ∃ fr Hi sl G ds G', Rl K fr Hi H σ sl G ∧ f sl G = some (ds, G') ∧ ∀ vs Hi' H', Nx fr Hi H Hi' H' → Rl K fr Hi' H' σ sl G' → MsR K fr (hid fr.g H) Hi' H' vs ds → Q vs H'
variable {m : MF}
theorem qm_nil : PA X [] (tMs X.K mNil) := PA.mono pa_nil fun σ H Q q => by
  obtain ⟨fr, Hi, sl, G, ds', G', R, ef, k⟩ := q
  cases ef
  exact k [] Hi H Nx.refl R .nil
theorem qm_val (he : PE X e (tE X.K f)) (hr : PA X es (tMs X.K m)) (hs : starEach (e :: es) X.env = (false, eval e X.env) :: starEach es X.env := by rfl) : PA X (e :: es) (tMs X.K (mVal f m)) := PA.mono (pa_cons he hr hs) fun σ H Q q => by
  obtain ⟨fr, Hi, sl, G, ds', G', R, ef, k⟩ := q
  unfold mVal at ef
  split at ef
  · rename_i d G1 h1
    split at ef
    · rename_i ds G2 h2
      cases ef
      refine ⟨fr, Hi, sl, G, d, G1, R, h1, fun v Hi1 H1 n1 R1 r1 => ?_⟩
      exact ⟨fr, Hi1, sl, G1, ds, _, R1, h2, fun vs Hi2 H2 n2 R2 r2 => k (v :: vs) Hi2 H2 (n1.trans n2) R2 (.cons (d := (false, d)) (r1.mono n2.hi) (fun z => by cases z) (fun p hp => n1.h.free hp) r2)⟩
    · cases ef
  · cases ef
theorem qm_own {o : OF} (he : PE X e (tO X.K o)) (hr : PA X es (tMs X.K m)) (hs : starEach (e :: es) X.env = (false, eval e X.env) :: starEach es X.env := by rfl) : PA X (e :: es) (tMs X.K (mOwn o m)) := PA.mono (pa_cons he hr hs) fun σ H Q q => by
  obtain ⟨fr, Hi, sl, G, ds', G', R, ef, k⟩ := q
  unfold mOwn at ef
  split at ef
  · rename_i zs G1 h1
    split at ef
    · rename_i ds G2 h2
      cases ef
      refine ⟨fr, Hi, sl, G, zs, G1, R, h1, fun p ws Hi1 H1 n1 R1 q1 q2 q3 r1 => ?_⟩
      refine ⟨fr, Hi1, sl, G1, ds, _, R1, h2, fun vs Hi2 H2 n2 R2 r2 => k (.ref p :: vs) Hi2 H2 (n1.trans n2) R2 (.cons (d := (true, .list zs)) ?_ (fun _ p' ep => ?_) (fun p hp => n1.h.free hp) r2)⟩
      · exact MvR.mono n2 (show MvR X.K fr (hid fr.g H) Hi1 H1 (.ref p) (true, .list zs) from ⟨p, ws, rfl, q3, r1, q2, R.gne q1, R.h0free q1, by
          unfold hid; split
          · rfl
          · exact q1⟩)
      · have : p = p' := by injection ep
        subst this
        rw [hid_ne (R.gne q1), q3]; simp
    · cases ef
  · cases ef
/-- into slots, from the left -/
def parSet : List Nat → List (Bool × PyData) → Sl → Option Sl
  | [], [], sl => some sl
  | i :: is, (false, d) :: ds, sl => parSet is ds (sl.set i (.val d))
  | i :: is, (true, .list zs) :: ds, sl => parSet is ds (sl.set i (.own zs))
  | _, _, _ => none
def setAll : List Nat → List V → L2.St → L2.St
  | i :: is, v :: vs, σ => setAll is vs (σ.set i (some v))
  | _, _, σ => σ
theorem parSet_ok {K : PySem.W.Frag} {fr : Fr} {Hi H : Hp} {G : GS} : ∀ {is : List Nat} {ds : List (Bool × PyData)} {vs : List V} {Hs : Hp} {σ : L2.St} {sl sl' : Sl}, MsR K fr Hs Hi H vs ds → Rl K fr Hi H σ sl G → (∀ p, Hs p = none → fr.g ≠ some p → ∀ (j : Nat) (es : List PyData), sl[j]? = some (.own es) → σ[j]? ≠ some (some (.ref p))) → parSet is ds sl = some sl' → Rl K fr Hi H (setAll is vs σ) sl' G
  | [], [], _, _, _, _, _, .nil, R, _, e => by cases e; exact R
  | [], _ :: _, _, _, _, _, _, _, _, _, e => by cases e
  | i :: is, [], _, _, _, _, _, _, _, _, e => by cases e
  | i :: is, (b, d) :: ds, _, Hs, σ, sl, sl', .cons (v := v) (vs := vs) (Hm := Hm) hv hp hm hr, R, un, e => by
    cases b with
    | false =>
      have e' : parSet is ds (sl.set i (.val d)) = some sl' := e
      refine parSet_ok (σ := σ.set i (some v)) hr (R.setVal hv) (fun p hp hg j es hj => ?_) e'
      rcases get_set hj with ⟨_, _, q⟩ | ⟨q1, q2⟩
      · cases q
      · rw [List.getElem?_set_ne q1]; exact un p (hm p hp) hg j es q2
    | true =>
      cases d with
      | list zs =>
        have e' : parSet is ds (sl.set i (.own zs)) = some sl' := e
        obtain ⟨p, ws, ev, h1, r, h2, h3, h4, h5⟩ := hv
        subst ev
        refine parSet_ok (σ := σ.set i (some (.ref p))) hr (R.setOwn h1 r h2 h3 h4 fun j es _ hj => un p h5 h3 j es hj) (fun p' hp' hg j es hj => ?_) e'
        rcases get_set hj with ⟨q0, hl, q⟩ | ⟨q1, q2⟩
        · subst q0
          rw [List.getElem?_set_self (by rw [R.len]; exact hl)]
          intro z
          have : p = p' := by injection z with z; injection z with z; injection z
          subst this
          exact hp rfl p rfl hp'
        · rw [List.getElem?_set_ne q1]; exact un p' (hm p' hp') hg j es q2
      | _ => cases e
def sPar (is : List Nat) (m : MF) : SF := fun sl G => match m sl G with
  | some (ds, G') => (match parSet is ds sl with
    | some sl' => some (.nx, sl', G')
    | none => none)
  | none => none
theorem MsR.length {K : PySem.W.Frag} {fr : Fr} : ∀ {Hs Hi H : Hp} {vs : List V} {ds : List (Bool × PyData)}, MsR K fr Hs Hi H vs ds → vs.length = ds.length
  | _, _, _, _, _, .nil => rfl
  | _, _, _, _, _, .cons _ _ _ r => congrArg (· + 1) r.length
theorem parSet_len : ∀ {is : List Nat} {ds : List (Bool × PyData)} {sl sl' : Sl}, parSet is ds sl = some sl' → ds.length = is.length
  | [], [], _, _, _ => rfl
  | [], _ :: _, _, _, e => by cases e
  | _ :: _, [], _, _, e => by cases e
  | i :: is, (b, d) :: ds, sl, sl', e => by
    show ds.length + 1 = is.length + 1
    cases b with
    | false => rw [parSet_len (show parSet is ds (sl.set i (.val d)) = some sl' from e)]
    | true =>
      cases d with
      | list zs => rw [parSet_len (show parSet is ds (sl.set i (.own zs)) = some sl' from e)]
      | _ => cases e
theorem sPar_ok {K : PySem.W.Frag} {is : List Nat} {D : Ends} {σ : L2.St} {H : Hp} (q : tS K (sPar is m) D σ H) : tMs K m σ H fun vs H1 => vs.length = is.length ∧ D.nx (setAll is vs σ) H1 := by
  obtain ⟨fr, Hi, sl, G, fl, sl', G', R, ef, k⟩ := q
  unfold sPar at ef
  split at ef
  · rename_i ds G1 h1
    split at ef
    · rename_i sl1 hp
      cases ef
      refine ⟨fr, Hi, sl, G, ds, _, R, h1, fun vs Hi1 H1 n1 R1 r1 => ⟨by rw [r1.length, parSet_len hp], ?_⟩⟩
      refine k Hi1 H1 _ n1.hi (parSet_ok r1 R1 (fun p hp hg j es hj => ?_) hp)
      rw [hid_ne hg] at hp
      exact R.unown hp j es hj
    · cases ef
  · cases ef
theorem q_par {i j : Nat} {x y : Str} {px py pt : Pos} {kt : Nat} {k2 : Nat} {pt2 : Pos} (hc : X.calm = true) (hN : X.N.Nodup) (hi : X.N[i]? = some x) (hj : X.N[j]? = some y) (hij : i ≠ j)
    (hx : X.env.scope.names.lookup x = some .local) (hy : X.env.scope.names.lookup y = some .local) (ha : PA X [a, b] (tMs X.K m)) (hw : swappedStores [.Tuple [.Name x px, .Name y py] kt pt] (.Tuple [a, b] k2 pt2) X.env = pure (some [x, y]))
    (hs : swapsWithSole [.Tuple [.Name x px, .Name y py] kt pt] (.Tuple [a, b] k2 pt2) pos.line X.env = pure false := by rfl) :
    PS X (.Assign [.Tuple [.Name x px, .Name y py] kt pt] (.Tuple [a, b] k2 pt2) pos) (tS X.K (sPar [i, j] m)) :=
  PS.mono (ps_par hc hN hi hj hij hx hy ha hw hs) fun D σ H q => by
    obtain ⟨fr, Hi, sl, G, ds, G', R, ef, k⟩ := sPar_ok q
    refine ⟨fr, Hi, sl, G, ds, G', R, ef, fun vs Hi' H' n R' r => ?_⟩
    obtain ⟨hl, h⟩ := k vs Hi' H' n R' r
    match vs, hl with
    | [v, w], _ => exact ⟨v, w, rfl, h⟩
theorem q_par3 {i j l : Nat} {x y z : Str} {px py pz pt : Pos} {kt : Nat} {k2 : Nat} {pt2 : Pos} (hc : X.calm = true) (hN : X.N.Nodup) (hi : X.N[i]? = some x) (hj : X.N[j]? = some y) (hl : X.N[l]? = some z) (hij : i ≠ j) (hil : i ≠ l) (hjl : j ≠ l)
    (hx : X.env.scope.names.lookup x = some .local) (hy : X.env.scope.names.lookup y = some .local) (hz : X.env.scope.names.lookup z = some .local) (ha : PA X [a, b, c] (tMs X.K m)) (hw : swappedStores [.Tuple [.Name x px, .Name y py, .Name z pz] kt pt] (.Tuple [a, b, c] k2 pt2) X.env = pure (some [x, y, z]))
    (hs : swapsWithSole [.Tuple [.Name x px, .Name y py, .Name z pz] kt pt] (.Tuple [a, b, c] k2 pt2) pos.line X.env = pure false := by rfl) :
    PS X (.Assign [.Tuple [.Name x px, .Name y py, .Name z pz] kt pt] (.Tuple [a, b, c] k2 pt2) pos) (tS X.K (sPar [i, j, l] m)) :=
  PS.mono (ps_par3 hc hN hi hj hl hij hil hjl hx hy hz ha hw hs) fun D σ H q => by
    obtain ⟨fr, Hi, sl, G, ds, G', R, ef, k⟩ := sPar_ok q
    refine ⟨fr, Hi, sl, G, ds, G', R, ef, fun vs Hi' H' n R' r => ?_⟩
    obtain ⟨hl, h⟩ := k vs Hi' H' n R' r
    match vs, hl with
    | [u, v, w], _ => exact ⟨u, v, w, rfl, h⟩
/-! ### stores -/
/-- xs[i] = e, the slot's own list -/
def sIx (i : Nat) (fi fe : EF) : SF := fun sl G => match fe sl G with
  | some (d, G1) => (match fi sl G1 with
    | some (.int k, G2) => (match sl[i]? with
      | some (.own ds) => (match ixN ds.length k with
        | some j => some (.nx, sl.set i (.own (ds.set j d)), G2)
        | none => none)
      | _ => none)
    | _ => none)
  | none => none
theorem q_setIx {i : Nat} {o ix : Expr} {p1 : Pos} {fi fe : EF} (ho : PE X o (tVar i)) (hi : PE X ix (tE X.K fi)) (he : PE X e (tE X.K fe)) (hs : swapsWithSole [.Subscript o ix p1] e pos.line X.env = pure false := by rfl) (hw : swappedStores [.Subscript o ix p1] e X.env = pure none := by rfl) (h1 : (assignEach [.Subscript o ix p1] X.env).map (·.2) = [assign (.Subscript o ix p1) X.env] := by rfl)
    (has : ∀ v, assign (.Subscript o ix p1) X.env v = (do
      let ov ← holding [v] (eval o X.env)
      let iv ← holding [v, ov] (eval ix X.env)
      standAt p1
      holding [v, ov, iv] (setItem ov iv v)
      release [v, ov, iv] []) := by intro _; rfl) : PS X (.Assign [.Subscript o ix p1] e pos) (tS X.K (sIx i fi fe)) :=
  PS.mono (ps_asg he (pg_sub ho hi set_list has) hs hw h1) fun D σ H q => by
    obtain ⟨fr, Hi, sl, G, fl, sl', G', R, ef, k⟩ := q
    unfold sIx at ef
    split at ef
    · rename_i d G1 h1
      split at ef
      · rename_i kk G2 h2
        split at ef
        · rename_i ds hsl
          split at ef
          · rename_i j hj
            cases ef
            refine ⟨fr, Hi, sl, G, d, G1, R, h1, fun v Hi1 H1 n1 R1 r1 => ?_⟩
            obtain ⟨a, vs, ea, hA, rA, a1, a2, a3⟩ := R1.slotOwn hsl
            refine ⟨.ref a, ea, fr, Hi1, sl, G1, _, _, R1, h2, fun iv Hi2 H2 n2 R2 r2 => ?_⟩
            have hA2 : H2 a = some (.lst vs) := n2.at_ a2 hA
            refine ⟨a, vs, kk, j, rfl, r2.int_inv, hA2, by rw [rA.length]; exact hj, ?_⟩
            exact k Hi2 _ σ (n1.hi.trans n2.hi) (R2.change hsl ea hA2 (((rA.mono n2.hi).set (r1.mono n2.hi) j)))
          · cases ef
        · cases ef
      · cases ef
    · cases ef
/-- g[i] = e, the shared object -/
def sGs (i : Nat) (fi fe : EF) : SF := fun sl G => match fe sl G with
  | some (d, G1) => (match fi sl G1 with
    | some (.int k, G2) => (match sl[i]? with
      | some .gen => (match ixN G2.length k with
        | some j => some (.nx, sl, G2.set j d)
        | none => none)
      | _ => none)
    | _ => none)
  | none => none
theorem q_setG {i : Nat} {o ix : Expr} {p1 : Pos} {fi fe : EF} (ho : PE X o (tVar i)) (hi : PE X ix (tE X.K fi)) (he : PE X e (tE X.K fe)) (hs : swapsWithSole [.Subscript o ix p1] e pos.line X.env = pure false := by rfl) (hw : swappedStores [.Subscript o ix p1] e X.env = pure none := by rfl) (h1 : (assignEach [.Subscript o ix p1] X.env).map (·.2) = [assign (.Subscript o ix p1) X.env] := by rfl)
    (has : ∀ v, assign (.Subscript o ix p1) X.env v = (do
      let ov ← holding [v] (eval o X.env)
      let iv ← holding [v, ov] (eval ix X.env)
      standAt p1
      holding [v, ov, iv] (setItem ov iv v)
      release [v, ov, iv] []) := by intro _; rfl) : PS X (.Assign [.Subscript o ix p1] e pos) (tS X.K (sGs i fi fe)) :=
  PS.mono (ps_asg he (pg_sub ho hi set_list has) hs hw h1) fun D σ H q => by
    obtain ⟨fr, Hi, sl, G, fl, sl', G', R, ef, k⟩ := q
    unfold sGs at ef
    split at ef
    · rename_i d G1 h1
      split at ef
      · rename_i kk G2 h2
        split at ef
        · rename_i hsl
          split at ef
          · rename_i j hj
            cases ef
            refine ⟨fr, Hi, sl, G, d, G1, R, h1, fun v Hi1 H1 n1 R1 r1 => ?_⟩
            obtain ⟨a, ea, ga⟩ := R1.at_ i _ hsl
            refine ⟨.ref a, ea, fr, Hi1, sl, G1, _, _, R1, h2, fun iv Hi2 H2 n2 R2 r2 => ?_⟩
            obtain ⟨_, vs, hA, rA⟩ := R2.gen a ga
            refine ⟨a, vs, kk, j, rfl, r2.int_inv, hA, by rw [rA.length]; exact hj, ?_⟩
            exact k Hi2 _ σ (n1.hi.trans n2.hi) (R2.genSet ga (rA.set (r1.mono n2.hi) j))
          · cases ef
        · cases ef
      · cases ef
    · cases ef
/-- g[i], the shared object's item -/
def eG (i : Nat) (fi : EF) : EF := fun sl G => match sl[i]? with
  | some .gen => (match fi sl G with
    | some (.int k, G2) => (match atI G2 k with
      | some d => some (d, G2)
      | none => none)
    | _ => none)
  | _ => none
theorem q_gIx {i : Nat} {o ix : Expr} {fi : EF} (ho : PE X o (tVar i)) (hi : PE X ix (tE X.K fi)) (hs : PlainIx ix := by exact fun _ _ => rfl) : PE X (.Subscript o ix pos) (tE X.K (eG i fi)) :=
  PE.mono (pe_ix ix_list ho hi hs) fun σ H Q q => by
    obtain ⟨fr, Hi, sl, G, d, G', R, ef, k⟩ := q
    unfold eG at ef
    split at ef
    · rename_i hsl
      split at ef
      · rename_i kk G2 h2
        split at ef
        · rename_i d' hd
          cases ef
          obtain ⟨a, ea, ga⟩ := R.at_ i _ hsl
          refine ⟨.ref a, ea, fr, Hi, sl, G, _, _, R, h2, fun iv Hi2 H2 n2 R2 r2 => ?_⟩
          obtain ⟨_, vs, hA, rA⟩ := R2.gen a ga
          obtain ⟨v, hv, rv⟩ := atI_rel rA hd
          exact ⟨a, vs, kk, v, rfl, r2.int_inv, SqL.of hA, hv, k v Hi2 H2 n2 R2 rv⟩
        · cases ef
      · cases ef
    · cases ef
/-- xs.append(e), xs.pop() -/
def sApp (i : Nat) (fe : EF) : SF := fun sl G => match fe sl G with
  | some (d, G1) => (match sl[i]? with
    | some (.own ds) => if ds.length ≤ 16777215 then some (.nx, sl.set i (.own (ds ++ [d])), G1) else none
    | _ => none)
  | none => none
theorem q_app {i : Nat} {o : Expr} {apos cpos : Pos} {fe : EF} (hP : PE X (.Call (.Attribute o "append" apos) [e] [] cpos) (tBM X.K "list" rAppend (tVar i) (tCons (tE X.K fe) tNil))) (hs : swapsWith (.Call (.Attribute o "append" apos) [e] [] cpos) none pos.line X.env = pure false := by rfl) : PS X (.Expr (.Call (.Attribute o "append" apos) [e] [] cpos) pos) (tS X.K (sApp i fe)) :=
  PS.mono (ps_expr hP hs) fun D σ H q => by
    obtain ⟨fr, Hi, sl, G, fl, sl', G', R, ef, k⟩ := q
    unfold sApp at ef
    split at ef
    · rename_i d G1 h1
      split at ef
      · rename_i ds hsl
        split at ef
        · rename_i hz
          cases ef
          obtain ⟨a, vs, ea, hA, rA, a1, a2, a3⟩ := R.slotOwn hsl
          refine ⟨.ref a, ea, .inl ⟨rfl, vs, SqL.of hA⟩, fr, Hi, sl, G, d, _, R, h1, fun v Hi1 H1 n1 R1 r1 => ?_⟩
          have hA1 : H1 a = some (.lst vs) := n1.at_ a2 hA
          refine ⟨a, vs, v, rfl, rfl, hA1, by rw [sizeLine_eq, rA.length]; omega, ?_⟩
          exact k Hi1 _ σ n1.hi (R1.change hsl ea hA1 ((rA.mono n1.hi).append (.cons r1 .nil)))
        · cases ef
      · cases ef
    · cases ef
def sPop (i : Nat) : SF := fun sl G => match sl[i]? with
  | some (.own ds) => if ds.isEmpty = true then none else some (.nx, sl.set i (.own ds.dropLast), G)
  | _ => none
theorem q_pop {i : Nat} {o : Expr} {apos cpos : Pos} (ho : PE X o (tVar i)) (hbase : attributeBase o "pop" X.env (eval o X.env) = eval o X.env := by rfl) (hline : (apos.endLine == cpos.line) = true := by rfl) (hs : swapsWith (.Call (.Attribute o "pop" apos) [] [] cpos) none pos.line X.env = pure false := by rfl) : PS X (.Expr (.Call (.Attribute o "pop" apos) [] [] cpos) pos) (tS X.K (sPop i)) :=
  PS.mono (ps_expr (pe_bm0 PySem.F.plainAttrs_list PySem.F.slot_list_pop PySem.F.type_list_pop mt_pop ho hbase hline) hs) fun D σ H q => by
    obtain ⟨fr, Hi, sl, G, fl, sl', G', R, ef, k⟩ := q
    unfold sPop at ef
    split at ef
    · rename_i ds hsl
      split at ef
      · cases ef
      · rename_i hz
        cases ef
        obtain ⟨a, vs, ea, hA, rA, a1, a2, a3⟩ := R.slotOwn hsl
        have hl : 0 < vs.length := by
          rw [rA.length]
          cases ds with
          | nil => exact (hz rfl).elim
          | cons _ _ => simp
        refine ⟨.ref a, ea, .inl ⟨rfl, vs, SqL.of hA⟩, a, vs, vs[vs.length - 1], rfl, rfl, hA, List.getElem?_eq_getElem (by omega), ?_⟩
        exact k Hi _ σ (Ex.refl _) (R.change hsl ea hA rA.dropLast)
    · cases ef
/-- an expression whose value is dropped -/
def sDrop (f : EF) : SF := fun sl G => match f sl G with
  | some (_, G') => some (.nx, sl, G')
  | none => none
theorem q_drop (he : PE X e (tE X.K f)) (hs : swapsWith e none pos.line X.env = pure false := by rfl) : PS X (.Expr e pos) (tS X.K (sDrop f)) := PS.mono (ps_expr he hs) fun D σ H q => by
  obtain ⟨fr, Hi, sl, G, fl, sl', G', R, ef, k⟩ := q
  unfold sDrop at ef
  split at ef
  · rename_i d G1 h1
    cases ef
    exact ⟨fr, Hi, sl, G, d, _, R, h1, fun v Hi1 H1 n1 R1 r1 => k Hi1 H1 σ n1.hi R1⟩
  · cases ef
/-! ### return -/
def sRet (f : EF) : SF := fun sl G => match f sl G with
  | some (d, G') => some (.rt d, sl, G')
  | none => none
def sRetO (o : OF) : SF := fun sl G => match o sl G with
  | some (ds, G') => some (.ro ds, sl, G')
  | none => none
def sRetN : SF := fun sl G => some (.rt .none, sl, G)
/-- return xs, the slot's own list -/
def sRetV (i : Nat) : SF := fun sl G => match sl[i]? with
  | some (.own ds) => some (.ro ds, sl, G)
  | _ => none
theorem q_ret (he : PE X e (tE X.K f)) : PS X (.Return (some e) pos) (tS X.K (sRet f)) := PS.mono (ps_ret he) fun D σ H q => by
  obtain ⟨fr, Hi, sl, G, fl, sl', G', R, ef, k⟩ := q
  unfold sRet at ef
  split at ef
  · rename_i d G1 h1
    cases ef
    exact ⟨fr, Hi, sl, G, d, _, R, h1, fun v Hi1 H1 n1 R1 r1 => k Hi1 H1 σ n1.hi R1 v r1⟩
  · cases ef
theorem q_retO {o : OF} (he : PE X e (tO X.K o)) : PS X (.Return (some e) pos) (tS X.K (sRetO o)) := PS.mono (ps_ret he) fun D σ H q => by
  obtain ⟨fr, Hi, sl, G, fl, sl', G', R, ef, k⟩ := q
  unfold sRetO at ef
  split at ef
  · rename_i ds G1 h1
    cases ef
    exact ⟨fr, Hi, sl, G, ds, _, R, h1, fun p vs Hi1 H1 n1 R1 q1 q2 q3 r1 => k Hi1 H1 σ n1.hi R1 p vs (R.h0free q1) q2 q3 r1⟩
  · cases ef
theorem q_retN : PS X (.Return none pos) (tS X.K sRetN) := PS.mono ps_retN fun D σ H q => by
  obtain ⟨fr, Hi, sl, G, fl, sl', G', R, ef, k⟩ := q
  cases ef
  exact k Hi H σ (Ex.refl _) R .non .non
theorem q_retV {i : Nat} (he : PE X e (tVar i)) : PS X (.Return (some e) pos) (tS X.K (sRetV i)) := PS.mono (ps_ret he) fun D σ H q => by
  obtain ⟨fr, Hi, sl, G, fl, sl', G', R, ef, k⟩ := q
  unfold sRetV at ef
  split at ef
  · rename_i ds hsl
    cases ef
    obtain ⟨a, vs, ea, hA, rA, a1, a2, a3⟩ := R.slotOwn hsl
    exact ⟨.ref a, ea, k Hi H σ (Ex.refl _) R a vs a3 a1 hA rA⟩
  · cases ef
/-! ### if, while, for -/
def sIf (t : TF) (u w : SF) : SF := fun sl G => match t sl G with
  | some (true, G1) => u sl G1
  | some (false, G1) => w sl G1
  | none => none
variable {t : TF}
theorem q_ifS {c : Expr} {xs ys : List Stmt} (hc : PT X c (tT X.K t)) (ha : PSs X xs (tS X.K u)) (hb : PSs X ys (tS X.K w)) : PS X (.If c xs ys pos) (tS X.K (sIf t u w)) := PS.mono (ps_if hc ha hb) fun D σ H q => by
  obtain ⟨fr, Hi, sl, G, fl, sl', G', R, ef, k⟩ := q
  unfold sIf at ef
  split at ef
  · rename_i G1 h1
    refine ⟨fr, Hi, sl, G, true, G1, R, h1, fun Hi1 H1 n1 R1 => ?_⟩
    show tS X.K u D σ H1
    exact ⟨fr, Hi1, sl, G1, fl, sl', G', R1, ef, fun Hi2 H2 σ2 e2 R2 => k Hi2 H2 σ2 (n1.hi.trans e2) R2⟩
  · rename_i G1 h1
    refine ⟨fr, Hi, sl, G, false, G1, R, h1, fun Hi1 H1 n1 R1 => ?_⟩
    show tS X.K w D σ H1
    exact ⟨fr, Hi1, sl, G1, fl, sl', G', R1, ef, fun Hi2 H2 σ2 e2 R2 => k Hi2 H2 σ2 (n1.hi.trans e2) R2⟩
  · cases ef
def sWhile (t : TF) (u : SF) : Nat → SF
  | 0 => fun _ _ => none
  | n + 1 => fun sl G => match t sl G with
    | some (false, G1) => some (.nx, sl, G1)
    | some (true, G1) => (match u sl G1 with
      | some (.nx, sl2, G2) => sWhile t u n sl2 G2
      | some (.ct, sl2, G2) => sWhile t u n sl2 G2
      | some (.bk, sl2, G2) => some (.nx, sl2, G2)
      | some (.rt d, sl2, G2) => some (.rt d, sl2, G2)
      | some (.ro d, sl2, G2) => some (.ro d, sl2, G2)
      | none => none)
    | none => none
theorem q_while {c : Expr} {xs : List Stmt} (n : Nat) (hp : PassesOwn (model X.prog X.w) X.A X.env X.xe) (hc : PT X c (tT X.K t)) (hb : PSs X xs (tS X.K u)) : PS X (.While c xs [] pos) (tS X.K (sWhile t u n)) := PS.mono (ps_while hp hc hb) fun D σ H q => by
  obtain ⟨fr, Hi, sl, G, fl, sl', G', R, ef, k⟩ := q
  refine ⟨fun m σ2 H2 => ∃ Hi2 sl2 G2, Ex Hi Hi2 ∧ Rl X.K fr Hi2 H2 σ2 sl2 G2 ∧ sWhile t u m sl2 G2 = some (fl, sl', G'), ⟨n, Hi, sl, G, Ex.refl _, R, ef⟩, ?_⟩
  rintro m σ2 H2 ⟨Hi2, sl2, G2, e2, R2, ew⟩
  cases m with
  | zero => cases ew
  | succ m =>
    unfold sWhile at ew
    split at ew
    · rename_i G3 h3
      cases ew
      refine ⟨fr, Hi2, _, G2, false, _, R2, h3, fun Hi3 H3 n3 R3 => ?_⟩
      refine iteF ?_
      exact k Hi3 H3 σ2 (e2.trans n3.hi) R3
    · rename_i G3 h3
      refine ⟨fr, Hi2, sl2, G2, true, G3, R2, h3, fun Hi3 H3 n3 R3 => ?_⟩
      refine iteT ?_
      refine ⟨fun σ4 H4 => ∃ Hi4 sl4 G4, Ex Hi Hi4 ∧ Rl X.K fr Hi4 H4 σ4 sl4 G4 ∧ sWhile t u m sl4 G4 = some (fl, sl', G'), fun σ4 H4 h => ⟨m, by omega, h⟩, ?_⟩
      split at ew
      · rename_i sl4 G4 h4
        exact ⟨fr, Hi3, sl2, G3, .nx, sl4, G4, R3, h4, fun Hi5 H5 σ5 e5 R5 => ⟨Hi5, sl4, G4, (e2.trans n3.hi).trans e5, R5, ew⟩⟩
      · rename_i sl4 G4 h4
        exact ⟨fr, Hi3, sl2, G3, .ct, sl4, G4, R3, h4, fun Hi5 H5 σ5 e5 R5 => ⟨Hi5, sl4, G4, (e2.trans n3.hi).trans e5, R5, ew⟩⟩
      · rename_i sl4 G4 h4
        cases ew
        exact ⟨fr, Hi3, sl2, G3, .bk, _, _, R3, h4, fun Hi5 H5 σ5 e5 R5 => k Hi5 H5 σ5 ((e2.trans n3.hi).trans e5) R5⟩
      · rename_i d sl4 G4 h4
        cases ew
        exact ⟨fr, Hi3, sl2, G3, _, _, _, R3, h4, fun Hi5 H5 σ5 e5 R5 => k Hi5 H5 σ5 ((e2.trans n3.hi).trans e5) R5⟩
      · rename_i d sl4 G4 h4
        cases ew
        exact ⟨fr, Hi3, sl2, G3, _, _, _, R3, h4, fun Hi5 H5 σ5 e5 R5 => k Hi5 H5 σ5 ((e2.trans n3.hi).trans e5) R5⟩
      · cases ew
    · cases ew
def sForL (g : TgF) (u : SF) : List PyData → SF
  | [] => fun sl G => some (.nx, sl, G)
  | d :: r => fun sl G => match g d sl with
    | some sl1 => (match u sl1 G with
      | some (.nx, sl2, G2) => sForL g u r sl2 G2
      | some (.ct, sl2, G2) => sForL g u r sl2 G2
      | some (.bk, sl2, G2) => some (.nx, sl2, G2)
      | some (.rt d, sl2, G2) => some (.rt d, sl2, G2)
      | some (.ro d, sl2, G2) => some (.ro d, sl2, G2)
      | none => none)
    | none => none
def sFor (it : OF) (g : TgF) (u : SF) : SF := fun sl G => match it sl G with
  | some (ds, G1) => sForL g u ds sl G1
  | none => none
theorem q_for {tg it : Expr} {xs : List Stmt} {fi : OF} {g : TgF} (hp : PassesOwn (model X.prog X.w) X.A X.env X.xe) (hc : X.calm = true) (hi : PI X tg it (tI X.K fi)) (hg : PG X tg (tG X.K g)) (hb : PSs X xs (tS X.K u)) (hs : ∀ x, foldedSetIterable it X.env x = pure x := by intro _; rfl) : PS X (.For tg it xs [] pos) (tS X.K (sFor fi g u)) :=
  PS.mono (ps_for hp hc hi hg hb hs) fun D σ H q => by
    obtain ⟨fr, Hi, sl, G, fl, sl', G', R, ef, k⟩ := q
    unfold sFor at ef
    split at ef
    · rename_i ds G1 h1
      refine ⟨fr, Hi, sl, G, ds, G1, R, h1, fun J Hi1 H1 n1 R1 iok => ?_⟩
      let W : Nat → L2.St → Hp → Prop := fun i σ2 H2 => i ≤ ds.length ∧ ∃ Hi2 sl2 G2, Ex Hi1 Hi2 ∧ Rl X.K fr Hi2 H2 σ2 sl2 G2 ∧ sForL g u (ds.drop i) sl2 G2 = some (fl, sl', G')
      refine ⟨fun i m σ2 H2 => m = ds.length - i ∧ W i σ2 H2, ⟨_, rfl, by omega, Hi1, sl, G1, Ex.refl _, R1, by rw [List.drop_zero]; exact ef⟩, ?_⟩
      rintro i m σ2 H2 ⟨em, hi, Hi2, sl2, G2, e2, R2, eL⟩
      by_cases hlt : i < ds.length
      · refine .inr ⟨iok.goes i Hi2 H2 e2 R2.sub hlt, W (i + 1), fun σ3 H3 h3 => ⟨_, by omega, rfl, h3⟩, fun x H3 hy => ?_⟩
        obtain ⟨d, Hi3, hd, n3, R3, r3⟩ := iok.yields i Hi2 H2 x H3 σ2 sl2 G2 e2 R2 hlt hy
        have ed : ds.drop i = d :: ds.drop (i + 1) := by
          rw [List.drop_eq_getElem_cons hlt]
          congr 1
          rw [List.getElem?_eq_getElem hlt] at hd
          exact Option.some.inj hd
        rw [ed] at eL
        unfold sForL at eL
        split at eL
        · rename_i sl3 hg3
          refine ⟨fr, Hi3, sl2, G2, d, sl3, R3, r3, hg3, fun σ4 R4 => ?_⟩
          have ee := e2.trans n3.hi
          split at eL
          · rename_i sl4 G4 h4
            exact ⟨fr, Hi3, sl3, G2, .nx, sl4, G4, R4, h4, fun Hi5 H5 σ5 e5 R5 => ⟨by omega, Hi5, sl4, G4, ee.trans e5, R5, eL⟩⟩
          · rename_i sl4 G4 h4
            exact ⟨fr, Hi3, sl3, G2, .ct, sl4, G4, R4, h4, fun Hi5 H5 σ5 e5 R5 => ⟨by omega, Hi5, sl4, G4, ee.trans e5, R5, eL⟩⟩
          · rename_i sl4 G4 h4
            cases eL
            exact ⟨fr, Hi3, sl3, G2, .bk, _, _, R4, h4, fun Hi5 H5 σ5 e5 R5 => k Hi5 H5 σ5 ((n1.hi.trans ee).trans e5) R5⟩
          · rename_i d4 sl4 G4 h4
            cases eL
            exact ⟨fr, Hi3, sl3, G2, _, _, _, R4, h4, fun Hi5 H5 σ5 e5 R5 => k Hi5 H5 σ5 ((n1.hi.trans ee).trans e5) R5⟩
          · rename_i d4 sl4 G4 h4
            cases eL
            exact ⟨fr, Hi3, sl3, G2, _, _, _, R4, h4, fun Hi5 H5 σ5 e5 R5 => k Hi5 H5 σ5 ((n1.hi.trans ee).trans e5) R5⟩
          · cases eL
        · cases eL
      · have ei : i = ds.length := by omega
        subst ei
        rw [List.drop_length] at eL
        cases eL
        exact .inl ⟨iok.stops Hi2 H2 e2 R2.sub, k Hi2 H2 σ2 (n1.hi.trans e2) R2⟩
    · cases ef
end
end QL

set_option maxHeartbeats 2000000
namespace QL
open PySem PySem.Spec PyProof.Rows L2
/-! ### defs -/
def startS (n : Nat) (ds : List PyData) : Sl := ds.map SV.val ++ List.replicate (n - ds.length) SV.no
def endF : Option (Fl × Sl × GS) → Option (RV × GS)
  | some (.nx, _, G) => some (.val .none, G)
  | some (.rt d, _, G) => some (.val d, G)
  | some (.ro ds, _, G) => some (.own ds, G)
  | _ => none
def runF (n np : Nat) (u : SF) : DF := fun ds => if ds.length = np then (match endF (u (startS n ds) []) with
  | some (r, _) => some r
  | none => none) else none
def runG (n np : Nat) (u : SF) : GF := fun ds G => if ds.length + 1 = np then endF (u (.gen :: startS (n - 1) ds) G) else none
/-- a def whose first argument is the script -/
abbrev SDF := List Int → List PyData → Option RV
def runS (n np : Nat) (u : SF) : SDF := fun ns ds => if ds.length + 1 = np then (match endF (u (.scr ns :: startS (n - 1) ds) []) with
  | some (r, _) => some r
  | none => none) else none
def spS (K : PySem.W.Frag) (f : SDF) : Sp := fun vs H Q _ => ∃ a ws ns Hi ds r, vs = .ref a :: ws ∧ SqL K Hi a (ns.map V.int) ∧ Ex Hi H ∧ RpL K Hi ws ds ∧ f ns ds = some r ∧
  ∀ v Hi' H', Ex Hi Hi' → Ex H H' → Ex Hi' H' → (∀ a, Hi' a ≠ none → Hi a = none → H a = none) → RvR K H Hi' H' v r → Q v H'
section
variable {K : PySem.W.Frag} {Hi H : Hp}
theorem start_len (N : List Str) (vs : List V) (h : vs.length ≤ N.length) : (L2.start N vs).length = N.length := by
  unfold L2.start; simp; omega
theorem startS_len (n : Nat) (ds : List PyData) (h : ds.length ≤ n) : (startS n ds).length = n := by
  unfold startS; simp; omega
/-- the slots at the entry, behind some that stand ahead -/
theorem start_at {fr : Fr} {ws : List V} {ds : List PyData} {n m : Nat} (r : RpL K Hi ws ds) (i : Nat) (s : SV) (h : (startS n ds)[i]? = some s) : SvR K fr Hi H ((ws.map some ++ List.replicate m (none : Option V))[i]?) s ∧ ∀ es, s ≠ .own es := by
  unfold startS at h
  by_cases hi : i < ds.length
  · rw [List.getElem?_append_left (by simpa using hi), List.getElem?_map] at h
    cases e : ds[i]? with
    | none => rw [e] at h; cases h
    | some d =>
      rw [e] at h
      cases h
      obtain ⟨v, hv, rv⟩ := r.get e
      refine ⟨⟨v, ?_, rv⟩, fun es z => by cases z⟩
      rw [List.getElem?_append_left (by rw [List.length_map, r.length]; exact hi), List.getElem?_map, hv]
      rfl
  · rw [List.getElem?_append_right (by simpa using hi)] at h
    have := List.mem_of_getElem? h
    rw [List.mem_replicate] at this
    rw [this.2]
    exact ⟨trivial, fun es z => by cases z⟩
theorem rl_start {fr : Fr} {N : List Str} {ws : List V} {ds : List PyData} (hg : fr.g = none) (e0 : fr.Hi0 = Hi) (e1 : fr.H0 = H) (sub : Ex Hi H) (r : RpL K Hi ws ds) : Rl K fr Hi H (L2.start N ws) (startS N.length ds) [] where
  sub := sub
  hi := by rw [e0]; exact Ex.refl _
  nw := fun a h1 h2 => by rw [e0] at h2; exact (h1 h2).elim
  keep := by rw [e1]; exact Ex.refl _
  len := by unfold L2.start startS; simp [r.length]
  at_ := fun i s h => (start_at r i s h).1
  inj := fun i j cs es h1 _ _ => ((start_at (K := K) (H := H) (fr := fr) (m := N.length - ws.length) r i _ h1).2 cs rfl).elim
  gen := fun a e => by rw [hg] at e; cases e
theorem rl_startG {g : Addr} {fr : Fr} {x : Str} {N : List Str} {ws : List V} {ds : List PyData} {gs : List V} {G : GS} (hg : fr.g = some g) (e0 : fr.Hi0 = Hi) (e1 : fr.H0 = H) (sub : Ex Hi H) (r : RpL K Hi ws ds) (h1 : H g = some (.lst gs)) (h2 : Hi g = none) (rg : RpL K Hi gs G) :
    Rl K fr Hi H (L2.start (x :: N) (.ref g :: ws)) (.gen :: startS N.length ds) G where
  sub := sub
  hi := by rw [e0]; exact Ex.refl _
  nw := fun a h1 h2 => by rw [e0] at h2; exact (h1 h2).elim
  keep := by rw [e1]; exact Ex.refl _
  len := by unfold L2.start startS; simp [r.length]
  at_ := fun i s h => by
    cases i with
    | zero =>
      have e : SV.gen = s := by simpa using h
      subst e
      exact ⟨g, rfl, hg⟩
    | succ i =>
      have e : (L2.start (x :: N) (.ref g :: ws))[i + 1]? = (ws.map some ++ List.replicate ((x :: N).length - (V.ref g :: ws).length) (none : Option V))[i]? := by
        unfold L2.start; simp
      rw [e]
      exact (start_at r i s (by simpa using h)).1
  inj := fun i j cs es h1 _ _ => by
    cases i with
    | zero => simp at h1
    | succ i => exact ((start_at (K := K) (H := H) (fr := fr) (m := 0) r i _ (by simpa using h1)).2 cs rfl).elim
  gen := fun a e => by
    have : g = a := by rw [hg] at e; exact Option.some.inj e
    subst this
    exact ⟨h2, gs, h1, rg⟩
theorem rl_startS {a : Addr} {ns : List Int} {fr : Fr} {x : Str} {N : List Str} {ws : List V} {ds : List PyData} (hg : fr.g = none) (e0 : fr.Hi0 = Hi) (e1 : fr.H0 = H) (sub : Ex Hi H) (r : RpL K Hi ws ds) (hq : SqL K Hi a (ns.map V.int)) :
    Rl K fr Hi H (L2.start (x :: N) (.ref a :: ws)) (.scr ns :: startS N.length ds) [] where
  sub := sub
  hi := by rw [e0]; exact Ex.refl _
  nw := fun a h1 h2 => by rw [e0] at h2; exact (h1 h2).elim
  keep := by rw [e1]; exact Ex.refl _
  len := by unfold L2.start startS; simp [r.length]
  at_ := fun i s h => by
    cases i with
    | zero =>
      have e : SV.scr ns = s := by simpa using h
      subst e
      exact ⟨a, rfl, hq⟩
    | succ i =>
      have e : (L2.start (x :: N) (.ref a :: ws))[i + 1]? = (ws.map some ++ List.replicate ((x :: N).length - (V.ref a :: ws).length) (none : Option V))[i]? := by
        unfold L2.start; simp
      rw [e]
      exact (start_at r i s (by simpa using h)).1
  inj := fun i j cs es h1 _ _ => by
    cases i with
    | zero => simp at h1
    | succ i => exact ((start_at (K := K) (H := H) (fr := fr) (m := 0) r i _ (by simpa using h1)).2 cs rfl).elim
  gen := fun a e => by rw [hg] at e; cases e
end
section
variable {P : Program} {w : World} {K : PySem.W.Frag} {mg : Str → Option Value} {base : Heap} {x qual : Str} {params : Arguments} {body : List Stmt} {scope : Scope} {f : Addr} {fd : FuncData} {N ps : List Str} {k : Nat} {u : SF}
theorem runF_len {n np : Nat} {ds : List PyData} {r : RV} (h : runF n np u ds = some r) : ds.length = np := by
  unfold runF at h
  split at h
  · assumption
  · cases h
/-- THE RULE for a def of data -/
theorem fnF (F : FunD K x qual params body scope [] [] f fd) (S : FnScope N ps scope)
    (hbody : ∀ (cdv : Value) (A : Around) (outer : List Env) (s : Shared) (H : Hp) (E : XK), Room k (A.deeper (envOfC qual scope s.heap.objs.size f cdv)) → PSs (cxOf CX0 P w K mg base N qual scope f cdv A outer s H E).nox body (tS K u)) :
    FnOk P w K mg base CX0 (k + 1) f fd ps (spF K (runF N.length ps.length u)) := by
  refine F.ok S (fun vs H Q E h => ?_) fun cdv A outer s H vs Q E hr h => ⟨tS K u, PSs.nox (hbody cdv A outer s H E hr), ?_⟩
  · obtain ⟨Hi, ds, r, _, hr, e, _⟩ := h
    rw [hr.length, runF_len e]
  · obtain ⟨Hi, ds, r, sub, rd, e, q⟩ := h
    unfold runF at e
    rw [if_pos (runF_len e)] at e
    cases eu : u (startS N.length ds) [] with
    | none => rw [eu] at e; cases e
    | some z =>
      obtain ⟨fl, sl', G'⟩ := z
      rw [eu] at e
      refine ⟨⟨none, Hi, H⟩, Hi, startS N.length ds, [], fl, sl', G', rl_start rfl rfl rfl sub rd, eu, fun Hi' H' σ' e1 R' => ?_⟩
      have kp : Ex H H' := by have := R'.keep; rwa [hid_none, hid_none] at this
      cases fl with
      | nx =>
        cases e
        exact q .non Hi' H' e1 kp R'.sub R'.nw .non
      | bk => cases e
      | ct => cases e
      | rt d =>
        cases e
        exact fun v rv => q v Hi' H' e1 kp R'.sub R'.nw rv
      | ro zs =>
        cases e
        exact fun p vs h1 h2 h3 h4 => q (.ref p) Hi' H' e1 kp R'.sub R'.nw ⟨p, vs, rfl, h1, h2, h3, h4⟩
theorem runG_len {n np : Nat} {ds : List PyData} {G : GS} {r : RV × GS} (h : runG n np u ds G = some r) : ds.length + 1 = np := by
  unfold runG at h
  split at h
  · assumption
  · cases h
/-- THE RULE for a def whose first argument is the shared object -/
theorem fnG {y : Str} (F : FunD K x qual params body scope [] [] f fd) (S : FnScope (y :: N) ps scope)
    (hbody : ∀ (cdv : Value) (A : Around) (outer : List Env) (s : Shared) (H : Hp) (E : XK), Room k (A.deeper (envOfC qual scope s.heap.objs.size f cdv)) → PSs (cxOf CX0 P w K mg base (y :: N) qual scope f cdv A outer s H E).nox body (tS K u)) :
    FnOk P w K mg base CX0 (k + 1) f fd ps (spG K (runG (N.length + 1) ps.length u)) := by
  refine F.ok S (fun vs H Q E h => ?_) fun cdv A outer s H vs Q E hr h => ⟨tS K u, PSs.nox (hbody cdv A outer s H E hr), ?_⟩
  · obtain ⟨g, gs, Hi, ws, ds, G, r, G', ev, _, _, _, _, rd, e, _⟩ := h
    rw [ev, List.length_cons, rd.length, runG_len e]
  · obtain ⟨g, gs, Hi, ws, ds, G, r, G', ev, h1, h2, rg, sub, rd, e, q⟩ := h
    subst ev
    unfold runG at e
    rw [if_pos (runG_len e), Nat.add_sub_cancel] at e
    cases eu : u (.gen :: startS N.length ds) G with
    | none => rw [eu] at e; cases e
    | some z =>
      obtain ⟨fl, sl', G2⟩ := z
      rw [eu] at e
      refine ⟨⟨some g, Hi, H⟩, Hi, .gen :: startS N.length ds, G, fl, sl', G2, rl_startG rfl rfl rfl sub rd h1 h2 rg, eu, fun Hi' H' σ' e1 R' => ?_⟩
      obtain ⟨g1, gs', g2, g3⟩ := R'.gen g rfl
      cases fl with
      | nx =>
        cases e
        exact q .non Hi' H' gs' e1 R'.keep R'.sub R'.nw g1 g2 g3 .non
      | bk => cases e
      | ct => cases e
      | rt d =>
        cases e
        exact fun v rv => q v Hi' H' gs' e1 R'.keep R'.sub R'.nw g1 g2 g3 rv
      | ro zs =>
        cases e
        exact fun p vs k1 k2 k3 k4 => q (.ref p) Hi' H' gs' e1 R'.keep R'.sub R'.nw g1 g2 g3 ⟨p, vs, rfl, k1, k2, k3, k4⟩
theorem runS_len {n np : Nat} {ns : List Int} {ds : List PyData} {r : RV} (h : runS n np u ns ds = some r) : ds.length + 1 = np := by
  unfold runS at h
  split at h
  · assumption
  · cases h
/-- THE RULE for a def whose first argument is the script -/
theorem fnS {y : Str} (F : FunD K x qual params body scope [] [] f fd) (S : FnScope (y :: N) ps scope)
    (hbody : ∀ (cdv : Value) (A : Around) (outer : List Env) (s : Shared) (H : Hp) (E : XK), Room k (A.deeper (envOfC qual scope s.heap.objs.size f cdv)) → PSs (cxOf CX0 P w K mg base (y :: N) qual scope f cdv A outer s H E).nox body (tS K u)) :
    FnOk P w K mg base CX0 (k + 1) f fd ps (spS K (runS (N.length + 1) ps.length u)) := by
  refine F.ok S (fun vs H Q E h => ?_) fun cdv A outer s H vs Q E hr h => ⟨tS K u, PSs.nox (hbody cdv A outer s H E hr), ?_⟩
  · obtain ⟨a, ws, ns, Hi, ds, r, ev, _, _, rd, e, _⟩ := h
    rw [ev, List.length_cons, rd.length, runS_len e]
  · obtain ⟨a, ws, ns, Hi, ds, r, ev, hq, sub, rd, e, q⟩ := h
    subst ev
    unfold runS at e
    rw [if_pos (runS_len e), Nat.add_sub_cancel] at e
    cases eu : u (.scr ns :: startS N.length ds) [] with
    | none => rw [eu] at e; cases e
    | some z =>
      obtain ⟨fl, sl', G'⟩ := z
      rw [eu] at e
      refine ⟨⟨none, Hi, H⟩, Hi, .scr ns :: startS N.length ds, [], fl, sl', G', rl_startS rfl rfl rfl sub rd hq, eu, fun Hi' H' σ' e1 R' => ?_⟩
      have kp : Ex H H' := by have := R'.keep; rwa [hid_none, hid_none] at this
      cases fl with
      | nx =>
        cases e
        exact q .non Hi' H' e1 kp R'.sub R'.nw .non
      | bk => cases e
      | ct => cases e
      | rt d =>
        cases e
        exact fun v rv => q v Hi' H' e1 kp R'.sub R'.nw rv
      | ro zs =>
        cases e
        exact fun p vs h1 h2 h3 h4 => q (.ref p) Hi' H' e1 kp R'.sub R'.nw ⟨p, vs, rfl, h1, h2, h3, h4⟩
end
/-! ### calls that hand the script on -/
section
variable {X : Cx} {e : Expr} {pos p : Pos} {es : List Expr} {as : OF} {CX : CXT} {kk : Nat} {fAddr : Addr} {fd : FuncData} {ps : List Str} {E : XK} {x : Str} {sf : SDF}
def eCallS (i : Nat) (f : SDF) (as : OF) : EF := fun sl G => match sl[i]? with
  | some (.scr ns) => (match as sl G with
    | some (ds, G1) => (match f ns ds with
      | some r => some (r.d, G1)
      | none => none)
    | none => none)
  | _ => none
def oCallS (i : Nat) (f : SDF) (as : OF) : OF := fun sl G => match sl[i]? with
  | some (.scr ns) => (match as sl G with
    | some (ds, G1) => (match f ns ds with
      | some (.own zs) => some (zs, G1)
      | _ => none)
    | none => none)
  | _ => none
def tArS (K : PySem.W.Frag) (i : Nat) (f : OF) : TA := fun σ H Q => ∃ fr Hi sl G ns ds G', Rl K fr Hi H σ sl G ∧ sl[i]? = some (.scr ns) ∧ f sl G = some (ds, G') ∧ ∀ a vs Hi' H', SqL K Hi' a (ns.map V.int) → Nx fr Hi H Hi' H' → Rl K fr Hi' H' σ sl G' → RpL K Hi' vs ds → Q (.ref a :: vs) H'
theorem qa_scr {i : Nat} (he : PE X e (tVar i)) (hr : PA X es (tAr X.K as)) (hs : starEach (e :: es) X.env = (false, eval e X.env) :: starEach es X.env := by rfl) : PA X (e :: es) (tArS X.K i as) := PA.mono (pa_cons he hr hs) fun σ H Q q => by
  obtain ⟨fr, Hi, sl, G, ns, ds, G', R, hi, ef, k⟩ := q
  obtain ⟨a, hv, hq⟩ := R.at_ i _ hi
  exact ⟨.ref a, hv, fr, Hi, sl, G, ds, G', R, ef, fun vs Hi' H' n R' r => k a vs Hi' H' (SqL_ex n.hi hq) n R' r⟩
theorem q_callS {i : Nat} (F : FnOk X.prog X.w X.K X.mg X.base CX kk fAddr fd ps (spS X.K sf)) (hr : Room kk X.A) (hg : Gl X x) (hm : X.mg x = some (.ref fAddr)) (hk : PySem.W.keepIn X.K (.ref fAddr) = true) (hb : Binds X.K fd ps []) (hx : Passes CX X E) (ha : PA X (e :: es) (tArS X.K i as)) (hdb : (x == ("__debug__" : Str)) = false := by decide)
    (he : starEach (e :: es) X.env = (false, eval e X.env) :: starEach es X.env := by rfl) (hpl : (backTo pos (starEach es X.env)).any (·.1) = false := by rfl) : PE X (.Call (.Name x p) (e :: es) [] pos) (tE X.K (eCallS i sf as)) :=
  PE.mono (pe_call F hr hg hm hk hb .nil hx ha hdb he hpl) fun σ H Q q => by
    obtain ⟨fr, Hi, sl, G, d, G', R, ef, k⟩ := q
    unfold eCallS at ef
    split at ef
    · rename_i ns hi
      split at ef
      · rename_i ds G1 h1
        split at ef
        · rename_i r hr
          cases ef
          refine ⟨fr, Hi, sl, G, ns, ds, _, R, hi, h1, fun a vs Hi1 H1 hq n1 R1 r1 => ?_⟩
          refine ⟨a, vs, ns, Hi1, ds, r, by rw [List.append_nil], hq, R1.sub, r1, hr, fun v Hi2 H2 e1 e2 e3 nw rv => ?_⟩
          have n2 : Nx fr Hi1 H1 Hi2 H2 := Nx.of_full e1 e2 nw
          have R2 : Rl X.K fr Hi2 H2 σ sl _ := R1.step n2 e3 (R1.gen_of n2 (fun a _ => nw a) fun a ea => by
            obtain ⟨_, ws, hw, _⟩ := R1.gen a ea
            rw [hw]; exact e2 _ _ hw)
          obtain ⟨Hi3, n3, R3, r3⟩ := RvR.datum R1 n2 R2 rv
          exact k v Hi3 H2 (n1.trans n3) R3 r3
        · cases ef
      · cases ef
    · cases ef
theorem q_callSO {i : Nat} (F : FnOk X.prog X.w X.K X.mg X.base CX kk fAddr fd ps (spS X.K sf)) (hr : Room kk X.A) (hg : Gl X x) (hm : X.mg x = some (.ref fAddr)) (hk : PySem.W.keepIn X.K (.ref fAddr) = true) (hb : Binds X.K fd ps []) (hx : Passes CX X E) (ha : PA X (e :: es) (tArS X.K i as)) (hdb : (x == ("__debug__" : Str)) = false := by decide)
    (he : starEach (e :: es) X.env = (false, eval e X.env) :: starEach es X.env := by rfl) (hpl : (backTo pos (starEach es X.env)).any (·.1) = false := by rfl) : PE X (.Call (.Name x p) (e :: es) [] pos) (tO X.K (oCallS i sf as)) :=
  PE.mono (pe_call F hr hg hm hk hb .nil hx ha hdb he hpl) fun σ H Q q => by
    obtain ⟨fr, Hi, sl, G, d, G', R, ef, k⟩ := q
    unfold oCallS at ef
    split at ef
    · rename_i ns hi
      split at ef
      · rename_i ds G1 h1
        split at ef
        · rename_i zs hr
          cases ef
          refine ⟨fr, Hi, sl, G, ns, ds, _, R, hi, h1, fun a vs Hi1 H1 hq n1 R1 r1 => ?_⟩
          refine ⟨a, vs, ns, Hi1, ds, _, by rw [List.append_nil], hq, R1.sub, r1, hr, fun v Hi2 H2 e1 e2 e3 nw rv => ?_⟩
          have n2 : Nx fr Hi1 H1 Hi2 H2 := Nx.of_full e1 e2 nw
          have R2 : Rl X.K fr Hi2 H2 σ sl _ := R1.step n2 e3 (R1.gen_of n2 (fun a _ => nw a) fun a ea => by
            obtain ⟨_, ws, hw, _⟩ := R1.gen a ea
            rw [hw]; exact e2 _ _ hw)
          obtain ⟨p, vs', ev, h5, h6, h7, r7⟩ := rv
          rw [ev]
          exact k p vs' Hi2 H2 (n1.trans n2) R2 (n1.free (R1.gne h5) h5) h6 h7 r7
        · cases ef
      · cases ef
    · cases ef
/-- a fresh list that is the shared one from here on: g = f(script, ..) -/
def sGen (i : Nat) (o : OF) : SF := fun sl G => match o sl G with
  | some (zs, _) => some (.nx, sl.set i .gen, zs)
  | none => none
end
/-! ### wide powers -/
theorem bits_pow10 : Builtin.Int.intBits ((10 : Int) ^ 60) ≤ 200 := by decide +kernel
end QL
namespace QL
open PySem PySem.Spec PyProof.Rows L2
theorem room64 {k : Nat} {A : Around} (r : Room k A) : A.units + 64 < cLine := by have := r.un; omega
theorem room65 {k : Nat} {A : Around} (r : Room k A) : A.units + 65 < cLine := by have := r.un; omega
/-- ** of any size within the line -/
def CPowW (i j : Int) : Prop := 0 ≤ j ∧ (Builtin.Int.intBits i : Int) * j ≤ 134217728
theorem op_powW {X : Cx} : OpR X (binaryOp .Pow) (rI CPowW fun i j => .int (i ^ j.toNat)) := opI fun _ _ _ _ _ _ _ hc q => pow_int hc.1 (by have := hc.2; omega) q
def dPowW := oI (fun i j => decide (0 ≤ j ∧ (Builtin.Int.intBits i : Int) * j ≤ 134217728)) fun i j => .int (i ^ j.toNat)
theorem b_powW {K : PySem.W.Frag} : BinOk K (Rw K) (rI CPowW fun i j => .int (i ^ j.toNat)) dPowW := .ints (fun i j h => of_decide_eq_true (p := 0 ≤ j ∧ (Builtin.Int.intBits i : Int) * j ≤ 134217728) h) fun _ _ _ => .int _
/-- a def that may be called by its name -/
def Cal (P : Program) (w : World) (K : PySem.W.Frag) (mg : Str → Option Value) (base : Heap) (k : Nat) (x : Str) (ps : List Str) (sp : Sp) : Prop :=
  ∃ f fd, mg x = some (.ref f) ∧ PySem.W.keepIn K (.ref f) = true ∧ Binds K fd ps [] ∧ FnOk P w K mg base CX0 k f fd ps sp
section
variable {X : Cx} {e : Expr} {pos p : Pos} {es : List Expr} {as : OF} {kk : Nat} {ps : List Str} {x : Str} {df : DF} {gf : GF} {sf : SDF}
theorem c_call (C : Cal X.prog X.w X.K X.mg X.base kk x ps (spF X.K df)) (hr : Room kk X.A) (hg : Gl X x) (ha : PA X (e :: es) (tAr X.K as)) (hdb : (x == ("__debug__" : Str)) = false := by decide)
    (he : starEach (e :: es) X.env = (false, eval e X.env) :: starEach es X.env := by rfl) (hpl : (backTo pos (starEach es X.env)).any (·.1) = false := by rfl) : PE X (.Call (.Name x p) (e :: es) [] pos) (tE X.K (eCall df as)) := by
  obtain ⟨f, fd, h1, h2, h3, h4⟩ := C
  exact q_call h4 hr hg h1 h2 h3 pass0 ha hdb he hpl
theorem c_callO (C : Cal X.prog X.w X.K X.mg X.base kk x ps (spF X.K df)) (hr : Room kk X.A) (hg : Gl X x) (ha : PA X (e :: es) (tAr X.K as)) (hdb : (x == ("__debug__" : Str)) = false := by decide)
    (he : starEach (e :: es) X.env = (false, eval e X.env) :: starEach es X.env := by rfl) (hpl : (backTo pos (starEach es X.env)).any (·.1) = false := by rfl) : PE X (.Call (.Name x p) (e :: es) [] pos) (tO X.K (oCall df as)) := by
  obtain ⟨f, fd, h1, h2, h3, h4⟩ := C
  exact q_callO h4 hr hg h1 h2 h3 pass0 ha hdb he hpl
theorem c_callG {i : Nat} (C : Cal X.prog X.w X.K X.mg X.base kk x ps (spG X.K gf)) (hr : Room kk X.A) (hg : Gl X x) (ha : PA X (e :: es) (tArG X.K i as)) (hdb : (x == ("__debug__" : Str)) = false := by decide)
    (he : starEach (e :: es) X.env = (false, eval e X.env) :: starEach es X.env := by rfl) (hpl : (backTo pos (starEach es X.env)).any (·.1) = false := by rfl) : PE X (.Call (.Name x p) (e :: es) [] pos) (tE X.K (eCallG i gf as)) := by
  obtain ⟨f, fd, h1, h2, h3, h4⟩ := C
  exact q_callG h4 hr hg h1 h2 h3 pass0 ha hdb he hpl
theorem c_callN {o : OF} (C : Cal X.prog X.w X.K X.mg X.base kk x ps (spG X.K gf)) (hr : Room kk X.A) (hg : Gl X x) (ha : PE X e (tO X.K o)) (hdb : (x == ("__debug__" : Str)) = false := by decide)
    (he : starEach [e] X.env = (false, eval e X.env) :: starEach [] X.env := by rfl) (hpl : (backTo pos (starEach [] X.env)).any (·.1) = false := by rfl) : PE X (.Call (.Name x p) [e] [] pos) (tE X.K (eCallN gf o)) := by
  obtain ⟨f, fd, h1, h2, h3, h4⟩ := C
  exact q_callN h4 hr hg h1 h2 h3 pass0 ha hdb he hpl
theorem c_callS {i : Nat} (C : Cal X.prog X.w X.K X.mg X.base kk x ps (spS X.K sf)) (hr : Room kk X.A) (hg : Gl X x) (ha : PA X (e :: es) (tArS X.K i as)) (hdb : (x == ("__debug__" : Str)) = false := by decide)
    (he : starEach (e :: es) X.env = (false, eval e X.env) :: starEach es X.env := by rfl) (hpl : (backTo pos (starEach es X.env)).any (·.1) = false := by rfl) : PE X (.Call (.Name x p) (e :: es) [] pos) (tE X.K (eCallS i sf as)) := by
  obtain ⟨f, fd, h1, h2, h3, h4⟩ := C
  exact q_callS h4 hr hg h1 h2 h3 pass0 ha hdb he hpl
theorem c_callSO {i : Nat} (C : Cal X.prog X.w X.K X.mg X.base kk x ps (spS X.K sf)) (hr : Room kk X.A) (hg : Gl X x) (ha : PA X (e :: es) (tArS X.K i as)) (hdb : (x == ("__debug__" : Str)) = false := by decide)
    (he : starEach (e :: es) X.env = (false, eval e X.env) :: starEach es X.env := by rfl) (hpl : (backTo pos (starEach es X.env)).any (·.1) = false := by rfl) : PE X (.Call (.Name x p) (e :: es) [] pos) (tO X.K (oCallS i sf as)) := by
  obtain ⟨f, fd, h1, h2, h3, h4⟩ := C
  exact q_callSO h4 hr hg h1 h2 h3 pass0 ha hdb he hpl
/-- the module's names: ints, tuples of ints -/
theorem q_gint {i : Int} (hg : Gl X x) (hm : ∃ t, X.mg x = some (.int i t)) (hd : (x == ("__debug__" : Str)) = false := by decide) : PE X (.Name x pos) (tE X.K (eC (.int i))) := by
  obtain ⟨t, h⟩ := hm
  exact q_c (pe_glob (v := .int i) hg h ⟨t, rfl⟩ hd) fun _ => .int i
theorem q_gtup {ns : List Int} (hg : Gl X x) (hm : ∃ a, X.mg x = some (.ref a) ∧ ∀ H, SqT X.K H a (ns.map V.int)) (hd : (x == ("__debug__" : Str)) = false := by decide) : PE X (.Name x pos) (tE X.K (eC (.tuple (ns.map .int)))) := by
  obtain ⟨a, h, hs⟩ := hm
  exact q_c (pe_glob (v := .ref a) hg h rfl hd) fun H => .tup (hs H) (RpL.of_ints ns)
end
end QL

namespace DN
open PySem PySem.Spec PyProof.Rows L2 QL
def u_is_whole : SF := (sRet (eAnd (e1 (dIsi "int") (eV 0)) (eNot (e1 (dIsi "bool") (eV 0)))))
def d_is_whole : DF := runF 1 1 u_is_whole
def u_is_between : SF := (sRet (eAnd (eCall d_is_whole (aCons (eV 0) aNil)) (eAnd (e2 dGe (eV 0) (eV 1)) (eOr (e2 dIsN (eV 2) (eC .none)) (e2 dLe (eV 0) (eV 2))))))
def d_is_between : DF := runF 3 3 u_is_between
def u_check_prime : SF := (sIf (tOrF (tNotF (bE (eCall d_is_whole (aCons (eV 0) aNil)))) (bE (e2 dNotIn (eV 0) (eC (.tuple (([3, 5, 7] : List Int).map .int)))))) (fun _ _ => none) sNil)
def d_check_prime : DF := runF 1 1 u_check_prime
def u_is_poly_list : SF := (sSeq (sIf (tOrF (tNotF (bE (e1 (dIsi "list") (eV 1)))) (bE (e2 dGt (e1 dLen (eV 1)) (e2 dAdd (eC (.int 60)) (eC (.int 1)))))) (sRet (eC (.bool false))) sNil) (sSeq (sIf (bE (e2 dNe (eO (oLc (iL (eV 1)) (gN 2) (tNotF (bE (eCall d_is_between (aCons (eV 2) (aCons (eC (.int 0)) (aCons (e2 dSub (eV 0) (eC (.int 1))) aNil)))))) (eV 2) [2])) (eO (oLst aNil)))) (sRet (eC (.bool false))) sNil) (sRet (eOr (e2 dEq (eV 1) (eO (oLst aNil))) (e2 dNe (e2 dIx (eV 1) (eNeg (eC (.int 1)))) (eC (.int 0)))))))
def d_is_poly_list : DF := runF 3 2 u_is_poly_list
def u_check_poly : SF := (sIf (tNotF (bE (eCall d_is_poly_list (aCons (eV 0) (aCons (eV 1) aNil))))) (fun _ _ => none) sNil)
def d_check_poly : DF := runF 2 2 u_check_poly
def u_inverse : SF := (sRet (e2 dIx (eO (oLc (iR2 (aCons (eC (.int 1)) (aCons (eV 0) aNil))) (gN 2) (bE (e2 dEq (e2 dMod (e2 dMul (eV 2) (eV 1)) (eV 0)) (eC (.int 1)))) (eV 2) [2])) (eC (.int 0))))
def d_inverse : DF := runF 3 2 u_inverse
def u_trimmed : SF := (sSeq (sOwn 2 (oLc (iL (eV 1)) (gN 3) tTrue (e2 dMod (e1 dInt (eV 3)) (eV 0)) [3])) (sSeq (sWhile (tAndF (bE (e2 dNe (bV 2) (eO (oLst aNil)))) (bE (e2 dEq (e2 dIx (bV 2) (eNeg (eC (.int 1)))) (eC (.int 0))))) (sPop 2) 1000000) (sRetV 2)))
def d_trimmed : DF := runF 4 2 u_trimmed
def u_scaled : SF := (sRetO (oCall d_trimmed (aCons (eV 0) (aCons (eO (oLc (iL (eV 1)) (gN 3) tTrue (e2 dMul (eV 3) (eV 2)) [3])) aNil))))
def d_scaled : DF := runF 4 3 u_scaled
def u_parted : SF := (sSeq (sPar [4, 5, 6] (mOwn (oList (eV 1)) (mOwn (oBin dMul (eO (oLst (aCons (eC (.int 0)) aNil))) (eM2 (fun i j => if j > i then j else i) (aCons (e2 dAdd (e2 dSub (e1 dLen (eV 1)) (e1 dLen (eV 2))) (eC (.int 1))) (aCons (eC (.int 0)) aNil)))) (mVal (eCall d_inverse (aCons (eV 0) (aCons (e2 dIx (eV 2) (eNeg (eC (.int 1)))) aNil))) mNil)))) (sSeq (sFor (iR3 (aCons (e2 dSub (e1 dLen (eV 1)) (e1 dLen (eV 2))) (aCons (eNeg (eC (.int 1))) (aCons (eNeg (eC (.int 1))) aNil)))) (gN 3) (sSeq (sSet 7 (e2 dMod (e2 dMul (e2 dIx (bV 4) (e2 dSub (e2 dAdd (eV 3) (e1 dLen (eV 2))) (eC (.int 1)))) (eV 6)) (eV 0))) (sSeq (sIx 5 (eV 3) (eV 7)) (sFor (iEn (aCons (eV 2) aNil)) (gT [(gN 8), (gN 9)]) (sIx 4 (e2 dAdd (eV 3) (eV 8)) (e2 dMod (e2 dSub (e2 dIx (bV 4) (e2 dAdd (eV 3) (eV 8))) (e2 dMul (eV 7) (eV 9))) (eV 0))))))) (sFrz 5 (sFrz 4 (sRet (eTup (aCons (eCall d_trimmed (aCons (eV 0) (aCons (eV 5) aNil))) (aCons (eCall d_trimmed (aCons (eV 0) (aCons (eV 4) aNil))) aNil))))))))
def d_parted : DF := runF 10 3 u_parted
def u_rest_of : SF := (sRet (e2 dIx (eCall d_parted (aCons (eV 0) (aCons (eV 1) (aCons (eV 2) aNil)))) (eC (.int 1))))
def d_rest_of : DF := runF 3 3 u_rest_of
def u_raised_whole : SF := (sSeq (sSet 2 (eC (.int 1))) (sSeq (sFor (iR1 (aCons (eV 1) aNil)) (gN 3) (sSet 2 (e2 dMul (eV 2) (eV 0)))) (sRet (eV 2))))
def d_raised_whole : DF := runF 4 2 u_raised_whole
def u_check_great_modulus : SF := (sIf (tOrF (tNotF (bE (eCall d_is_poly_list (aCons (eV 0) (aCons (eV 1) aNil))))) (tOrF (bE (e2 dLt (e1 dLen (eV 1)) (eC (.int 2)))) (tOrF (bE (e2 dGt (e1 dLen (eV 1)) (e2 dAdd (eC (.int 30)) (eC (.int 1))))) (bE (e2 dNe (e2 dIx (eV 1) (eNeg (eC (.int 1)))) (eC (.int 1))))))) (fun _ _ => none) sNil)
def d_check_great_modulus : DF := runF 2 2 u_check_great_modulus
def u_number_to : SF := (sRet (e2 dMod (eCall d_raised_whole (aCons (eV 1) (aCons (e2 dMod (eV 2) (e2 dSub (eV 0) (eC (.int 1)))) aNil))) (eV 0)))
def d_number_to : DF := runF 3 3 u_number_to
def u_stepped : SF := (sSeq (sTg (gT [(gN 4), (gN 5), (gN 6)]) (eV 2)) (sSeq (sIf (bE (e2 dEq (eV 1) (eC (.str "rest")))) (sRet (eTup (aCons (eV 4) (aCons (eCall d_rest_of (aCons (eV 0) (aCons (eV 5) (aCons (eV 4) aNil)))) (aCons (eV 6) aNil))))) sNil) (sSeq (sIf (bE (e2 dEq (eV 5) (eO (oLst aNil)))) (sRet (eC .none)) sNil) (sSeq (sIf (bE (e2 dEq (eV 1) (eC (.str "lead")))) (sSeq (sSet 7 (e2 dIx (eV 5) (eNeg (eC (.int 1))))) (sRet (eTup (aCons (eV 4) (aCons (eCall d_scaled (aCons (eV 0) (aCons (eV 5) (aCons (eCall d_inverse (aCons (eV 0) (aCons (eV 7) aNil))) aNil)))) (aCons (e2 dMod (e2 dMul (eV 6) (eCall d_number_to (aCons (eV 0) (aCons (eV 7) (aCons (e2 dSub (e1 dLen (eV 4)) (eC (.int 1))) aNil))))) (eV 0)) aNil)))))) sNil) (sSeq (sIf (tOrF (bE (e2 dNe (eV 1) (eC (.str "turn")))) (tOrF (bE (e2 dNe (e2 dIx (eV 5) (eNeg (eC (.int 1)))) (eC (.int 1)))) (bE (e2 dLt (e1 dLen (eV 5)) (eC (.int 2)))))) (sRet (eC .none)) sNil) (sSeq (sSet 3 (e2 dEq (e2 dMod (e2 dMul (e2 dSub (e1 dLen (eV 4)) (eC (.int 1))) (e2 dSub (e1 dLen (eV 5)) (eC (.int 1)))) (eC (.int 2))) (eC (.int 1)))) (sRet (eTup (aCons (eV 5) (aCons (eV 4) (aCons (eIf (bE (eV 3)) (e2 dMod (e2 dSub (eV 0) (eV 6)) (eV 0)) (eV 6)) aNil)))))))))))
def d_stepped : DF := runF 8 3 u_stepped
def u_word_for : SF := (sSeq (sTg (gT [(gN 1), (gN 2), (gN 3)]) (eV 0)) (sSeq (sIf (bE (e2 dGe (e1 dLen (eV 2)) (e1 dLen (eV 1)))) (sRet (eC (.str "rest"))) sNil) (sRet (eIf (bE (e2 dNe (e2 dIx (eV 2) (eNeg (eC (.int 1)))) (eC (.int 1)))) (eC (.str "lead")) (eC (.str "turn"))))))
def d_word_for : DF := runF 4 1 u_word_for
def u_walk_of : SF := (sSeq (sPar [3, 4] (mVal (eTup (aCons (eO (oList (eV 1))) (aCons (eO (oList (eV 2))) (aCons (eC (.int 1)) aNil)))) (mOwn (oLst aNil) mNil))) (sSeq (sWhile (bE (e2 dNotIn (e2 dIx (eV 3) (eC (.int 1))) (eTup (aCons (eO (oLst aNil)) (aCons (eO (oLst (aCons (eC (.int 1)) aNil))) aNil))))) (sSeq (sSet 5 (eCall d_word_for (aCons (eV 3) aNil))) (sSeq (sSet 3 (eCall d_stepped (aCons (eV 0) (aCons (eV 5) (aCons (eV 3) aNil))))) (sApp 4 (eTup (aCons (eV 5) (aCons (eO (oList (e2 dIx (eV 3) (eC (.int 0))))) (aCons (eO (oList (e2 dIx (eV 3) (eC (.int 1))))) (aCons (e2 dIx (eV 3) (eC (.int 2))) aNil)))))))) 1000000) (sRetV 4)))
def d_walk_of : DF := runF 6 3 u_walk_of
def u_residue_of : SF := (sSeq (sSet 3 (eCall d_walk_of (aCons (eV 0) (aCons (eV 1) (aCons (eV 2) aNil))))) (sSeq (sSet 4 (eIf (bE (e2 dNe (eV 3) (eO (oLst aNil)))) (eSlT (e2 dIx (eV 3) (eNeg (eC (.int 1)))) (pSo (eC (.int 2))) pNo) (eTup (aCons (eV 2) (aCons (eC (.int 1)) aNil))))) (sRet (eIf (bE (e2 dEq (e2 dIx (eV 4) (eC (.int 0))) (eO (oLst (aCons (eC (.int 1)) aNil))))) (e2 dIx (eV 4) (eC (.int 1))) (eC (.int 0))))))
def d_residue_of : DF := runF 5 3 u_residue_of
def u_residue : SF := (sSeq (sDrop (eCall d_check_prime (aCons (eV 0) aNil))) (sSeq (sDrop (eCall d_check_great_modulus (aCons (eV 0) (aCons (eV 1) aNil)))) (sSeq (sDrop (eCall d_check_poly (aCons (eV 0) (aCons (eV 2) aNil)))) (sRet (eCall d_residue_of (aCons (eV 0) (aCons (eV 1) (aCons (eV 2) aNil))))))))
def d_residue : DF := runF 3 3 u_residue
def u__law_hash : SF := (sSeq (sSet 2 (e2 dMod (e1 dInt (e2 dAdd (e2 dAdd (e2 dAdd (e2 dMul (eV 0) (eC (.int 1140671))) (e2 dMul (e2 dMul (eC (.int 27644437)) (eV 1)) (eV 1))) (e2 dMul (eC (.int 131)) (eV 1))) (eC (.int 19)))) (eC (.int 2147483629)))) (sSeq (sSet 2 (e2 dMod (e1 dInt (e2 dAdd (e2 dAdd (e2 dMul (eV 2) (eV 2)) (e2 dMul (eC (.int 62089)) (eV 1))) (eC (.int 32416187)))) (eC (.int 2147483587)))) (sRet (e2 dMod (e1 dInt (e2 dMul (eV 2) (eC (.int 48271)))) (eC (.int 2147483647))))))
def d__law_hash : DF := runF 3 2 u__law_hash
def u__law_random : SF := (sSeq (sIf (bE (e2 dGt (eG 0 (eC (.int 0))) (eC (.int 0)))) (sSeq (sSet 2 (e2 dMod (e1 dInt (eG 0 (eC (.int 0)))) (eV 1))) (sSeq (sGs 0 (eC (.int 0)) (e2 dFdiv (eG 0 (eC (.int 0))) (eV 1))) (sRet (eV 2)))) sNil) (sSeq (sSet 2 (eC (.int 0))) (sSeq (sFor (iR1 (aCons (e2 dAdd (eC (.int 1)) (e2 dFdiv (e1 dBits (eV 1)) (eC (.int 30)))) aNil)) (gN 3) (sSeq (sGs 0 (eC (.int 2)) (e2 dAdd (eG 0 (eC (.int 2))) (eC (.int 1)))) (sSet 2 (e2 dAdd (e2 dMul (eV 2) (eC (.int 2147483587))) (eCall d__law_hash (aCons (eG 0 (eC (.int 1))) (aCons (eG 0 (eC (.int 2))) aNil))))))) (sRet (e2 dMod (e1 dInt (eV 2)) (eV 1))))))
def d__law_random : GF := runG 4 2 u__law_random
def u__law_cell : SF := (sSeq (sIf (bE (e2 dLt (eV 1) (e1 dLen (wV 0)))) (sRet (e2 dIx (wV 0) (eV 1))) sNil) (sRet (e2 dMod (e1 dSum (eO (oSl (wV 0) pNo (pSo (eC (.int 1)))))) (eC (.int 1000003)))))
def d__law_cell : SDF := runS 2 2 u__law_cell
def u__law_generator : SF := (sSeq (sSet 2 (eCallS 0 d__law_cell (aCons (eV 1) aNil))) (sRetO (oLst (aCons (e2 dMod (e1 dInt (eM2 (fun i j => if j > i then j else i) (aCons (e2 dSub (eV 2) (e2 dPowW (eC (.int 10)) (eC (.int 18)))) (aCons (eC (.int 0)) aNil)))) (e2 dPowW (e2 dPowW (eC (.int 10)) (eC (.int 60))) (eC (.int 10)))) (aCons (e2 dMod (e1 dInt (eV 2)) (eC (.int 2147483647))) (aCons (e2 dMul (eC (.int 1000)) (eV 1)) aNil))))))
def d__law_generator : SDF := runS 3 2 u__law_generator
def u__law_trim : SF := (sSeq (sOwn 2 (oLc (iL (eV 1)) (gN 3) tTrue (e2 dMod (e1 dInt (eV 3)) (eV 0)) [3])) (sSeq (sWhile (tAndF (bE (e2 dNe (bV 2) (eO (oLst aNil)))) (bE (e2 dEq (e2 dIx (bV 2) (eNeg (eC (.int 1)))) (eC (.int 0))))) (sPop 2) 1000000) (sRetV 2)))
def d__law_trim : DF := runF 4 2 u__law_trim
def u__law_plus : SF := (sSeq (sSet 4 (eM2 (fun i j => if j > i then j else i) (aCons (e1 dLen (eV 1)) (aCons (e1 dLen (eV 2)) aNil)))) (sSeq (sTg (gT [(gN 5), (gN 6)]) (eTup (aCons (e2 dAdd (eV 1) (e2 dMul (eO (oLst (aCons (eC (.int 0)) aNil))) (e2 dSub (eV 4) (e1 dLen (eV 1))))) (aCons (e2 dAdd (eV 2) (e2 dMul (eO (oLst (aCons (eC (.int 0)) aNil))) (e2 dSub (eV 4) (e1 dLen (eV 2))))) aNil)))) (sRetO (oCall d__law_trim (aCons (eV 0) (aCons (eO (oLc (iR1 (aCons (eV 4) aNil)) (gN 7) tTrue (e2 dAdd (e2 dIx (eV 5) (eV 7)) (e2 dMul (eV 3) (e2 dIx (eV 6) (eV 7)))) [7])) aNil))))))
def d__law_plus : DF := runF 8 4 u__law_plus
def u__law_times : SF := (sSeq (sOwn 3 (oBin dMul (eO (oLst (aCons (eC (.int 0)) aNil))) (e2 dAdd (e1 dLen (eV 1)) (e1 dLen (eV 2))))) (sSeq (sFor (iEn (aCons (eV 1) aNil)) (gT [(gN 4), (gN 5)]) (sFor (iEn (aCons (eV 2) aNil)) (gT [(gN 6), (gN 7)]) (sIx 3 (e2 dAdd (eV 4) (eV 6)) (e2 dAdd (e2 dIx (bV 3) (e2 dAdd (eV 4) (eV 6))) (e2 dMul (eV 5) (eV 7)))))) (sFrz 3 (sRetO (oCall d__law_trim (aCons (eV 0) (aCons (eV 3) aNil)))))))
def d__law_times : DF := runF 8 3 u__law_times
def u__law_back : SF := (sRet (e2 dIx (eO (oLc (iR1 (aCons (eV 0) aNil)) (gN 2) (bE (e2 dEq (e2 dMod (e1 dInt (e2 dMul (eV 2) (eV 1))) (eV 0)) (eC (.int 1)))) (eV 2) [2])) (eC (.int 0))))
def d__law_back : DF := runF 3 2 u__law_back
def u__law_parted : SF := (sSeq (sPar [3, 4, 5] (mVal (eO (oList (eV 1))) (mVal (eO (oLst aNil)) (mVal (eCall d__law_back (aCons (eV 0) (aCons (e2 dIx (eV 2) (eNeg (eC (.int 1)))) aNil))) mNil)))) (sSeq (sWhile (bE (e2 dGe (e1 dLen (eV 3)) (e1 dLen (eV 2)))) (sSeq (sSet 6 (e2 dAdd (e2 dMul (eO (oLst (aCons (eC (.int 0)) aNil))) (e2 dSub (e1 dLen (eV 3)) (e1 dLen (eV 2)))) (eO (oLst (aCons (e2 dMod (e1 dInt (e2 dMul (e2 dIx (eV 3) (eNeg (eC (.int 1)))) (eV 5))) (eV 0)) aNil))))) (sSeq (sSet 4 (eCall d__law_plus (aCons (eV 0) (aCons (eV 4) (aCons (eV 6) (aCons (eC (.int 1)) aNil)))))) (sSet 3 (eCall d__law_plus (aCons (eV 0) (aCons (eV 3) (aCons (eCall d__law_times (aCons (eV 0) (aCons (eV 6) (aCons (eV 2) aNil)))) (aCons (eNeg (eC (.int 1))) aNil)))))))) 1000000) (sRet (eTup (aCons (eV 4) (aCons (eV 3) aNil))))))
def d__law_parted : DF := runF 7 3 u__law_parted
def u__law_rest : SF := (sRet (e2 dIx (eCall d__law_parted (aCons (eV 0) (aCons (eV 1) (aCons (eV 2) aNil)))) (eC (.int 1))))
def d__law_rest : DF := runF 3 3 u__law_rest
def u__law_monics : SF := (sSeq (sSet 2 (eO (oLst (aCons (eO (oLst aNil)) aNil)))) (sSeq (sFor (iR1 (aCons (eV 1) aNil)) (gN 3) (sSeq (sSet 4 (eO (oLst aNil))) (sSeq (sFor (iL (eV 2)) (gN 5) (sSet 4 (e2 dAdd (eV 4) (eO (oLc (iR1 (aCons (eV 0) aNil)) (gN 6) tTrue (e2 dAdd (eV 5) (eO (oLst (aCons (eV 6) aNil)))) [6]))))) (sSet 2 (eV 4))))) (sRetO (oLc (iL (eV 2)) (gN 5) tTrue (e2 dAdd (eV 5) (eO (oLst (aCons (eC (.int 1)) aNil)))) [5]))))
def d__law_monics : DF := runF 7 2 u__law_monics
def u__law_is_prime : SF := (sSeq (sIf (tOrF (bE (e2 dLt (e1 dLen (eV 1)) (eC (.int 2)))) (bE (e2 dNe (e2 dIx (eV 1) (eNeg (eC (.int 1)))) (eC (.int 1))))) (sRet (eC (.bool false))) sNil) (sSeq (sFor (iR2 (aCons (eC (.int 1)) (aCons (e2 dAdd (e2 dFdiv (e2 dSub (e1 dLen (eV 1)) (eC (.int 1))) (eC (.int 2))) (eC (.int 1))) aNil))) (gN 2) (sFor (iL (eCall d__law_monics (aCons (eV 0) (aCons (eV 2) aNil)))) (gN 3) (sIf (bE (e2 dEq (eCall d__law_rest (aCons (eV 0) (aCons (eV 1) (aCons (eV 3) aNil)))) (eO (oLst aNil)))) (sRet (eC (.bool false))) sNil))) (sRet (eC (.bool true)))))
def d__law_is_prime : DF := runF 4 2 u__law_is_prime
def u__law_prime_number : SF := (sRet (e2 dIx (eO (oLst (aCons (eC (.int 3)) (aCons (eC (.int 5)) (aCons (eC (.int 7)) aNil))))) (eCallG 0 d__law_random (aCons (eC (.int 3)) aNil))))
def d__law_prime_number : GF := runG 1 1 u__law_prime_number
def u__law_monic : SF := (sRet (e2 dAdd (eO (oLc (iR1 (aCons (e2 dAdd (eC (.int 1)) (eCallG 0 d__law_random (aCons (eV 2) aNil))) aNil)) (gN 3) tTrue (eCallG 0 d__law_random (aCons (eV 1) aNil)) [3])) (eO (oLst (aCons (eC (.int 1)) aNil)))))
def d__law_monic : GF := runG 4 3 u__law_monic
def u__law_raised : SF := (sSeq (sPar [4, 5, 6] (mVal (eCall d__law_rest (aCons (eV 0) (aCons (eO (oLst (aCons (eC (.int 1)) aNil))) (aCons (eV 3) aNil)))) (mVal (eCall d__law_rest (aCons (eV 0) (aCons (eV 1) (aCons (eV 3) aNil)))) (mVal (eV 2) mNil)))) (sSeq (sWhile (bE (e2 dGt (eV 6) (eC (.int 0)))) (sSeq (sIf (bE (e2 dEq (e2 dMod (e1 dInt (eV 6)) (eC (.int 2))) (eC (.int 1)))) (sSet 4 (eCall d__law_rest (aCons (eV 0) (aCons (eCall d__law_times (aCons (eV 0) (aCons (eV 4) (aCons (eV 5) aNil)))) (aCons (eV 3) aNil))))) sNil) (sPar [5, 6] (mVal (eCall d__law_rest (aCons (eV 0) (aCons (eCall d__law_times (aCons (eV 0) (aCons (eV 5) (aCons (eV 5) aNil)))) (aCons (eV 3) aNil)))) (mVal (e2 dFdiv (e1 dInt (eV 6)) (eC (.int 2))) mNil)))) 1000000) (sRet (eV 4))))
def d__law_raised : DF := runF 7 4 u__law_raised
def u__law_whole : SF := (sSeq (sSet 2 (eC (.int 1))) (sSeq (sFor (iR1 (aCons (eV 1) aNil)) (gN 3) (sSet 2 (e2 dMul (eV 2) (eV 0)))) (sRet (eV 2))))
def d__law_whole : DF := runF 4 2 u__law_whole
def u__law_a_prime : SF := (sSeq (sSet 3 (e2 dAdd (eC (.int 1)) (eCallG 0 d__law_random (aCons (eV 2) aNil)))) (sSeq (sO 4 (oLc (iL (eCall d__law_monics (aCons (eV 1) (aCons (eV 3) aNil)))) (gN 5) (bE (eCall d__law_is_prime (aCons (eV 1) (aCons (eV 5) aNil)))) (eV 5) [5])) (sRet (e2 dIx (eV 4) (eCallG 0 d__law_random (aCons (e1 dLen (eV 4)) aNil))))))
def d__law_a_prime : GF := runG 6 3 u__law_a_prime
def u__law_residue : SF := (sSeq (sSet 3 (eCall d__law_raised (aCons (eV 0) (aCons (eV 2) (aCons (e2 dFdiv (e2 dSub (eCall d__law_whole (aCons (eV 0) (aCons (e2 dSub (e1 dLen (eV 1)) (eC (.int 1))) aNil))) (eC (.int 1))) (e2 dSub (eV 0) (eC (.int 1)))) (aCons (eV 1) aNil)))))) (sRet (eIf (bE (e2 dNe (eV 3) (eO (oLst aNil)))) (e2 dIx (eV 3) (eC (.int 0))) (eC (.int 0)))))
def d__law_residue : DF := runF 4 3 u__law_residue
def u__law_residue_by : SF := (sSeq (sSet 3 (eC (.int 1))) (sSeq (sFor (iL (eV 1)) (gN 4) (sSet 3 (e2 dMod (e1 dInt (e2 dMul (eV 3) (eCall d__law_residue (aCons (eV 0) (aCons (eV 4) (aCons (eV 2) aNil)))))) (eV 0)))) (sRet (eV 3))))
def d__law_residue_by : DF := runF 5 3 u__law_residue_by
def u__law_walked : SF := (sSeq (sPar [4, 5, 6] (mVal (eV 1) (mVal (eCall d__law_rest (aCons (eV 0) (aCons (eV 2) (aCons (eV 1) aNil)))) (mVal (eC (.int 1)) mNil)))) (sSeq (sFor (iR1 (aCons (e2 dAdd (e1 dLen (eV 1)) (e1 dLen (eV 2))) aNil)) (gN 3) (sSeq (sIf (bE (e2 dNe (eV 5) (eO (oLst aNil)))) (sSeq (sSet 6 (e2 dMod (e1 dInt (e2 dMul (eV 6) (eCall d__law_whole (aCons (e2 dIx (eV 5) (eNeg (eC (.int 1)))) (aCons (e2 dSub (e1 dLen (eV 4)) (eC (.int 1))) aNil))))) (eV 0))) (sSet 5 (eCall d__law_times (aCons (eV 0) (aCons (eV 5) (aCons (eO (oLst (aCons (eCall d__law_back (aCons (eV 0) (aCons (e2 dIx (eV 5) (eNeg (eC (.int 1)))) aNil))) aNil))) aNil)))))) sNil) (sIf (bE (e2 dGt (e1 dLen (eV 5)) (eC (.int 1)))) (sSeq (sSet 7 (e2 dEq (e2 dMod (e1 dInt (e2 dMul (e2 dSub (e1 dLen (eV 4)) (eC (.int 1))) (e2 dSub (e1 dLen (eV 5)) (eC (.int 1))))) (eC (.int 2))) (eC (.int 1)))) (sPar [4, 5, 6] (mVal (eV 5) (mVal (eCall d__law_rest (aCons (eV 0) (aCons (eV 4) (aCons (eV 5) aNil)))) (mVal (e2 dMod (e1 dInt (eIf (bE (eV 7)) (e2 dSub (eC (.int 0)) (eV 6)) (eV 6))) (eV 0)) mNil))))) sNil))) (sRet (eIf (bE (e2 dEq (eV 5) (eO (oLst (aCons (eC (.int 1)) aNil))))) (eV 6) (eC (.int 0))))))
def d__law_walked : DF := runF 8 3 u__law_walked
def u__law_made : SF := (sSeq (sSet 2 (eO (oLst (aCons (eC (.int 1)) aNil)))) (sSeq (sFor (iL (eV 1)) (gN 3) (sSet 2 (eCall d__law_times (aCons (eV 0) (aCons (eV 2) (aCons (eV 3) aNil)))))) (sRet (eV 2))))
def d__law_made : DF := runF 4 2 u__law_made
def u__law_turned : SF := (sSeq (sSet 4 (e2 dEq (e2 dMod (e1 dInt (e2 dMul (e2 dSub (e1 dLen (eV 1)) (eC (.int 1))) (e2 dSub (e1 dLen (eV 2)) (eC (.int 1))))) (eC (.int 2))) (eC (.int 1)))) (sRet (e2 dMod (e1 dInt (eIf (bE (eV 4)) (e2 dSub (eC (.int 0)) (eV 3)) (eV 3))) (eV 0))))
def d__law_turned : DF := runF 5 4 u__law_turned
end DN

/-! MA: series over a ring as functions; polynomials are those that end. Plain Lean. -/
namespace MA
open Lean.Grind
section
variable {F : Type} [CommRing F]
/-- a series -/
def PS (F : Type) : Type := Nat → F
theorem PS.ext {F : Type} {f g : PS F} (h : ∀ k, f k = g k) : f = g := funext h
/-- the series behind the first number -/
def tl (f : PS F) : PS F := fun k => f (k + 1)
def C (c : F) : PS F := fun k => if k = 0 then c else 0
def mulS : PS F → PS F → Nat → F
  | f, g, 0 => f 0 * g 0
  | f, g, k + 1 => f 0 * g (k + 1) + mulS (tl f) g k
instance : Add (PS F) := ⟨fun f g k => f k + g k⟩
instance : Neg (PS F) := ⟨fun f k => - f k⟩
instance : Sub (PS F) := ⟨fun f g k => f k - g k⟩
instance : Mul (PS F) := ⟨fun f g => mulS f g⟩
theorem add_at (f g : PS F) (k : Nat) : (f + g) k = f k + g k := rfl
theorem neg_at (f : PS F) (k : Nat) : (-f) k = - f k := rfl
theorem sub_at (f g : PS F) (k : Nat) : (f - g) k = f k - g k := rfl
theorem mul_0 (f g : PS F) : (f * g) 0 = f 0 * g 0 := rfl
theorem mul_s (f g : PS F) (k : Nat) : (f * g) (k + 1) = f 0 * g (k + 1) + (tl f * g) k := rfl
theorem mul_s' : ∀ (k : Nat) (f g : PS F), (f * g) (k + 1) = f (k + 1) * g 0 + (f * tl g) k
  | 0, f, g => by
    rw [mul_s, mul_0, mul_0]
    show f 0 * g 1 + f 1 * g 0 = f 1 * g 0 + f 0 * g 1
    grind
  | k + 1, f, g => by
    rw [mul_s, mul_s' k (tl f) g, mul_s f (tl g) k]
    show f 0 * g (k + 2) + (f (k + 2) * g 0 + (tl f * tl g) k) = f (k + 2) * g 0 + (f 0 * g (k + 2) + (tl f * tl g) k)
    grind
theorem mul_comm_at : ∀ (k : Nat) (f g : PS F), (f * g) k = (g * f) k
  | 0, f, g => CommSemiring.mul_comm _ _
  | k + 1, f, g => by
    rw [mul_s, mul_s', mul_comm_at k (tl f) g]
    have := CommSemiring.mul_comm (f 0) (g (k + 1))
    grind
theorem tl_add (f g : PS F) : tl (f + g) = tl f + tl g := rfl
theorem add_mul_at : ∀ (k : Nat) (f g h : PS F), ((f + g) * h) k = (f * h) k + (g * h) k
  | 0, f, g, h => by
    show (f 0 + g 0) * h 0 = f 0 * h 0 + g 0 * h 0
    grind
  | k + 1, f, g, h => by
    rw [mul_s, mul_s, mul_s, tl_add, add_mul_at k]
    show (f 0 + g 0) * h (k + 1) + _ = _
    grind
theorem C_mul_at : ∀ (k : Nat) (c : F) (g : PS F), (C c * g) k = c * g k
  | 0, c, g => by show (if 0 = 0 then c else 0) * g 0 = c * g 0; simp
  | k + 1, c, g => by
    rw [mul_s]
    have e : tl (C c) = C (0 : F) := by
      apply PS.ext; intro j
      show (if j + 1 = 0 then c else 0) = (if j = 0 then (0 : F) else 0)
      simp
    rw [e, C_mul_at k 0 g]
    show (if 0 = 0 then c else 0) * g (k + 1) + 0 * g k = c * g (k + 1)
    simp only [if_true]
    grind
theorem tl_mul (f g : PS F) : tl (f * g) = C (f 0) * tl g + tl f * g := by
  apply PS.ext; intro k
  rw [add_at, C_mul_at]
  rfl
theorem mul_assoc_at : ∀ (k : Nat) (f g h : PS F), ((f * g) * h) k = (f * (g * h)) k
  | 0, f, g, h => by
    show (f 0 * g 0) * h 0 = f 0 * (g 0 * h 0)
    grind
  | k + 1, f, g, h => by
    have l : ((C (f 0) * tl g) * h) k = f 0 * (tl g * h) k := by
      have : ∀ (j : Nat) (u v : PS F) (c : F), ((C c * u) * v) j = c * (u * v) j := by
        intro j
        induction j with
        | zero => intro u v c; rw [mul_0, C_mul_at, mul_0]; grind
        | succ j ih =>
          intro u v c
          have t : tl (C c * u) = C c * tl u := by
            apply PS.ext; intro i
            show (C c * u) (i + 1) = _
            rw [C_mul_at, C_mul_at]; rfl
          rw [mul_s, t, ih, C_mul_at, mul_s]
          grind
      exact this k (tl g) h (f 0)
    rw [mul_s, tl_mul, add_mul_at, l, mul_assoc_at k (tl f) g h, mul_s f (g * h), mul_s g h, mul_0]
    grind
abbrev nc (n : Nat) : F := @NatCast.natCast F Semiring.natCast n
abbrev ic (i : Int) : F := @IntCast.intCast F Ring.intCast i
def powS (f : PS F) : Nat → PS F
  | 0 => C 1
  | n + 1 => powS f n * f
theorem C_at (c : F) (k : Nat) : C c k = if k = 0 then c else 0 := rfl
theorem C_add (a b : F) : C (a + b) = C a + C b := by
  apply PS.ext; intro k
  rw [add_at, C_at, C_at, C_at]
  split <;> grind
theorem C_mul (a b : F) : C (a * b) = C a * C b := by
  apply PS.ext; intro k
  rw [C_mul_at, C_at, C_at]
  split <;> grind
theorem C_neg (a : F) : C (-a) = - C a := by
  apply PS.ext; intro k
  rw [neg_at, C_at, C_at]
  split <;> grind
instance : NatCast (PS F) := ⟨fun n => C (nc n)⟩
instance (n : Nat) : OfNat (PS F) n := ⟨C (OfNat.ofNat n)⟩
instance : SMul Nat (PS F) := ⟨fun n f => C (nc n) * f⟩
instance : HPow (PS F) Nat (PS F) := ⟨powS⟩
instance : IntCast (PS F) := ⟨fun i => C (ic i)⟩
instance : SMul Int (PS F) := ⟨fun i f => C (ic i) * f⟩
theorem zero_eq : (0 : PS F) = C 0 := rfl
theorem one_eq : (1 : PS F) = C 1 := rfl
theorem zero_at (k : Nat) : (0 : PS F) k = 0 := by rw [zero_eq, C_at]; split <;> rfl
theorem one_mul' (f : PS F) : 1 * f = f := by
  apply PS.ext; intro k
  rw [one_eq, C_mul_at]; grind
theorem mul_comm' (f g : PS F) : f * g = g * f := PS.ext fun k => mul_comm_at k f g
instance : CommRing (PS F) where
  add_zero f := by apply PS.ext; intro k; rw [add_at, zero_at]; grind
  add_comm f g := by apply PS.ext; intro k; rw [add_at, add_at]; grind
  add_assoc f g h := by apply PS.ext; intro k; rw [add_at, add_at, add_at, add_at]; grind
  mul_assoc f g h := PS.ext fun k => mul_assoc_at k f g h
  mul_one f := by rw [mul_comm']; exact one_mul' f
  one_mul := one_mul'
  left_distrib f g h := by
    rw [mul_comm' f, mul_comm' f, mul_comm' f]
    exact PS.ext fun k => add_mul_at k g h f
  right_distrib f g h := PS.ext fun k => add_mul_at k f g h
  zero_mul f := by apply PS.ext; intro k; rw [zero_eq, C_mul_at, ← zero_eq, zero_at]; grind
  mul_zero f := by rw [mul_comm']; apply PS.ext; intro k; rw [zero_eq, C_mul_at, ← zero_eq, zero_at]; grind
  pow_zero f := rfl
  pow_succ f n := rfl
  ofNat_succ n := by
    show C (OfNat.ofNat (n + 1)) = C (OfNat.ofNat n) + C 1
    rw [← C_add]
    congr 1
    exact Semiring.ofNat_succ n
  ofNat_eq_natCast n := by
    show C (OfNat.ofNat n) = C (nc n)
    rw [Semiring.ofNat_eq_natCast]
  nsmul_eq_natCast_mul n f := rfl
  neg_add_cancel f := by apply PS.ext; intro k; rw [add_at, neg_at, zero_at]; grind
  sub_eq_add_neg f g := by apply PS.ext; intro k; rw [sub_at, add_at, neg_at]; grind
  neg_zsmul i f := by
    show C (ic (-i)) * f = - (C (ic i) * f)
    apply PS.ext; intro k
    rw [neg_at, C_mul_at, C_mul_at, show (ic (-i) : F) = - ic i from Ring.intCast_neg i]
    grind
  zsmul_natCast_eq_nsmul n f := by
    show C (ic (n : Int)) * f = C (nc n) * f
    congr 2
    exact Ring.intCast_natCast n
  intCast_ofNat n := by
    show C (ic ((OfNat.ofNat n : Nat) : Int)) = C (OfNat.ofNat n)
    congr 1
    exact Ring.intCast_ofNat n
  intCast_neg i := by
    show C (ic (-i)) = - C (ic i)
    rw [show (ic (-i) : F) = - ic i from Ring.intCast_neg i, C_neg]
  mul_comm := mul_comm'
example (f g h : PS F) : (f + g) * h = h * g + f * h := by grind
/-- T -/
def X : PS F := fun k => if k = 1 then 1 else 0
theorem X_mul_0 (f : PS F) : ((X : PS F) * f : PS F) 0 = 0 := by rw [mul_0]; show (if 0 = 1 then (1 : F) else 0) * f 0 = 0; simp; grind
theorem X_mul_s (f : PS F) (k : Nat) : ((X : PS F) * f : PS F) (k + 1) = f k := by
  rw [mul_s]
  have e : tl (X : PS F) = 1 := by
    apply PS.ext; intro j
    show (if j + 1 = 1 then (1 : F) else 0) = (1 : PS F) j
    rw [one_eq, C_at]; simp
  rw [e, one_mul']
  show (if 0 = 1 then (1 : F) else 0) * f (k + 1) + f k = f k
  simp; grind
end
end MA

namespace MA
open Lean.Grind
open Classical
/-- a small field: inverses, its numbers listed, Fermat and Wilson -/
class Fd (F : Type) extends CommRing F where
  inv : F → F
  mul_inv : ∀ a : F, a ≠ 0 → a * inv a = 1
  one_ne : (1 : F) ≠ 0
  els : List F
  mem_els : ∀ a, a ∈ els
  nd_els : els.Nodup
  fermat : ∀ a : F, a ^ els.length = a
  odd : els.length % 2 = 1
  wilson : (els.filter fun a => decide (a ≠ 0)).foldr (· * ·) 1 = -1
section
variable {F : Type} [Fd F]
theorem mul_ne {a b : F} (ha : a ≠ 0) (hb : b ≠ 0) : a * b ≠ 0 := fun h => by
  apply hb
  have h1 := Fd.mul_inv a ha
  have : b = (a * b) * Fd.inv a := by grind
  rw [this, h]; grind
theorem inv_ne {a : F} (ha : a ≠ 0) : Fd.inv a ≠ 0 := fun h => by
  have h1 := Fd.mul_inv a ha
  rw [h] at h1
  apply Fd.one_ne (F := F)
  rw [← h1]; grind
/-! ### products over lists -/
def pr {α : Type} (l : List α) (h : α → F) : F := l.foldr (fun a x => h a * x) 1
section
variable {α β : Type} {l l' : List α} {h h' : α → F}
theorem pr_nil : pr ([] : List α) h = 1 := rfl
theorem pr_cons (a : α) : pr (a :: l) h = h a * pr l h := rfl
theorem pr_perm (p : l.Perm l') : pr l h = pr l' h := by
  induction p with
  | nil => rfl
  | cons a _ ih => rw [pr_cons, pr_cons, ih]
  | swap a b l => rw [pr_cons, pr_cons, pr_cons, pr_cons]; grind
  | trans _ _ h1 h2 => rw [h1, h2]
theorem pr_congr (e : ∀ a ∈ l, h a = h' a) : pr l h = pr l h' := by
  induction l with
  | nil => rfl
  | cons a l ih =>
    rw [pr_cons, pr_cons, e a List.mem_cons_self, ih fun b hb => e b (List.mem_cons_of_mem _ hb)]
theorem pr_mul : pr l (fun a => h a * h' a) = pr l h * pr l h' := by
  induction l with
  | nil => rw [pr_nil, pr_nil, pr_nil]; grind
  | cons a l ih => rw [pr_cons, pr_cons, pr_cons, ih]; grind
theorem pr_one : pr l (fun _ => (1 : F)) = 1 := by
  induction l with
  | nil => rfl
  | cons a l ih => rw [pr_cons, ih]; grind
theorem pr_const (c : F) : pr l (fun _ => c) = c ^ l.length := by
  induction l with
  | nil => rw [pr_nil]; exact (Semiring.pow_zero c).symm
  | cons a l ih => rw [pr_cons, ih, List.length_cons, Semiring.pow_succ]; grind
theorem pr_map (f : β → α) (m : List β) : pr (m.map f) h = pr m (fun b => h (f b)) := by
  induction m with
  | nil => rfl
  | cons a l ih => rw [List.map_cons, pr_cons, pr_cons, ih]
theorem pr_append : pr (l ++ l') h = pr l h * pr l' h := by
  induction l with
  | nil => rw [List.nil_append, pr_nil]; grind
  | cons a l ih => rw [List.cons_append, pr_cons, pr_cons, ih]; grind
theorem pr_flatMap (f : β → List α) (m : List β) : pr (m.flatMap f) h = pr m (fun b => pr (f b) h) := by
  induction m with
  | nil => rfl
  | cons a l ih => rw [List.flatMap_cons, pr_append, pr_cons, ih]
theorem pr_swap (m : List β) (g : α → β → F) : pr l (fun a => pr m (g a)) = pr m (fun b => pr l (fun a => g a b)) := by
  induction l with
  | nil => simp only [pr_nil]; exact pr_one.symm
  | cons a l ih => simp only [pr_cons]; rw [ih, pr_mul]
theorem pr_ne (hn : ∀ a ∈ l, h a ≠ 0) : pr l h ≠ 0 := by
  induction l with
  | nil => exact Fd.one_ne
  | cons a l ih => rw [pr_cons]; exact mul_ne (hn a List.mem_cons_self) (ih fun b hb => hn b (List.mem_cons_of_mem _ hb))
theorem pr_zero {a : α} (ha : a ∈ l) (hz : h a = 0) : pr l h = 0 := by
  induction l with
  | nil => cases ha
  | cons b l ih =>
    rw [pr_cons]
    rcases List.mem_cons.mp ha with e | e
    · rw [← e, hz]; grind
    · rw [ih e]; grind
theorem pr_filter (p : α → Prop) : pr l (fun a => if p a then h a else 1) = pr (l.filter fun a => decide (p a)) h := by
  induction l with
  | nil => rfl
  | cons a l ih =>
    rw [pr_cons, ih, List.filter_cons]
    by_cases e : p a
    · rw [if_pos e, decide_eq_true e, if_pos rfl, pr_cons]
    · rw [if_neg e, decide_eq_false e, if_neg Bool.false_ne_true]; grind
end
theorem wilson' : pr (Fd.els.filter fun a : F => decide (a ≠ 0)) (fun a => a) = -1 := Fd.wilson
/-! ### series that end -/
def Lt (n : Nat) (f : PS F) : Prop := ∀ k, n ≤ k → f k = 0
variable {f g h : PS F} {n m k : Nat}
theorem Lt.mono (a : Lt n f) (h : n ≤ m) : Lt m f := fun k hk => a k (Nat.le_trans h hk)
theorem Lt.add (a : Lt n f) (b : Lt n g) : Lt n (f + g) := fun k hk => by rw [add_at, a k hk, b k hk]; grind
theorem Lt.sub (a : Lt n f) (b : Lt n g) : Lt n (f - g) := fun k hk => by rw [sub_at, a k hk, b k hk]; grind
theorem Lt.neg (a : Lt n f) : Lt n (-f) := fun k hk => by rw [neg_at, a k hk]; grind
theorem Lt.C (a : Lt n f) (c : F) : Lt n (C c * f) := fun k hk => by rw [C_mul_at, a k hk]; grind
theorem lt_zero (n : Nat) : Lt n (0 : PS F) := fun k _ => zero_at k
theorem lt_C (c : F) : Lt 1 (MA.C c) := fun k hk => by rw [C_at, if_neg (by omega)]
theorem lt_0 (a : Lt 0 f) : f = 0 := PS.ext fun k => by rw [a k (Nat.zero_le _), zero_at]
theorem tl_lt (a : Lt (n + 1) f) : Lt n (tl f) := fun k hk => a (k + 1) (by omega)
theorem mul_top : ∀ (m : Nat) (f g : PS F) (n : Nat), Lt (m + 1) f → Lt (n + 1) g → Lt (m + n + 1) (f * g) ∧ (f * g) (m + n) = f m * g n
  | 0, f, g, n, hf, hg => by
    have e : f = C (f 0) := PS.ext fun k => by
      rw [C_at]; split
      · rename_i q; rw [q]
      · exact hf k (by omega)
    refine ⟨fun k hk => ?_, ?_⟩
    · rw [e, C_mul_at, hg k (by omega)]; grind
    · rw [Nat.zero_add]
      have : (f * g) n = f 0 * g n := by rw [e, C_mul_at, C_at, if_pos rfl]
      exact this
  | m + 1, f, g, n, hf, hg => by
    obtain ⟨h1, h2⟩ := mul_top m (tl f) g n (tl_lt hf) hg
    refine ⟨fun k hk => ?_, ?_⟩
    · cases k with
      | zero => omega
      | succ k => rw [mul_s, h1 k (by omega), hg (k + 1) (by omega)]; grind
    · have e : m + 1 + n = (m + n) + 1 := by omega
      rw [e, mul_s, h2, hg (m + n + 1) (by omega)]
      show f 0 * 0 + f (m + 1) * g n = _
      grind
theorem Lt.mul (a : Lt m f) (b : Lt n g) : Lt (m + n) (f * g) := by
  cases m with
  | zero => rw [lt_0 a, Semiring.zero_mul]; exact lt_zero _
  | succ m =>
    cases n with
    | zero => rw [lt_0 b, Semiring.mul_zero]; exact lt_zero _
    | succ n => exact (mul_top m f g n a b).1.mono (by omega)
def Mon (m : Nat) (M : PS F) : Prop := Lt (m + 1) M ∧ M m = 1
theorem Mon.mul {M N : PS F} (a : Mon m M) (b : Mon n N) : Mon (m + n) (M * N) := by
  obtain ⟨h1, h2⟩ := mul_top m M N n a.1 b.1
  exact ⟨h1, by rw [h2, a.2, b.2]; grind⟩
theorem mon_one : Mon 0 (1 : PS F) := ⟨lt_C 1, rfl⟩
/-- X ^ j * f -/
def sh (j : Nat) (f : PS F) : PS F := fun k => if k < j then 0 else f (k - j)
theorem sh_eq : ∀ (j : Nat) (f : PS F), sh j f = sh j 1 * f
  | 0, f => by
    have e : sh 0 (1 : PS F) = 1 := PS.ext fun k => by
      show (if k < 0 then 0 else (1 : PS F) (k - 0)) = (1 : PS F) k
      rw [Nat.sub_zero, if_neg (Nat.not_lt_zero _)]
    rw [e, one_mul']
    apply PS.ext; intro k
    show (if k < 0 then 0 else f (k - 0)) = f k
    simp
  | j + 1, f => by
    have e : ∀ f : PS F, sh (j + 1) f = X * sh j f := fun f => PS.ext fun k => by
      cases k with
      | zero => rw [X_mul_0]; show (if 0 < j + 1 then (0 : F) else _) = 0; simp
      | succ k =>
        rw [X_mul_s]
        show (if k + 1 < j + 1 then (0 : F) else f (k + 1 - (j + 1))) = if k < j then 0 else f (k - j)
        by_cases q : k < j
        · rw [if_pos q, if_pos (by omega)]
        · rw [if_neg q, if_neg (by omega)]
          have : k + 1 - (j + 1) = k - j := by omega
          rw [this]
    rw [e, e, sh_eq j f]
    grind
theorem sh_at (j k : Nat) (f : PS F) : sh j f k = if k < j then 0 else f (k - j) := rfl
/-! ### division -/
theorem divides {M : PS F} (hM : Mon m M) : ∀ (n : Nat) (f : PS F), Lt n f → ∃ q r, f = q * M + r ∧ Lt (n - m) q ∧ Lt m r
  | 0, f, hf => ⟨0, f, by grind, lt_zero _, hf.mono (Nat.zero_le _)⟩
  | n + 1, f, hf => by
    by_cases hm : n + 1 ≤ m
    · exact ⟨0, f, by grind, lt_zero _, hf.mono hm⟩
    · have key : Lt n (f - C (f n) * sh (n - m) M) := fun k hk => by
        rw [sub_at, C_mul_at, sh_at]
        by_cases e : k = n
        · subst e
          rw [if_neg (by omega)]
          have : k - (k - m) = m := by omega
          rw [this, hM.2]; grind
        · rw [hf k (by omega), if_neg (by omega), hM.1 (k - (n - m)) (by omega)]; grind
      obtain ⟨q, r, e, hq, hr⟩ := divides hM n _ key
      refine ⟨q + C (f n) * sh (n - m) 1, r, ?_, ?_, hr⟩
      · have e2 : f = C (f n) * sh (n - m) M + (q * M + r) := by rw [← e]; grind
        rw [sh_eq] at e2
        grind
      · refine (hq.mono (by omega)).add (Lt.C (fun k hk => ?_) _)
        rw [sh_at]
        split
        · rfl
        · rw [one_eq, C_at, if_neg (by omega)]
theorem top_of (hf : Lt n f) (hz : f ≠ 0) : ∃ j, j < n ∧ f j ≠ 0 ∧ Lt (j + 1) f := by
  induction n with
  | zero => exact (hz (lt_0 hf)).elim
  | succ n ih =>
    by_cases e : f n = 0
    · have : Lt n f := fun k hk => by
        by_cases q : k = n
        · rw [q]; exact e
        · exact hf k (by omega)
      obtain ⟨j, h1, h2, h3⟩ := ih this
      exact ⟨j, by omega, h2, h3⟩
    · exact ⟨n, by omega, e, hf⟩
def Pl (f : PS F) : Prop := ∃ n, Lt n f
theorem Pl.add (a : Pl f) (b : Pl g) : Pl (f + g) := by
  obtain ⟨n, a⟩ := a; obtain ⟨m, b⟩ := b
  exact ⟨max n m, (a.mono (Nat.le_max_left _ _)).add (b.mono (Nat.le_max_right _ _))⟩
theorem Pl.sub (a : Pl f) (b : Pl g) : Pl (f - g) := by
  obtain ⟨n, a⟩ := a; obtain ⟨m, b⟩ := b
  exact ⟨max n m, (a.mono (Nat.le_max_left _ _)).sub (b.mono (Nat.le_max_right _ _))⟩
theorem Pl.mul (a : Pl f) (b : Pl g) : Pl (f * g) := by
  obtain ⟨n, a⟩ := a; obtain ⟨m, b⟩ := b
  exact ⟨_, a.mul b⟩
theorem Pl.neg (a : Pl f) : Pl (-f) := by obtain ⟨n, a⟩ := a; exact ⟨n, a.neg⟩
theorem pl_C (c : F) : Pl (C c) := ⟨1, lt_C c⟩
theorem pl_0 : Pl (0 : PS F) := ⟨0, lt_zero 0⟩
theorem pl_1 : Pl (1 : PS F) := pl_C 1
theorem Mon.pl {M : PS F} (h : Mon m M) : Pl M := ⟨_, h.1⟩
theorem mul_zero_of {M : PS F} (hM : Mon m M) (hq : Pl g) (hr : Lt m (g * M)) : g = 0 := Classical.byContradiction fun hz => by
  obtain ⟨n, hn⟩ := hq
  obtain ⟨j, _, h2, h3⟩ := top_of hn hz
  have h4 := (mul_top j g M m h3 hM.1).2
  rw [hr (j + m) (by omega), hM.2] at h4
  apply h2
  grind
theorem div_unique {M q q' r r' : PS F} (hM : Mon m M) (hq : Pl q) (hq' : Pl q') (hr : Lt m r) (hr' : Lt m r') (e : q * M + r = q' * M + r') : q = q' ∧ r = r' := by
  have h1 : (q - q') * M = r' - r := by grind
  have h2 := mul_zero_of hM (hq.sub hq') (by rw [h1]; exact hr'.sub hr)
  have h3 : q = q' := by grind
  refine ⟨h3, ?_⟩
  rw [h3] at e
  grind
noncomputable def rem (m : Nat) (M f : PS F) : PS F := if h : ∃ r, Lt m r ∧ ∃ q, Pl q ∧ f = q * M + r then Classical.choose h else 0
theorem rem_ok {M : PS F} (hM : Mon m M) (hf : Pl f) : Lt m (rem m M f) ∧ ∃ q, Pl q ∧ f = q * M + rem m M f := by
  obtain ⟨n, hn⟩ := hf
  obtain ⟨q, r, e, hq, hr⟩ := divides hM n f hn
  have h : ∃ r, Lt m r ∧ ∃ q, Pl q ∧ f = q * M + r := ⟨r, hr, q, ⟨_, hq⟩, e⟩
  unfold rem
  rw [dif_pos h]
  exact Classical.choose_spec h
theorem rem_is {M q r : PS F} (hM : Mon m M) (hq : Pl q) (hr : Lt m r) (e : f = q * M + r) : rem m M f = r := by
  have hf : Pl f := by rw [e]; exact (hq.mul hM.pl).add ⟨m, hr⟩
  obtain ⟨h1, q', hq', e'⟩ := rem_ok hM hf
  exact (div_unique hM hq' hq h1 hr (by rw [← e', ← e])).2
theorem rem_lt {M : PS F} (hM : Mon m M) (hf : Lt m f) : rem m M f = f := rem_is hM pl_0 hf (by grind)
theorem rem_add {M : PS F} (hM : Mon m M) (hf : Pl f) (hg : Pl g) : rem m M (f + g) = rem m M f + rem m M g := by
  obtain ⟨a1, q1, p1, e1⟩ := rem_ok hM hf
  obtain ⟨a2, q2, p2, e2⟩ := rem_ok hM hg
  exact rem_is hM (p1.add p2) (a1.add a2) (by grind)
theorem rem_C {M : PS F} (hM : Mon m M) (hf : Pl f) (c : F) : rem m M (C c * f) = C c * rem m M f := by
  obtain ⟨a1, q1, p1, e1⟩ := rem_ok hM hf
  exact rem_is hM ((pl_C c).mul p1) (a1.C c) (by grind)
theorem rem_mul {M : PS F} (hM : Mon m M) (hf : Pl f) (hg : Pl g) : rem m M (f * g) = rem m M (rem m M f * g) := by
  obtain ⟨a1, q1, p1, e1⟩ := rem_ok hM hf
  obtain ⟨a2, q2, p2, e2⟩ := rem_ok hM (Pl.mul ⟨m, a1⟩ hg)
  exact rem_is hM ((p1.mul hg).add p2) a2 (by grind)
theorem rem_mulM {M : PS F} (hM : Mon m M) (hf : Pl f) : rem m M (f * M) = 0 := rem_is hM hf (lt_zero _) (by grind)
theorem rem_pl {M : PS F} (hM : Mon m M) (hf : Pl f) : Pl (rem m M f) := ⟨m, (rem_ok hM hf).1⟩
theorem rem_zero {M : PS F} (hM : Mon m M) : rem m M (0 : PS F) = 0 := rem_lt hM (lt_zero _)
theorem rem_eq {M : PS F} (hM : Mon m M) (hf : Pl f) (hg : Pl g) (q : PS F) (hq : Pl q) (e : f = g + q * M) : rem m M f = rem m M g := by
  rw [e, rem_add hM hg (hq.mul hM.pl), rem_mulM hM hq]; grind
/-! ### the last number -/
noncomputable def lc : Nat → PS F → F
  | 0, _ => 0
  | n + 1, f => if f n ≠ 0 then f n else lc n f
theorem lc_top {j : Nat} (hj : j < n) (hz : f j ≠ 0) (hl : Lt (j + 1) f) : lc n f = f j := by
  induction n with
  | zero => omega
  | succ n ih =>
    unfold lc
    by_cases e : j = n
    · subst e; rw [if_pos hz]
    · rw [if_neg (by rw [hl n (by omega)]; simp)]
      exact ih (by omega)
theorem lc_zero : lc n (0 : PS F) = 0 := by
  induction n with
  | zero => rfl
  | succ n ih => unfold lc; rw [if_neg (by rw [zero_at]; simp)]; exact ih
theorem lc_mono (hf : Lt n f) (h : n ≤ m) : lc m f = lc n f := by
  by_cases e : f = 0
  · rw [e, lc_zero, lc_zero]
  · obtain ⟨j, h1, h2, h3⟩ := top_of hf e
    rw [lc_top h1 h2 h3, lc_top (by omega) h2 h3]
theorem lc_ne (hf : Lt n f) (h : f ≠ 0) : lc n f ≠ 0 := by
  obtain ⟨j, h1, h2, h3⟩ := top_of hf h
  rw [lc_top h1 h2 h3]; exact h2
theorem lc_C (hf : Lt n f) (c : F) : lc n (C c * f) = c * lc n f := by
  by_cases hc : c = 0
  · have : C c * f = 0 := by rw [hc]; exact Semiring.zero_mul f
    rw [this, lc_zero, hc]; grind
  · by_cases e : f = 0
    · have : C c * f = 0 := by rw [e]; exact Semiring.mul_zero _
      rw [this, e, lc_zero]; grind
    · obtain ⟨j, h1, h2, h3⟩ := top_of hf e
      have : (C c * f) j ≠ 0 := by rw [C_mul_at]; exact mul_ne hc h2
      rw [lc_top h1 this (h3.C c), lc_top h1 h2 h3, C_mul_at]
theorem lc_mon {M : PS F} (h : Mon m M) (hn : m < n) : lc n M = 1 := by
  rw [lc_top hn (by rw [h.2]; exact Fd.one_ne) h.1, h.2]
/-- a M + r: the last number is a's -/
theorem lc_mulM {M a r : PS F} (hM : Mon m M) (ha : Lt n a) (hz : a ≠ 0) (hr : Lt m r) : lc (m + n) (a * M + r) = lc n a := by
  obtain ⟨j, h1, h2, h3⟩ := top_of ha hz
  obtain ⟨h4, h5⟩ := mul_top j a M m h3 hM.1
  have e : (a * M + r) (j + m) = a j := by rw [add_at, h5, hM.2, hr (j + m) (by omega)]; grind
  rw [lc_top (j := j + m) (by omega) (by rw [e]; exact h2) (h4.add (hr.mono (by omega))), e, lc_top h1 h2 h3]
theorem mon_of_lc (hf : Lt n f) (h : lc n f = 1) : ∃ j, j < n ∧ Mon j f := by
  by_cases e : f = 0
  · rw [e, lc_zero] at h; exact (Fd.one_ne h.symm).elim
  · obtain ⟨j, h1, h2, h3⟩ := top_of hf e
    exact ⟨j, h1, h3, by rw [← lc_top h1 h2 h3]; exact h⟩
end
end MA

namespace MA
open Lean.Grind
open Classical
section
variable {F : Type} [Fd F] {f g h : PS F} {n m k : Nat}
/-! ### all that end by n -/
def cons (c : F) (g : PS F) : PS F := fun k => match k with
  | 0 => c
  | k + 1 => g k
theorem tl_cons (c : F) (g : PS F) : tl (cons c g) = g := rfl
theorem cons_tl (f : PS F) : cons (f 0) (tl f) = f := PS.ext fun k => by cases k <;> rfl
theorem cons_inj {c d : F} {f g : PS F} (e : cons c f = cons d g) : c = d ∧ f = g := ⟨congrFun e 0, by rw [← tl_cons c f, e]; rfl⟩
theorem lt_cons {c : F} : Lt (n + 1) (cons c g) ↔ Lt n g :=
  ⟨fun h => tl_lt h, fun h k hk => by
    cases k with
    | zero => omega
    | succ k => exact h k (by omega)⟩
def all : Nat → List (PS F)
  | 0 => [0]
  | n + 1 => Fd.els.flatMap fun c => (all n).map (cons c)
theorem mem_all : ∀ {n : Nat} {f : PS F}, f ∈ all n ↔ Lt n f
  | 0, f => by
    show f ∈ [0] ↔ _
    rw [List.mem_singleton]
    exact ⟨fun e => by rw [e]; exact lt_zero 0, lt_0⟩
  | n + 1, f => by
    show f ∈ Fd.els.flatMap _ ↔ _
    rw [List.mem_flatMap]
    constructor
    · rintro ⟨c, _, h⟩
      obtain ⟨g, hg, e⟩ := List.mem_map.mp h
      rw [← e]
      exact lt_cons.mpr (mem_all.mp hg)
    · intro h
      refine ⟨f 0, Fd.mem_els _, List.mem_map.mpr ⟨tl f, mem_all.mpr (tl_lt h), cons_tl f⟩⟩
theorem nodup_map {α β : Type} {l : List α} {f : α → β} (hl : l.Nodup) (hf : ∀ a ∈ l, ∀ b ∈ l, f a = f b → a = b) : (l.map f).Nodup := by
  induction l with
  | nil => exact List.Pairwise.nil
  | cons a l ih =>
    rw [List.map_cons, List.nodup_cons]
    obtain ⟨h1, h2⟩ := List.nodup_cons.mp hl
    refine ⟨fun hm => ?_, ih h2 fun b hb c hc => hf b (List.mem_cons_of_mem _ hb) c (List.mem_cons_of_mem _ hc)⟩
    obtain ⟨b, hb, e⟩ := List.mem_map.mp hm
    have := hf b (List.mem_cons_of_mem _ hb) a List.mem_cons_self e
    exact h1 (this ▸ hb)
theorem nodup_flatMap {α β : Type} {l : List α} {f : α → List β} (hl : l.Nodup) (h1 : ∀ a ∈ l, (f a).Nodup) (h2 : ∀ a ∈ l, ∀ b ∈ l, ∀ x, x ∈ f a → x ∈ f b → a = b) : (l.flatMap f).Nodup := by
  refine List.pairwise_flatMap.mpr ⟨h1, ?_⟩
  induction l with
  | nil => exact List.Pairwise.nil
  | cons a l ih =>
    obtain ⟨k1, k2⟩ := List.nodup_cons.mp hl
    refine List.pairwise_cons.mpr ⟨fun b hb x hx y hy e => ?_, ih k2 (fun b hb => h1 b (List.mem_cons_of_mem _ hb)) fun b hb c hc => h2 b (List.mem_cons_of_mem _ hb) c (List.mem_cons_of_mem _ hc)⟩
    subst e
    have := h2 a List.mem_cons_self b (List.mem_cons_of_mem _ hb) x hx hy
    exact k1 (this ▸ hb)
theorem nd_all : ∀ n : Nat, (all n : List (PS F)).Nodup
  | 0 => List.pairwise_singleton _ _
  | n + 1 => nodup_flatMap Fd.nd_els (fun c _ => nodup_map (nd_all n) fun a _ b _ e => (cons_inj e).2) fun c _ d _ x hx hy => by
    obtain ⟨u, _, e1⟩ := List.mem_map.mp hx
    obtain ⟨v, _, e2⟩ := List.mem_map.mp hy
    exact (cons_inj (e1.trans e2.symm)).1
noncomputable def nz (n : Nat) : List (PS F) := (all n).filter fun f => decide (f ≠ 0)
noncomputable def mon (n : Nat) : List (PS F) := (all n).filter fun f => decide (lc n f = 1)
theorem mem_nz : f ∈ nz n ↔ Lt n f ∧ f ≠ 0 := by unfold nz; rw [List.mem_filter, mem_all, decide_eq_true_iff]
theorem mem_mon : f ∈ mon n ↔ Lt n f ∧ lc n f = 1 := by unfold mon; rw [List.mem_filter, mem_all, decide_eq_true_iff]
theorem nd_nz : (nz n : List (PS F)).Nodup := (nd_all n).filter _
theorem nd_mon : (mon n : List (PS F)).Nodup := (nd_all n).filter _
theorem perm_of {α : Type} {l l' : List α} (h1 : l.Nodup) (h2 : l'.Nodup) (h : ∀ a, a ∈ l ↔ a ∈ l') : l.Perm l' := (List.perm_ext_iff_of_nodup h1 h2).mpr h
/-- the numbers but 0 -/
noncomputable def un : List F := Fd.els.filter fun a => decide (a ≠ 0)
theorem mem_un {c : F} : c ∈ un ↔ c ≠ 0 := by unfold un; rw [List.mem_filter, decide_eq_true_iff]; exact ⟨fun h => h.2, fun h => ⟨Fd.mem_els c, h⟩⟩
theorem nd_un : (un : List F).Nodup := Fd.nd_els.filter _
/-- adding is a rearrangement of all -/
theorem all_add {c : PS F} (hc : Lt n c) : ((all n).map fun a => a + c).Perm (all n) :=
  perm_of (nodup_map (nd_all n) fun a _ b _ e => by grind) (nd_all n) fun a => by
    rw [List.mem_map, mem_all]
    constructor
    · rintro ⟨b, hb, e⟩; rw [← e]; exact (mem_all.mp hb).add hc
    · intro h; exact ⟨a - c, mem_all.mpr (h.sub hc), by grind⟩
/-- each but nought is a number times a monic one, in one way -/
theorem nz_perm : ((un : List F).flatMap fun c => (mon n).map fun a => C c * a).Perm (nz n) := by
  have key : ∀ (c d : F) (a b : PS F), a ∈ mon n → b ∈ mon n → C c * a = C d * b → c = d := fun c d a b ha hb e => by
    have h1 := lc_C (mem_mon.mp ha).1 c
    have h2 := lc_C (mem_mon.mp hb).1 d
    rw [(mem_mon.mp ha).2] at h1
    rw [(mem_mon.mp hb).2] at h2
    rw [e] at h1
    grind
  have inj : ∀ c : F, c ≠ 0 → ∀ a b : PS F, C c * a = C c * b → a = b := fun c hc a b e => by
    have h1 := Fd.mul_inv c hc
    have : C (Fd.inv c) * (C c * a) = C (Fd.inv c) * (C c * b) := by rw [e]
    have e1 : ∀ a : PS F, C (Fd.inv c) * (C c * a) = a := fun a => by
      have : C (Fd.inv c) * (C c * a) = C (c * Fd.inv c) * a := by rw [C_mul]; grind
      rw [this, h1]; exact one_mul' a
    rwa [e1, e1] at this
  refine perm_of (nodup_flatMap nd_un (fun c hc => nodup_map nd_mon fun a _ b _ e => inj c (mem_un.mp hc) a b e) fun c _ d _ x hx hy => ?_) nd_nz fun f => ?_
  · obtain ⟨u, hu, e1⟩ := List.mem_map.mp hx
    obtain ⟨v, hv, e2⟩ := List.mem_map.mp hy
    exact key c d u v hu hv (e1.trans e2.symm)
  · rw [List.mem_flatMap, mem_nz]
    constructor
    · rintro ⟨c, hc, hf⟩
      obtain ⟨a, ha, e⟩ := List.mem_map.mp hf
      obtain ⟨h1, h2⟩ := mem_mon.mp ha
      rw [← e]
      refine ⟨h1.C c, fun z => ?_⟩
      have h3 := lc_C h1 c
      rw [z, lc_zero, h2] at h3
      exact mem_un.mp hc (by grind)
    · rintro ⟨h1, h2⟩
      have h3 := lc_ne h1 h2
      have h4 := Fd.mul_inv _ h3
      refine ⟨lc n f, mem_un.mpr h3, List.mem_map.mpr ⟨C (Fd.inv (lc n f)) * f, mem_mon.mpr ⟨h1.C _, ?_⟩, ?_⟩⟩
      · rw [lc_C h1]; grind
      · have : C (lc n f) * (C (Fd.inv (lc n f)) * f) = C (lc n f * Fd.inv (lc n f)) * f := by rw [C_mul]; grind
        rw [this, h4]; exact one_mul' f
theorem pr_nz (h : PS F → F) : pr (nz n) h = pr un fun c => pr (mon n) fun a => h (C c * a) := by
  rw [← pr_perm nz_perm, pr_flatMap]
  refine pr_congr fun c _ => ?_
  rw [pr_map]
theorem un_inv : ((un : List F).map Fd.inv).Perm un := by
  have ii : ∀ a : F, a ≠ 0 → Fd.inv (Fd.inv a) = a := fun a ha => by
    have h1 := Fd.mul_inv a ha
    have h2 := Fd.mul_inv _ (inv_ne ha)
    grind
  refine perm_of (nodup_map nd_un fun a ha b hb e => ?_) nd_un fun a => ?_
  · rw [← ii a (mem_un.mp ha), e, ii b (mem_un.mp hb)]
  · rw [List.mem_map]
    constructor
    · rintro ⟨b, hb, e⟩; rw [← e]; exact mem_un.mpr (inv_ne (mem_un.mp hb))
    · intro h; exact ⟨Fd.inv a, mem_un.mpr (inv_ne (mem_un.mp h)), ii a (mem_un.mp h)⟩
theorem pow_add (a : F) (m n : Nat) : a ^ (m + n) = a ^ m * a ^ n := by
  induction n with
  | zero => rw [Nat.add_zero, Semiring.pow_zero]; grind
  | succ n ih => rw [← Nat.add_assoc, Semiring.pow_succ, ih, Semiring.pow_succ]; grind
theorem pow_mul (a : F) (m n : Nat) : a ^ (m * n) = (a ^ m) ^ n := by
  induction n with
  | zero => rw [Nat.mul_zero, Semiring.pow_zero, Semiring.pow_zero]
  | succ n ih => rw [Nat.mul_succ, pow_add, ih, Semiring.pow_succ]
theorem mul_pow (a b : F) (n : Nat) : (a * b) ^ n = a ^ n * b ^ n := by
  induction n with
  | zero => rw [Semiring.pow_zero, Semiring.pow_zero, Semiring.pow_zero]; grind
  | succ n ih => rw [Semiring.pow_succ, ih, Semiring.pow_succ, Semiring.pow_succ]; grind
theorem one_pow (n : Nat) : (1 : F) ^ n = 1 := by
  induction n with
  | zero => exact Semiring.pow_zero _
  | succ n ih => rw [Semiring.pow_succ, ih]; grind
abbrev sg (n : Nat) : F := (-1) ^ n
theorem sg_sq (n : Nat) : (sg n : F) * sg n = 1 := by
  rw [← mul_pow]
  have : (-1 : F) * -1 = 1 := by grind
  rw [this, one_pow]
/-- the number of monic ones below n, told by the count of numbers -/
theorem mon_cons {c : F} : cons c g ∈ mon (n + 1) ↔ (g ∈ mon n) ∨ (g = 0 ∧ c = 1) := by
  rw [mem_mon, mem_mon, lt_cons]
  by_cases e : g = 0
  · subst e
    have : lc (n + 1) (cons c (0 : PS F)) = c := by
      by_cases hc : c = 0
      · have z : cons c (0 : PS F) = 0 := PS.ext fun k => by
          cases k with
          | zero => exact hc.trans (zero_at 0).symm
          | succ k => exact (zero_at k).trans (zero_at (k + 1)).symm
        rw [z, lc_zero, hc]
      · exact lc_top (j := 0) (by omega) hc fun k hk => by
          cases k with
          | zero => omega
          | succ k => exact zero_at k
    rw [this, lc_zero]
    constructor
    · rintro ⟨_, h⟩; exact .inr ⟨rfl, h⟩
    · rintro (⟨_, h⟩ | ⟨_, h⟩)
      · exact (Fd.one_ne h.symm).elim
      · exact ⟨lt_zero _, h⟩
  · constructor
    · rintro ⟨h1, h2⟩
      obtain ⟨j, k1, k2, k3⟩ := top_of h1 e
      refine .inl ⟨h1, ?_⟩
      rw [lc_top k1 k2 k3]
      rw [lc_top (j := j + 1) (by omega) k2 (lt_cons.mpr k3)] at h2
      exact h2
    · rintro (⟨h1, h2⟩ | ⟨h1, _⟩)
      · obtain ⟨j, k1, k2, k3⟩ := top_of h1 e
        refine ⟨h1, ?_⟩
        rw [lc_top (j := j + 1) (by omega) k2 (lt_cons.mpr k3)]
        rw [lc_top k1 k2 k3] at h2
        exact h2
      · exact (e h1).elim
theorem mon_perm : (cons 1 (0 : PS F) :: (Fd.els : List F).flatMap fun c => (mon n).map (cons c)).Perm (mon (n + 1)) := by
  refine perm_of (List.nodup_cons.mpr ⟨fun hm => ?_, nodup_flatMap Fd.nd_els (fun c _ => nodup_map nd_mon fun a _ b _ e => (cons_inj e).2) fun c _ d _ x hx hy => ?_⟩) nd_mon fun f => ?_
  · obtain ⟨c, _, hx⟩ := List.mem_flatMap.mp hm
    obtain ⟨a, ha, e⟩ := List.mem_map.mp hx
    have h0 := (cons_inj e).2
    rw [h0] at ha
    have := (mem_mon.mp ha).2
    rw [lc_zero] at this
    exact Fd.one_ne this.symm
  · obtain ⟨u, _, e1⟩ := List.mem_map.mp hx
    obtain ⟨v, _, e2⟩ := List.mem_map.mp hy
    exact (cons_inj (e1.trans e2.symm)).1
  · rw [List.mem_cons, List.mem_flatMap]
    constructor
    · rintro (e | ⟨c, _, h⟩)
      · rw [e]; exact mon_cons.mpr (.inr ⟨rfl, rfl⟩)
      · obtain ⟨a, ha, e⟩ := List.mem_map.mp h
        rw [← e]; exact mon_cons.mpr (.inl ha)
    · intro h
      rw [← cons_tl f] at h ⊢
      rcases mon_cons.mp h with h | ⟨h1, h2⟩
      · exact .inr ⟨f 0, Fd.mem_els _, List.mem_map.mpr ⟨tl f, h, rfl⟩⟩
      · rw [h1, h2]; exact .inl rfl
theorem flatMap_len {α β : Type} (l : List α) (f : α → List β) (k : Nat) (h : ∀ a ∈ l, (f a).length = k) : (l.flatMap f).length = l.length * k := by
  induction l with
  | nil => simp
  | cons a l ih =>
    rw [List.flatMap_cons, List.length_append, h a List.mem_cons_self, ih fun b hb => h b (List.mem_cons_of_mem _ hb), List.length_cons, Nat.succ_mul]
    omega
abbrev qq (F : Type) [Fd F] : Nat := (Fd.els : List F).length
theorem mon_len (n : Nat) : (mon (n + 1) : List (PS F)).length = qq F * (mon n : List (PS F)).length + 1 := by
  rw [← (mon_perm (F := F) (n := n)).length_eq, List.length_cons, flatMap_len _ _ _ fun c _ => List.length_map ..]
theorem mon_0 : (mon 0 : List (PS F)) = [] := by
  unfold mon
  show List.filter _ [0] = []
  rw [List.filter_cons, _root_.decide_eq_false (by rw [lc_zero]; exact fun z => Fd.one_ne z.symm), if_neg Bool.false_ne_true]
  rfl
theorem mon_pow (c : F) : ∀ n : Nat, c ^ (mon n : List (PS F)).length = c ^ n
  | 0 => by rw [mon_0]; rfl
  | n + 1 => by rw [mon_len, Semiring.pow_succ, Semiring.pow_succ, Nat.mul_comm, pow_mul, Fd.fermat, mon_pow c n]
/-- the product of the last numbers of all but nought -/
theorem pr_lc (n : Nat) : pr (nz n) (lc n) = (sg n : F) := by
  rw [pr_nz]
  have h1 : pr un (fun c : F => pr (mon n) fun a => lc n (C c * a)) = pr un (fun c : F => c ^ n) := pr_congr fun c _ => by
    rw [← mon_pow c n, ← pr_const c]
    refine pr_congr fun a ha => ?_
    rw [lc_C (mem_mon.mp ha).1, (mem_mon.mp ha).2]; grind
  rw [h1]
  have h2 : ∀ l : List F, pr l (fun c => c ^ n) = (pr l fun c => c) ^ n := fun l => by
    induction l with
    | nil => rw [pr_nil, pr_nil, one_pow]
    | cons a l ih => rw [pr_cons, pr_cons, ih, mul_pow]
  rw [h2]
  have h3 : pr (un : List F) (fun a => a) = -1 := wilson'
  rw [h3]
theorem nz_all : ((0 : PS F) :: nz n).Perm (all n) := perm_of (List.nodup_cons.mpr ⟨fun h => (mem_nz.mp h).2 rfl, nd_nz⟩) (nd_all n) fun f => by
  rw [List.mem_cons, mem_nz, mem_all]
  constructor
  · rintro (e | h)
    · rw [e]; exact lt_zero n
    · exact h.1
  · intro h
    by_cases e : f = 0
    · exact .inl e
    · exact .inr ⟨h, e⟩
/-! ### the symbol -/
noncomputable def tau (m : Nat) (M f : PS F) : F := pr (mon m) fun b => lc m (rem m M (b * f))
theorem Lt.pl (h : Lt n f) : Pl f := ⟨n, h⟩
theorem side {M N : PS F} (hM : Mon m M) (hN : Mon n N) : pr (mon m) (fun b => pr (nz n) fun a => lc (m + n) (a * M + b * N)) = sg (m * n) * tau m M N := by
  unfold tau
  have key : ∀ b ∈ mon m, pr (nz n) (fun a => lc (m + n) (a * M + b * N)) = sg n * lc m (rem m M (b * N)) := fun b hb => by
    obtain ⟨hb1, hb2⟩ := mem_mon.mp hb
    -- all a, the one for nought is 1
    have e1 : lc (m + n) (0 * M + b * N) = 1 := by
      obtain ⟨j, k1, k2⟩ := mon_of_lc hb1 hb2
      have : (0 : PS F) * M + b * N = b * N := by grind
      rw [this]
      exact lc_mon (k2.mul hN) (by omega)
    have e2 : pr (nz n) (fun a => lc (m + n) (a * M + b * N)) = pr (all n) fun a => lc (m + n) (a * M + b * N) := by
      rw [← pr_perm nz_all, pr_cons, e1]; grind
    obtain ⟨hr, q, hq, e⟩ := rem_ok hM (hb1.pl.mul hN.pl)
    have hqn : Lt n q := by
      have h1 : Lt (m + n) (b * N) := by
        obtain ⟨j, k1, k2⟩ := mon_of_lc hb1 hb2
        exact (k2.mul hN).1.mono (by omega)
      obtain ⟨q', r', e', hq', hr'⟩ := divides hM (m + n) _ h1
      have : q = q' := (div_unique hM hq hq'.pl hr hr' (by rw [← e, ← e'])).1
      rw [this]; exact hq'.mono (by omega)
    have e3 : pr (all n) (fun a => lc (m + n) (a * M + b * N)) = pr ((all n).map fun a => a + q) fun a => lc (m + n) (a * M + rem m M (b * N)) := by
      rw [pr_map]
      refine pr_congr fun a _ => ?_
      congr 1
      grind
    rw [e2, e3, pr_perm (all_add hqn), ← pr_perm nz_all, pr_cons]
    have e4 : lc (m + n) (0 * M + rem m M (b * N)) = lc m (rem m M (b * N)) := by
      have : (0 : PS F) * M + rem m M (b * N) = rem m M (b * N) := by grind
      rw [this]
      exact lc_mono hr (by omega)
    have e5 : pr (nz n) (fun a => lc (m + n) (a * M + rem m M (b * N))) = pr (nz n) (lc n) := pr_congr fun a ha => lc_mulM hM (mem_nz.mp ha).1 (mem_nz.mp ha).2 hr
    rw [e4, e5, pr_lc]
    grind
  rw [pr_congr key, pr_mul, pr_const, mon_pow, ← pow_mul]
  congr 2
  exact Nat.mul_comm n m
/-- THE LAW: turned over -/
theorem recip {M N : PS F} (hM : Mon m M) (hN : Mon n N) : tau n N M = sg (m * n) * tau m M N := by
  have h1 := side hM hN
  have h2 := side hN hM
  have c1 : pr (mon m) (fun b => pr (nz n) fun a => lc (m + n) (a * M + b * N)) = pr (mon m) fun b => pr (mon n) fun a => pr un fun c => lc (m + n) (C c * a * M + b * N) := pr_congr fun b _ => by
    rw [pr_nz, pr_swap]
  have c2 : pr (mon n) (fun a => pr (nz m) fun b => lc (n + m) (b * N + a * M)) = pr (mon n) fun a => pr (mon m) fun b => -1 * pr un fun c => lc (m + n) (C c * a * M + b * N) := pr_congr fun a ha => by
    rw [pr_nz, pr_swap]
    refine pr_congr fun b hb => ?_
    -- for each number: taken out, and turned
    have e1 : ∀ c ∈ (un : List F), lc (n + m) (C c * b * N + a * M) = c * lc (m + n) (C (Fd.inv c) * a * M + b * N) := fun c hc => by
      have hl : Lt (m + n) (C (Fd.inv c) * a * M + b * N) := by
        obtain ⟨j, k1, k2⟩ := mon_of_lc (mem_mon.mp ha).1 (mem_mon.mp ha).2
        obtain ⟨j', k1', k2'⟩ := mon_of_lc (mem_mon.mp hb).1 (mem_mon.mp hb).2
        have z1 : Lt (m + n) (C (Fd.inv c) * a * M) := by
          have : C (Fd.inv c) * a * M = C (Fd.inv c) * (a * M) := by grind
          rw [this]
          exact ((k2.mul hM).1.mono (by omega)).C _
        exact z1.add ((k2'.mul hN).1.mono (by omega))
      rw [← lc_C hl c, Nat.add_comm n m]
      congr 1
      have h4 : C c * C (Fd.inv c) = (1 : PS F) := by rw [← C_mul, Fd.mul_inv c (mem_un.mp hc)]; rfl
      grind
    rw [pr_congr e1, pr_mul]
    have e2 : pr (un : List F) (fun c => c) = -1 := wilson'
    rw [e2]
    congr 1
    have e3 := pr_map (F := F) (h := fun c => lc (m + n) (C c * a * M + b * N)) Fd.inv un
    rw [← e3, pr_perm un_inv]
  rw [c1] at h1
  rw [c2, pr_swap] at h2
  have c3 : pr (mon m) (fun b => pr (mon n) fun a => -1 * pr un fun c => lc (m + n) (C c * a * M + b * N)) = sg (m * n) * pr (mon m) fun b => pr (mon n) fun a => pr un fun c => lc (m + n) (C c * a * M + b * N) := by
    have : ∀ b ∈ mon m, pr (mon n) (fun a => -1 * pr un fun c => lc (m + n) (C c * a * M + b * N)) = sg n * pr (mon n) fun a => pr un fun c => lc (m + n) (C c * a * M + b * N) := fun b _ => by
      rw [pr_mul, pr_const, mon_pow]
    rw [pr_congr this, pr_mul, pr_const, mon_pow, ← pow_mul, Nat.mul_comm n m]
  rw [c3, h1] at h2
  have e := sg_sq (F := F) (m * n)
  have e' : (sg (n * m) : F) = sg (m * n) := by rw [Nat.mul_comm]
  rw [e'] at h2
  grind
theorem tau_rem {M : PS F} (hM : Mon m M) (hf : Pl f) : tau m M (rem m M f) = tau m M f := pr_congr fun b hb => by
  have hb' := (mem_mon.mp hb).1.pl
  rw [mul_comm' b (rem m M f), mul_comm' b f, ← rem_mul hM hf hb']
end
end MA

namespace MA
open Lean.Grind
open Classical
section
variable {F : Type} [Fd F] {f g h : PS F} {n m k d : Nat}
theorem C_one_ : (C (1 : F)) = 1 := rfl
theorem rem_C1 {M : PS F} (hM : Mon m M) (hf : Pl f) (c : F) (b : PS F) (hb : Pl b) : rem m M (b * (C c * f)) = C c * rem m M (b * f) := by
  have : b * (C c * f) = C c * (b * f) := by grind
  rw [this, rem_C hM (hb.mul hf)]
theorem lc_rem_C {M : PS F} (hM : Mon m M) (hf : Pl f) (c : F) : lc m (C c * rem m M f) = c * lc m (rem m M f) := lc_C (rem_ok hM hf).1 c
/-- a number ahead comes out as its power -/
theorem tau_C {M : PS F} (hM : Mon m M) (hf : Pl f) (c : F) : tau m M (C c * f) = c ^ m * tau m M f := by
  unfold tau
  have : ∀ b ∈ mon m, lc m (rem m M (b * (C c * f))) = c * lc m (rem m M (b * f)) := fun b hb => by
    have hp := (mem_mon.mp hb).1.pl
    rw [rem_C1 hM hf c b hp, lc_rem_C hM (hp.mul hf)]
  rw [pr_congr this, pr_mul, pr_const, mon_pow]
theorem tau_one {M : PS F} (hM : Mon m M) : tau m M 1 = 1 := by
  unfold tau
  have : ∀ b ∈ mon m, lc m (rem m M (b * 1)) = 1 := fun b hb => by
    have e : b * 1 = b := by grind
    rw [e, rem_lt hM (mem_mon.mp hb).1, (mem_mon.mp hb).2]
  rw [pr_congr this, pr_one]
theorem one_mon (hm : 1 ≤ m) : (1 : PS F) ∈ mon m := mem_mon.mpr ⟨(lt_C 1).mono hm, lc_mon mon_one hm⟩
theorem tau_zero {M : PS F} (hM : Mon m M) (hm : 1 ≤ m) : tau m M 0 = 0 := by
  unfold tau
  refine pr_zero (one_mon hm) ?_
  have e : (1 : PS F) * 0 = 0 := by grind
  rw [e, rem_zero hM, lc_zero]
/-- the monic one behind -/
noncomputable def nrm (m : Nat) (f : PS F) : PS F := C (Fd.inv (lc m f)) * f
theorem nrm_eq (hf : Lt m f) (hz : f ≠ 0) : f = C (lc m f) * nrm m f := by
  have h1 := Fd.mul_inv _ (lc_ne hf hz)
  have h2 : C (lc m f) * nrm m f = C (lc m f * Fd.inv (lc m f)) * f := by unfold nrm; rw [C_mul]; grind
  rw [h2, h1, one_mul' f |> fun (e : C (1 : F) * f = f) => e]
theorem nrm_mem (hf : Lt m f) (hz : f ≠ 0) : nrm m f ∈ mon m := by
  refine mem_mon.mpr ⟨hf.C _, ?_⟩
  unfold nrm
  rw [lc_C hf]
  have h1 := Fd.mul_inv _ (lc_ne hf hz)
  grind
/-- nothing but nought falls to nought under f -/
def Free (m : Nat) (M f : PS F) : Prop := ∀ b, Lt m b → rem m M (b * f) = 0 → b = 0
theorem len_perm {α : Type} {l : List α} : ∀ {l' : List α}, l.Nodup → (∀ a ∈ l, a ∈ l') → l.length = l'.length → l.Perm l' := by
  intro l' hn hs hl
  induction l generalizing l' with
  | nil =>
    cases l' with
    | nil => exact .nil
    | cons _ _ => cases hl
  | cons a l ih =>
    obtain ⟨h1, h2⟩ := List.nodup_cons.mp hn
    have ha := hs a List.mem_cons_self
    have p := List.perm_cons_erase ha
    refine (List.Perm.cons a (ih h2 (fun b hb => ?_) ?_)).trans p.symm
    · have hb' := hs b (List.mem_cons_of_mem _ hb)
      have : b ≠ a := fun e => h1 (e ▸ hb)
      exact (List.mem_erase_of_ne this).mpr hb'
    · have := p.length_eq
      simp only [List.length_cons] at this hl
      omega
theorem sub_zero_iff {a b : PS F} (h : a - b = 0) : a = b := by grind
theorem free_perm {M : PS F} (hM : Mon m M) (hf : Pl f) (hz : Free m M f) : ((mon m).map fun b => nrm m (rem m M (b * f))).Perm (mon m) := by
  have nz' : ∀ b ∈ (mon m : List (PS F)), rem m M (b * f) ≠ 0 := fun b hb z => by
    have h1 := hz b (mem_mon.mp hb).1 z
    have h2 := (mem_mon.mp hb).2
    rw [h1, lc_zero] at h2
    exact Fd.one_ne h2.symm
  refine len_perm (nodup_map nd_mon fun a ha b hb e => ?_) (fun x hx => ?_) (List.length_map ..)
  · have pa := (mem_mon.mp ha).1
    have pb := (mem_mon.mp hb).1
    have ea := nrm_eq (rem_ok hM (pa.pl.mul hf)).1 (nz' a ha)
    have eb := nrm_eq (rem_ok hM (pb.pl.mul hf)).1 (nz' b hb)
    have e' : nrm m (rem m M (a * f)) = nrm m (rem m M (b * f)) := e
    rw [e'] at ea
    -- lc(b) rem(a f) = lc(a) rem(b f)
    have key : rem m M ((C (lc m (rem m M (b * f))) * a - C (lc m (rem m M (a * f))) * b) * f) = 0 := by
      have e1 : (C (lc m (rem m M (b * f))) * a - C (lc m (rem m M (a * f))) * b) * f = C (lc m (rem m M (b * f))) * (a * f) + C (- lc m (rem m M (a * f))) * (b * f) := by
        rw [C_neg]; grind
      rw [e1, rem_add hM ((pl_C _).mul (pa.pl.mul hf)) ((pl_C _).mul (pb.pl.mul hf)), rem_C hM (pa.pl.mul hf), rem_C hM (pb.pl.mul hf), C_neg]
      have h3 : C (lc m (rem m M (b * f))) * rem m M (a * f) = C (lc m (rem m M (a * f))) * rem m M (b * f) := by
        calc C (lc m (rem m M (b * f))) * rem m M (a * f) = C (lc m (rem m M (b * f))) * (C (lc m (rem m M (a * f))) * nrm m (rem m M (b * f))) := by rw [← ea]
          _ = C (lc m (rem m M (a * f))) * (C (lc m (rem m M (b * f))) * nrm m (rem m M (b * f))) := by grind
          _ = _ := by rw [← eb]
      grind
    have h4 := hz _ ((pa.C _).sub (pb.C _)) key
    have h5 := sub_zero_iff h4
    -- compare the last numbers
    have h6 := lc_C pa (lc m (rem m M (b * f)))
    have h7 := lc_C pb (lc m (rem m M (a * f)))
    rw [h5, h7, (mem_mon.mp ha).2, (mem_mon.mp hb).2] at h6
    have h8 : lc m (rem m M (a * f)) = lc m (rem m M (b * f)) := by grind
    rw [h8] at h5
    have h9 := Fd.mul_inv _ (lc_ne (rem_ok hM (pb.pl.mul hf)).1 (nz' b hb))
    have ex : ∀ x : PS F, C (Fd.inv (lc m (rem m M (b * f)))) * (C (lc m (rem m M (b * f))) * x) = x := fun x => by
      have : C (Fd.inv (lc m (rem m M (b * f)))) * (C (lc m (rem m M (b * f))) * x) = C (lc m (rem m M (b * f)) * Fd.inv (lc m (rem m M (b * f)))) * x := by rw [C_mul]; grind
      rw [this, h9]; exact one_mul' x
    rw [← ex a, h5, ex b]
  · obtain ⟨b, hb, e⟩ := List.mem_map.mp hx
    rw [← e]
    exact nrm_mem (rem_ok hM ((mem_mon.mp hb).1.pl.mul hf)).1 (nz' b hb)
theorem free_ne {M : PS F} (hz : Free m M f) {b : PS F} (hb : b ∈ mon m) : rem m M (b * f) ≠ 0 := fun z => by
  have h1 := hz b (mem_mon.mp hb).1 z
  have h2 := (mem_mon.mp hb).2
  rw [h1, lc_zero] at h2
  exact Fd.one_ne h2.symm
theorem tau_ne {M : PS F} (hM : Mon m M) (hf : Pl f) (hz : Free m M f) : tau m M f ≠ 0 := pr_ne fun b hb =>
  lc_ne (rem_ok hM ((mem_mon.mp hb).1.pl.mul hf)).1 (free_ne hz hb)
theorem not_free {M : PS F} (hM : Mon m M) (hf : Pl f) (hz : ¬ Free m M f) : ∃ b ∈ (mon m : List (PS F)), rem m M (b * f) = 0 := by
  have : ∃ b, Lt m b ∧ rem m M (b * f) = 0 ∧ b ≠ 0 := Classical.byContradiction fun hn => hz fun b hb h0 => Classical.byContradiction fun h1 => hn ⟨b, hb, h0, h1⟩
  obtain ⟨b, hb, h0, h1⟩ := this
  refine ⟨nrm m b, nrm_mem hb h1, ?_⟩
  have : nrm m b * f = C (Fd.inv (lc m b)) * (b * f) := by unfold nrm; grind
  rw [this, rem_C hM (hb.pl.mul hf), h0]; exact Semiring.mul_zero _
theorem tau_not_free {M : PS F} (hM : Mon m M) (hf : Pl f) (hz : ¬ Free m M f) : tau m M f = 0 := by
  obtain ⟨b, hb, e⟩ := not_free hM hf hz
  exact pr_zero hb (by rw [e, lc_zero])
theorem tau_mul {M : PS F} (hM : Mon m M) (hf : Pl f) (hg : Pl g) : tau m M (f * g) = tau m M f * tau m M g := by
  by_cases hz : Free m M f
  · have h1 : ∀ b ∈ (mon m : List (PS F)), lc m (rem m M (b * (f * g))) = lc m (rem m M (b * f)) * lc m (rem m M (nrm m (rem m M (b * f)) * g)) := fun b hb => by
      have pb := (mem_mon.mp hb).1.pl
      have r1 := rem_ok hM (pb.mul hf)
      have e1 : b * (f * g) = b * f * g := by grind
      have e2 := nrm_eq r1.1 (free_ne hz hb)
      have pn : Pl (nrm m (rem m M (b * f))) := ((r1.1).C _).pl
      rw [e1, rem_mul hM (pb.mul hf) hg]
      have e3 : rem m M (b * f) * g = C (lc m (rem m M (b * f))) * (nrm m (rem m M (b * f)) * g) := by
        calc rem m M (b * f) * g = C (lc m (rem m M (b * f))) * nrm m (rem m M (b * f)) * g := by rw [← e2]
          _ = _ := by grind
      rw [e3, rem_C hM (pn.mul hg), lc_rem_C hM (pn.mul hg)]
    unfold tau
    rw [pr_congr h1, pr_mul]
    congr 1
    have h2 := pr_map (F := F) (h := fun b => lc m (rem m M (b * g))) (fun b => nrm m (rem m M (b * f))) (mon m)
    rw [← h2, pr_perm (free_perm hM hf hz)]
  · rw [tau_not_free hM hf hz]
    obtain ⟨b, hb, e⟩ := not_free hM hf hz
    have : tau m M (f * g) = 0 := by
      refine pr_zero hb ?_
      have e1 : b * (f * g) = b * f * g := by grind
      have pb := (mem_mon.mp hb).1.pl
      have e2 : (0 : PS F) * g = 0 := Semiring.zero_mul g
      rw [e1, rem_mul hM (pb.mul hf) hg, e, e2, rem_zero hM, lc_zero]
    rw [this]; grind
theorem tau_sg (n : Nat) {M : PS F} : (sg n : F) * (sg n * tau m M f) = tau m M f := by
  have := sg_sq (F := F) n
  grind
/-- a product of moduli -/
theorem tau_modM {M N P : PS F} (hM : Mon m M) (hN : Mon n N) (hP : Mon d P) : tau (m + n) (M * N) P = tau m M P * tau n N P := by
  rw [recip hP (hM.mul hN), tau_mul hP hM.pl hN.pl, recip hM hP, recip hN hP]
  have e : (sg (d * (m + n)) : F) = sg (m * d) * sg (n * d) := by
    show (-1 : F) ^ (d * (m + n)) = (-1) ^ (m * d) * (-1) ^ (n * d)
    rw [Nat.mul_add, pow_add, Nat.mul_comm d m, Nat.mul_comm d n]
  rw [e]
  have h1 := sg_sq (F := F) (m * d)
  have h2 := sg_sq (F := F) (n * d)
  grind
theorem tau_mod {M N : PS F} (hM : Mon m M) (hN : Mon n N) (hm : 1 ≤ m) (hn : 1 ≤ n) (hf : Pl f) : tau (m + n) (M * N) f = tau m M f * tau n N f := by
  obtain ⟨l, hl⟩ := hf
  by_cases e : f = 0
  · rw [e, tau_zero (hM.mul hN) (by omega), tau_zero hM hm]; grind
  · have e1 := nrm_eq hl e
    have h1 := nrm_mem hl e
    obtain ⟨j, _, hj⟩ := mon_of_lc (mem_mon.mp h1).1 (mem_mon.mp h1).2
    rw [e1, tau_C (hM.mul hN) hj.pl, tau_C hM hj.pl, tau_C hN hj.pl, tau_modM hM hN hj, pow_add]
    grind
/-! ### primes -/
theorem least_of {p : Nat → Prop} (h : ∃ j, p j) : ∃ j, p j ∧ ∀ i < j, ¬ p i := Classical.byContradiction fun hn => by
  have all : ∀ n, ∀ i < n, ¬ p i := fun n => by
    induction n with
    | zero => intro i hi; omega
    | succ n ih =>
      intro i hi hp
      by_cases e : i < n
      · exact ih i e hp
      · have : i = n := by omega
        subst this
        exact hn ⟨i, hp, ih⟩
  obtain ⟨j, hj⟩ := h
  exact all (j + 1) j (by omega) hj
def Prm (m : Nat) (P : PS F) : Prop := Mon m P ∧ ∀ j M, 1 ≤ j → j ≤ m / 2 → Mon j M → rem j M P ≠ 0
theorem rem_zero_q {M : PS F} (hM : Mon m M) (hf : Pl f) (h : rem m M f = 0) : ∃ q, Pl q ∧ f = q * M := by
  obtain ⟨_, q, hq, e⟩ := rem_ok hM hf
  exact ⟨q, hq, by rw [h] at e; rw [e]; grind⟩
/-- all that a and P make -/
def Idl (a P g : PS F) : Prop := ∃ u v, Pl u ∧ Pl v ∧ g = u * a + v * P
theorem Idl.pl {a P : PS F} (ha : Pl a) (hP : Pl P) (h : Idl a P g) : Pl g := by
  obtain ⟨u, v, pu, pv, e⟩ := h
  rw [e]; exact (pu.mul ha).add (pv.mul hP)
theorem idl_least {a P : PS F} (ha : Pl a) (hP : Mon m P) : ∃ j M, Mon j M ∧ Idl a P M ∧ rem j M P = 0 ∧ rem j M a = 0 := by
  -- the least power of a monic one
  have ex : ∃ j, ∃ M, Mon j M ∧ Idl a P M := ⟨m, P, hP, 0, 1, pl_0, pl_1, by grind⟩
  obtain ⟨j, ⟨M, hM, hI⟩, hl⟩ : ∃ j, (∃ M, Mon j M ∧ Idl a P M) ∧ ∀ i < j, ¬ ∃ M, Mon i M ∧ Idl a P M := by
    exact least_of ex
  have key : ∀ b, Idl a P b → rem j M b = 0 := fun b hb => Classical.byContradiction fun hz => by
    have pb := hb.pl ha hP.pl
    obtain ⟨h1, q, pq, e⟩ := rem_ok hM pb
    have h2 := nrm_mem h1 hz
    obtain ⟨i, hi, hm⟩ := mon_of_lc (mem_mon.mp h2).1 (mem_mon.mp h2).2
    refine hl i hi ⟨_, hm, ?_⟩
    obtain ⟨u, v, pu, pv, e1⟩ := hI
    obtain ⟨u', v', pu', pv', e2⟩ := hb
    refine ⟨C (Fd.inv (lc j (rem j M b))) * (u' - q * u), C (Fd.inv (lc j (rem j M b))) * (v' - q * v), (pl_C _).mul (pu'.sub (pq.mul pu)), (pl_C _).mul (pv'.sub (pq.mul pv)), ?_⟩
    have e3 : rem j M b = (u' - q * u) * a + (v' - q * v) * P := by
      have : rem j M b = b - q * M := by rw [e]; grind
      rw [this, e1, e2]; grind
    show C (Fd.inv (lc j (rem j M b))) * rem j M b = _
    rw [show C (Fd.inv (lc j (rem j M b))) * rem j M b = C (Fd.inv (lc j (rem j M b))) * ((u' - q * u) * a + (v' - q * v) * P) from by rw [← e3]]
    grind
  exact ⟨j, M, hM, hI, key P ⟨0, 1, pl_0, pl_1, by grind⟩, key a ⟨1, 0, pl_1, pl_0, by grind⟩⟩
theorem mon_quot {M N q : PS F} (hM : Mon m M) (hN : Mon n N) (hq : Pl q) (e : M = q * N) : n ≤ m ∧ Mon (m - n) q := by
  have hz : q ≠ 0 := fun z => by
    have : M = 0 := by rw [e, z]; exact Semiring.zero_mul N
    have h2 := hM.2
    rw [this, zero_at] at h2
    exact Fd.one_ne h2.symm
  obtain ⟨l, hl⟩ := hq
  obtain ⟨j, _, h2, h3⟩ := top_of hl hz
  obtain ⟨h4, h5⟩ := mul_top j q N n h3 hN.1
  rw [← e] at h4 h5
  have h6 : M (j + n) ≠ 0 := by rw [h5, hN.2]; intro z; apply h2; grind
  have e1 : j + n = m := by
    by_cases q1 : m < j + n
    · exact (h6 (hM.1 _ q1)).elim
    · by_cases q2 : j + n < m
      · have := h4 m (by omega)
        rw [hM.2] at this
        exact (Fd.one_ne this).elim
      · omega
  have e2 : m - n = j := by omega
  refine ⟨by omega, ?_⟩
  rw [e2]
  refine ⟨h3, ?_⟩
  rw [e1, hM.2, hN.2] at h5
  grind
theorem prime_inv {P a : PS F} (hP : Prm m P) (ha : Pl a) (hz : rem m P a ≠ 0) : ∃ u v, Pl u ∧ Pl v ∧ 1 = u * a + v * P := by
  obtain ⟨j, M, hM, hI, hp, hra⟩ := idl_least ha hP.1
  obtain ⟨q, pq, e⟩ := rem_zero_q hM hP.1.pl hp
  obtain ⟨h1, h2⟩ := mon_quot hP.1 hM pq e
  by_cases j0 : j = 0
  · subst j0
    have : M = 1 := PS.ext fun k => by
      rw [one_eq, C_at]
      split
      · rename_i z; rw [z]; exact hM.2
      · exact hM.1 k (by omega)
    rw [this] at hI
    exact hI
  · exfalso
    by_cases jm : j = m
    · -- then M = P, P divides a
      subst jm
      have : q = 1 := PS.ext fun k => by
        rw [Nat.sub_self] at h2
        rw [one_eq, C_at]
        split
        · rename_i z; rw [z]; exact h2.2
        · exact h2.1 k (by omega)
      rw [this] at e
      have e' : P = M := by rw [e]; exact one_mul' M
      rw [e'] at hz
      exact hz hra
    · by_cases q1 : j ≤ m / 2
      · exact hP.2 j M (by omega) q1 hM hp
      · refine hP.2 (m - j) q (by omega) (by omega) h2 ?_
        rw [e, mul_comm' q M]
        exact rem_mulM h2 hM.pl
theorem prime_free {P a : PS F} (hP : Prm m P) (ha : Pl a) (hz : rem m P a ≠ 0) : Free m P a := fun b hb h0 => by
  obtain ⟨u, v, pu, pv, e⟩ := prime_inv hP ha hz
  have e1 : b = b * a * u + (b * v) * P := by
    have : b = b * 1 := by grind
    rw [this, e]; grind
  have e2 := rem_eq hP.1 hb.pl ((hb.pl.mul ha).mul pu) (b * v) (hb.pl.mul pv) e1
  rw [rem_lt hP.1 hb, rem_mul hP.1 (hb.pl.mul ha) pu, h0] at e2
  rw [e2]
  have : (0 : PS F) * u = 0 := Semiring.zero_mul u
  rw [this, rem_zero hP.1]
/-- powers -/
def pw (f : PS F) : Nat → PS F
  | 0 => 1
  | n + 1 => pw f n * f
theorem pw_pl (hf : Pl f) : ∀ n, Pl (pw f n)
  | 0 => pl_1
  | n + 1 => (pw_pl hf n).mul hf
def prP {α : Type} (l : List α) (h : α → PS F) : PS F := l.foldr (fun a x => h a * x) 1
theorem prP_pl {α : Type} {l : List α} {h : α → PS F} (hp : ∀ a ∈ l, Pl (h a)) : Pl (prP l h) := by
  induction l with
  | nil => exact pl_1
  | cons a l ih => exact (hp a List.mem_cons_self).mul (ih fun b hb => hp b (List.mem_cons_of_mem _ hb))
theorem prP_perm {α : Type} {l l' : List α} {h : α → PS F} (p : l.Perm l') : prP l h = prP l' h := by
  induction p with
  | nil => rfl
  | cons a _ ih => show h a * prP _ h = h a * prP _ h; rw [ih]
  | swap a b l => show h b * (h a * prP l h) = h a * (h b * prP l h); grind
  | trans _ _ h1 h2 => rw [h1, h2]
theorem prP_map {α β : Type} {h : α → PS F} (f : β → α) (l : List β) : prP (l.map f) h = prP l (fun b => h (f b)) := by
  induction l with
  | nil => rfl
  | cons a l ih => show h (f a) * prP (l.map f) h = h (f a) * prP l _; rw [ih]
theorem rem_free_mul {P : PS F} (hP : Prm m P) {a b : PS F} (ha : Pl a) (hb : Pl b) (h1 : rem m P a ≠ 0) (h2 : rem m P b ≠ 0) : rem m P (a * b) ≠ 0 := fun z => by
  have h3 := prime_free hP hb h2 (rem m P a) (rem_ok hP.1 ha).1 (by rw [← rem_mul hP.1 ha hb]; exact z)
  exact h1 h3
theorem rem_prP_ne {α : Type} {P : PS F} (hP : Prm m P) (hm : 1 ≤ m) {l : List α} {h : α → PS F} (hp : ∀ a ∈ l, Pl (h a)) (hn : ∀ a ∈ l, rem m P (h a) ≠ 0) : rem m P (prP l h) ≠ 0 := by
  induction l with
  | nil =>
    show rem m P 1 ≠ 0
    rw [rem_lt hP.1 ((show Lt 1 (1 : PS F) from lt_C 1).mono hm)]
    intro z
    have := congrFun z 0
    rw [zero_at] at this
    exact Fd.one_ne this
  | cons a l ih =>
    exact rem_free_mul hP (hp a List.mem_cons_self) (prP_pl fun b hb => hp b (List.mem_cons_of_mem _ hb)) (hn a List.mem_cons_self) (ih (fun b hb => hp b (List.mem_cons_of_mem _ hb)) fun b hb => hn b (List.mem_cons_of_mem _ hb))
theorem rem_prP {α : Type} {M : PS F} (hM : Mon m M) {l : List α} {h h' : α → PS F} (hp : ∀ a ∈ l, Pl (h a)) (hp' : ∀ a ∈ l, Pl (h' a)) (e : ∀ a ∈ l, rem m M (h a) = rem m M (h' a)) : rem m M (prP l h) = rem m M (prP l h') := by
  induction l with
  | nil => rfl
  | cons a l ih =>
    have pa := hp a List.mem_cons_self
    have pa' := hp' a List.mem_cons_self
    have pl := prP_pl (h := h) fun b hb => hp b (List.mem_cons_of_mem a hb)
    have pl' := prP_pl (h := h') fun b hb => hp' b (List.mem_cons_of_mem a hb)
    have ih' := ih (fun b hb => hp b (List.mem_cons_of_mem _ hb)) (fun b hb => hp' b (List.mem_cons_of_mem _ hb)) fun b hb => e b (List.mem_cons_of_mem _ hb)
    show rem m M (h a * prP l h) = rem m M (h' a * prP l h')
    rw [rem_mul hM pa pl, rem_mul hM pa' pl', e a List.mem_cons_self]
    have q1 := rem_pl hM pa'
    rw [mul_comm' _ (prP l h), mul_comm' _ (prP l h'), rem_mul hM pl q1, rem_mul hM pl' q1, ih']
theorem prP_mul_pw {α : Type} {l : List α} {h : α → PS F} : prP l (fun a => h a * f) = prP l h * pw f l.length := by
  induction l with
  | nil => show (1 : PS F) = 1 * 1; grind
  | cons a l ih =>
    show h a * f * prP l (fun a => h a * f) = h a * prP l h * (pw f l.length * f)
    rw [ih]; grind
theorem prP_C_mul {α : Type} {l : List α} {h : α → PS F} {c : α → F} : prP l (fun a => C (c a) * h a) = C (pr l c) * prP l h := by
  induction l with
  | nil => show (1 : PS F) = C 1 * 1; rw [C_one_]; grind
  | cons a l ih =>
    show C (c a) * h a * prP l (fun a => C (c a) * h a) = C (c a * pr l c) * (h a * prP l h)
    rw [ih, C_mul]; grind
/-- THE LAW: for a prime, the power tells -/
theorem tau_prime {P : PS F} (hP : Prm m P) (hm : 1 ≤ m) (hf : Pl f) : rem m P (pw f (mon m : List (PS F)).length) = C (tau m P f) := by
  have hM := hP.1
  by_cases hz : rem m P f = 0
  · have h1 : tau m P f = 0 := by
      rw [← tau_rem hM hf, hz, tau_zero hM hm]
    have hl : ∃ k, (mon m : List (PS F)).length = k + 1 := by
      cases m with
      | zero => omega
      | succ m => exact ⟨_, mon_len m⟩
    obtain ⟨k, hk⟩ := hl
    rw [h1, hk]
    show rem m P (pw f k * f) = C 0
    have e2 : (0 : PS F) * pw f k = 0 := Semiring.zero_mul _
    rw [mul_comm', rem_mul hM hf (pw_pl hf k), hz, e2, rem_zero hM]; rfl
  · have fr := prime_free hP hf hz
    -- the product of all b f in two ways
    have h1 : rem m P (prP (mon m) (fun b => b * f)) = rem m P (prP (mon m) fun b => C (lc m (rem m P (b * f))) * nrm m (rem m P (b * f))) := rem_prP hM (fun b hb => (mem_mon.mp hb).1.pl.mul hf) (fun b hb => (pl_C _).mul ((((rem_ok hM ((mem_mon.mp hb).1.pl.mul hf)).1).C _).pl)) fun b hb => by
      have r := (rem_ok hM ((mem_mon.mp hb).1.pl.mul hf)).1
      rw [← nrm_eq r (free_ne fr hb), rem_lt hM r]
    have h2 : prP (mon m) (fun b : PS F => b * f) = prP (mon m) (fun b => b) * pw f (mon m : List (PS F)).length := prP_mul_pw (h := fun b => b)
    have h3 : prP (mon m) (fun b => C (lc m (rem m P (b * f))) * nrm m (rem m P (b * f))) = C (tau m P f) * prP (mon m) fun b => nrm m (rem m P (b * f)) := prP_C_mul
    have h4 := prP_map (h := fun b : PS F => b) (fun b => nrm m (rem m P (b * f))) (mon m)
    rw [prP_perm (free_perm hM hf fr)] at h4
    rw [h2, h3, ← h4] at h1
    have pB : Pl (prP (mon m) fun b : PS F => b) := prP_pl fun b hb => (mem_mon.mp hb).1.pl
    have nB : rem m P (prP (mon m) fun b : PS F => b) ≠ 0 := rem_prP_ne hP hm (fun b hb => (mem_mon.mp hb).1.pl) fun b hb => by
      rw [rem_lt hM (mem_mon.mp hb).1]
      intro z
      have h2 := (mem_mon.mp hb).2
      rw [z, lc_zero] at h2
      exact Fd.one_ne h2.symm
    have pF := pw_pl hf (mon m : List (PS F)).length
    have h5 : rem m P ((pw f (mon m : List (PS F)).length - C (tau m P f)) * prP (mon m) fun b : PS F => b) = 0 := by
      have e1 : (pw f (mon m : List (PS F)).length - C (tau m P f)) * (prP (mon m) fun b : PS F => b) = prP (mon m) (fun b => b) * pw f (mon m : List (PS F)).length + C (-1) * (C (tau m P f) * prP (mon m) fun b => b) := by
        rw [C_neg, C_one_]; grind
      rw [e1, rem_add hM (pB.mul pF) ((pl_C _).mul ((pl_C _).mul pB)), rem_C hM ((pl_C _).mul pB), h1, C_neg, C_one_]
      grind
    have h6 := prime_free hP pB nB (rem m P (pw f (mon m : List (PS F)).length - C (tau m P f))) (rem_ok hM (pF.sub (pl_C _))).1 (by rw [← rem_mul hM (pF.sub (pl_C _)) pB]; exact h5)
    have e3 : pw f (mon m : List (PS F)).length - C (tau m P f) = pw f (mon m : List (PS F)).length + C (-(tau m P f)) := by rw [C_neg]; grind
    rw [e3, rem_add hM pF (pl_C _), rem_lt hM ((lt_C (-(tau m P f))).mono hm), C_neg] at h6
    grind
theorem mon_count (m : Nat) : (qq F - 1) * (mon m : List (PS F)).length + 1 = qq F ^ m := by
  have hq : 1 ≤ qq F := by
    have := Fd.odd (F := F)
    show 1 ≤ (Fd.els : List F).length
    omega
  induction m with
  | zero => rw [mon_0]; simp
  | succ m ih =>
    rw [mon_len, Nat.pow_succ, ← ih]
    obtain ⟨r, hr⟩ := Nat.exists_eq_add_of_le hq
    have e : qq F - 1 = r := by omega
    rw [e, hr]
    have e2 : (1 + r) * (mon m : List (PS F)).length = (mon m : List (PS F)).length + r * (mon m : List (PS F)).length := by rw [Nat.add_mul, Nat.one_mul]
    rw [e2, Nat.add_mul, Nat.mul_add, Nat.mul_add]
    generalize r * (mon m : List (PS F)).length = z
    have e3 : z * (1 + r) = z + r * z := by rw [Nat.mul_add, Nat.mul_one, Nat.mul_comm z r]
    rw [e3]
    omega
end
end MA

namespace MA
open Lean.Grind
/-- a small field with its numbers -/
class Fq (F : Type) extends Fd F where
  p : Int
  val : F → Int
  of : Int → F
  of_val : ∀ a, of (val a) = a
  val_of : ∀ i, val (of i) = i % p
  of_add : ∀ i j, of (i + j) = of i + of j
  of_mul : ∀ i j, of (i * j) = of i * of j
  of_one : of 1 = 1
  p_len : (els.length : Int) = p
  p_357 : p = 3 ∨ p = 5 ∨ p = 7
def fval {n : Nat} (a : Fin n) : Int := (a.val : Int)
def fof {n : Nat} [NeZero n] (i : Int) : Fin n := ⟨(i % (n : Int)).toNat, by
  have : (0 : Int) < n := by have := NeZero.ne n; omega
  have h1 := Int.emod_nonneg i (show (n : Int) ≠ 0 by omega)
  have h2 := Int.emod_lt_of_pos i this
  omega⟩
section
variable {n : Nat} [NeZero n]
theorem npos : (0 : Int) < n := by have := NeZero.ne n; omega
theorem fof_val (a : Fin n) : fof (fval a) = a := by
  apply Fin.ext
  show ((a.val : Int) % (n : Int)).toNat = a.val
  have := a.isLt
  rw [Int.emod_eq_of_lt (by omega) (by omega)]
  rfl
theorem fval_fof (i : Int) : fval (fof (n := n) i) = i % (n : Int) := by
  show (((i % (n : Int)).toNat : Nat) : Int) = _
  exact Int.toNat_of_nonneg (Int.emod_nonneg i (by have := npos (n := n); omega))
theorem fof_add (i j : Int) : fof (n := n) (i + j) = fof i + fof j := by
  apply Fin.ext
  rw [Fin.val_add]
  show ((i + j) % (n : Int)).toNat = ((i % (n : Int)).toNat + (j % (n : Int)).toNat) % n
  have h := npos (n := n)
  have h1 := Int.emod_nonneg i (show (n : Int) ≠ 0 by omega)
  have h2 := Int.emod_nonneg j (show (n : Int) ≠ 0 by omega)
  rw [Int.add_emod]
  have : (i % (n : Int) + j % (n : Int)) = (((i % (n : Int)).toNat + (j % (n : Int)).toNat : Nat) : Int) := by omega
  rw [this]
  norm_cast
theorem fof_mul (i j : Int) : fof (n := n) (i * j) = fof i * fof j := by
  apply Fin.ext
  rw [Fin.val_mul]
  show ((i * j) % (n : Int)).toNat = ((i % (n : Int)).toNat * (j % (n : Int)).toNat) % n
  have h := npos (n := n)
  have h1 := Int.emod_nonneg i (show (n : Int) ≠ 0 by omega)
  have h2 := Int.emod_nonneg j (show (n : Int) ≠ 0 by omega)
  rw [Int.mul_emod]
  have : (i % (n : Int) * (j % (n : Int))) = (((i % (n : Int)).toNat * (j % (n : Int)).toNat : Nat) : Int) := by
    rw [Int.natCast_mul, Int.toNat_of_nonneg h1, Int.toNat_of_nonneg h2]
  rw [this]
  norm_cast
end
theorem wl {n : Nat} [NeZero n] (z : Fin n) (l : List (Fin n)) : (l.filter fun a => @decide (a ≠ z) (@instDecidableNot _ (Classical.propDecidable _))) = l.filter fun a => !(decide (a = z)) := by
  congr 1
  funext a
  by_cases h : a = z <;> simp [h]
instance : Fq (Fin 3) where
  inv a := a
  mul_inv := by decide
  one_ne := by decide
  els := [0, 1, 2]
  mem_els := by decide
  nd_els := by decide
  fermat := by decide
  odd := by decide
  wilson := (congrArg (List.foldr (· * ·) 1) (wl (0 : Fin 3) [0, 1, 2])).trans (show List.foldr (· * ·) (1 : Fin 3) (List.filter (fun a => !(decide (a = 0))) [0, 1, 2]) = -1 by decide)
  p := 3
  val := fval
  of := fof
  of_val := fof_val
  val_of := fval_fof
  of_add := fof_add
  of_mul := fof_mul
  of_one := by decide
  p_len := rfl
  p_357 := .inl rfl
instance : Fq (Fin 5) where
  inv a := a * a * a
  mul_inv := by decide
  one_ne := by decide
  els := [0, 1, 2, 3, 4]
  mem_els := by decide
  nd_els := by decide
  fermat := by decide
  odd := by decide
  wilson := (congrArg (List.foldr (· * ·) 1) (wl (0 : Fin 5) [0, 1, 2, 3, 4])).trans (show List.foldr (· * ·) (1 : Fin 5) (List.filter (fun a => !(decide (a = 0))) [0, 1, 2, 3, 4]) = -1 by decide)
  p := 5
  val := fval
  of := fof
  of_val := fof_val
  val_of := fval_fof
  of_add := fof_add
  of_mul := fof_mul
  of_one := by decide
  p_len := rfl
  p_357 := .inr (.inl rfl)
instance : Fq (Fin 7) where
  inv a := a * a * a * a * a
  mul_inv := by decide
  one_ne := by decide
  els := [0, 1, 2, 3, 4, 5, 6]
  mem_els := by decide
  nd_els := by decide
  fermat := by decide
  odd := by decide
  wilson := (congrArg (List.foldr (· * ·) 1) (wl (0 : Fin 7) [0, 1, 2, 3, 4, 5, 6])).trans (show List.foldr (· * ·) (1 : Fin 7) (List.filter (fun a => !(decide (a = 0))) [0, 1, 2, 3, 4, 5, 6]) = -1 by decide)
  p := 7
  val := fval
  of := fof
  of_val := fof_val
  val_of := fval_fof
  of_add := fof_add
  of_mul := fof_mul
  of_one := by decide
  p_len := rfl
  p_357 := .inr (.inr rfl)
end MA

namespace MA
open Lean.Grind
open Classical
section
variable {F : Type} [Fq F]
variable (F) in
def pp : Int := Fq.p F
theorem val_of' (i : Int) : Fq.val (Fq.of i : F) = i % pp F := Fq.val_of i
theorem pp_357 : pp F = 3 ∨ pp F = 5 ∨ pp F = 7 := by
  rcases Fq.p_357 (F := F) with h | h | h <;> (unfold pp; rw [h]; simp)
theorem pp_pos : 0 < pp F := by rcases pp_357 (F := F) with h | h | h <;> omega
abbrev of (i : Int) : F := Fq.of i
theorem of_add (i j : Int) : (of (i + j) : F) = of i + of j := Fq.of_add i j
theorem of_mul (i j : Int) : (of (i * j) : F) = of i * of j := Fq.of_mul i j
theorem of_one : (of 1 : F) = 1 := Fq.of_one
theorem of_zero : (of 0 : F) = 0 := by
  have h := of_add (F := F) 0 0
  have e : (0 : Int) + 0 = 0 := rfl
  rw [e] at h
  grind
theorem of_neg (i : Int) : (of (-i) : F) = - of i := by
  have h := of_add (F := F) i (-i)
  have e : i + -i = 0 := by omega
  rw [e, of_zero] at h
  grind
theorem of_sub (i j : Int) : (of (i - j) : F) = of i - of j := by
  rw [Int.sub_eq_add_neg, of_add, of_neg]; grind
theorem of_mod (i : Int) : (of (i % pp F) : F) = of i := by
  have h := Fq.of_val (Fq.of i : F)
  rw [val_of'] at h
  exact h
theorem of_inj {i j : Int} (h : (of i : F) = of j) : i % pp F = j % pp F := by
  have := congrArg Fq.val h
  rwa [val_of', val_of'] at this
theorem of_inj' {i j : Int} (hi : 0 ≤ i ∧ i < pp F) (hj : 0 ≤ j ∧ j < pp F) (h : (of i : F) = of j) : i = j := by
  have := of_inj h
  rwa [Int.emod_eq_of_lt hi.1 hi.2, Int.emod_eq_of_lt hj.1 hj.2] at this
theorem of_ne {i : Int} (hi : 0 ≤ i ∧ i < pp F) (hz : i ≠ 0) : (of i : F) ≠ 0 := fun h => by
  rw [← of_zero] at h
  exact hz (of_inj' hi ⟨Int.le_refl _, pp_pos⟩ h)
theorem of_surj (a : F) : ∃ i, 0 ≤ i ∧ i < pp F ∧ of i = a := by
  refine ⟨Fq.val a % pp F, Int.emod_nonneg _ (by have := pp_pos (F := F); omega), Int.emod_lt_of_pos _ pp_pos, ?_⟩
  rw [of_mod]; exact Fq.of_val a
theorem val_rng (a : F) : 0 ≤ Fq.val a ∧ Fq.val a < pp F := by
  obtain ⟨i, h1, h2, h3⟩ := of_surj a
  rw [← h3, val_of', Int.emod_eq_of_lt h1 h2]
  exact ⟨h1, h2⟩
theorem getD_far {l : List Int} {k : Nat} (h : l.length ≤ k) : l.getD k 0 = 0 := by
  rw [List.getD_eq_getElem?_getD, List.getElem?_eq_none h]; rfl
theorem getD_at {l : List Int} {k : Nat} (h : k < l.length) : l.getD k 0 = l[k] := by
  rw [List.getD_eq_getElem?_getD, List.getElem?_eq_getElem h]; rfl
/-! ### lists as polynomials -/
def ps (l : List Int) : PS F := fun k => of (l.getD k 0)
theorem ps_at (l : List Int) (k : Nat) : (ps l : PS F) k = of (l.getD k 0) := rfl
theorem ps_lt (l : List Int) : Lt l.length (ps l : PS F) := fun k hk => by
  rw [ps_at, getD_far hk, of_zero]
theorem ps_nil : (ps [] : PS F) = 0 := PS.ext fun k => by rw [ps_at, zero_at]; exact of_zero
theorem ps_one : (ps [1] : PS F) = 1 := PS.ext fun k => by
  cases k with
  | zero => exact of_one
  | succ k => exact of_zero
theorem ps_C (c : Int) : (ps [c] : PS F) = C (of c) := PS.ext fun k => by
  cases k with
  | zero => rfl
  | succ k => exact of_zero
variable (F) in
def Rg (l : List Int) : Prop := ∀ x ∈ l, 0 ≤ x ∧ x < pp F
variable (F) in
def Nm (l : List Int) : Prop := Rg F l ∧ l.getLast? ≠ some 0
def Rep (l : List Int) (f : PS F) : Prop := Nm F l ∧ ps l = f
variable {l l' : List Int} {f g : PS F} {n m k : Nat}
theorem ps_C_mul (c : F) (k : Nat) (f : PS F) : (C c * f) k = c * f k := C_mul_at k c f
theorem ps_map_mod (l : List Int) : (ps (l.map fun x => x % pp F) : PS F) = ps l := PS.ext fun k => by
  rw [ps_at, ps_at, List.getD_eq_getElem?_getD, List.getD_eq_getElem?_getD, List.getElem?_map]
  cases l[k]? with
  | none => rfl
  | some x => exact of_mod x
theorem ps_map_mul (l : List Int) (c : Int) : (ps (l.map fun x => x * c) : PS F) = C (of c) * ps l := PS.ext fun k => by
  rw [ps_C_mul, ps_at, ps_at, List.getD_eq_getElem?_getD, List.getD_eq_getElem?_getD, List.getElem?_map]
  cases l[k]? with
  | none => show (of 0 : F) = of c * of 0; rw [of_zero]; grind
  | some x => show (of (x * c) : F) = of c * of x; rw [of_mul]; grind
theorem ps_set (hk : k < l.length) (x : Int) : (ps (l.set k x) : PS F) = ps l + C (of x - of (l.getD k 0)) * sh k 1 := PS.ext fun j => by
  rw [add_at, ps_C_mul, sh_at, ps_at, ps_at, List.getD_eq_getElem?_getD, List.getElem?_set]
  by_cases e : k = j
  · subst e
    rw [if_pos rfl, if_pos hk, if_neg (by omega), Nat.sub_self]
    show (of x : F) = of (l.getD k 0) + (of x - of (l.getD k 0)) * 1
    grind
  · rw [if_neg e, ← List.getD_eq_getElem?_getD]
    by_cases q : j < k
    · rw [if_pos q]; grind
    · rw [if_neg q, one_eq, C_at, if_neg (by omega)]; grind
theorem sh_zero (k : Nat) : sh k (0 : PS F) = 0 := PS.ext fun j => by
  rw [sh_at, zero_at, zero_at]
  split <;> rfl
theorem ps_take_succ (hk : k < l.length) : (ps (l.take (k + 1)) : PS F) = ps (l.take k) + C (of (l.getD k 0)) * sh k 1 := PS.ext fun j => by
  rw [add_at, ps_C_mul, sh_at, ps_at, ps_at, List.getD_eq_getElem?_getD, List.getD_eq_getElem?_getD, List.getElem?_take, List.getElem?_take]
  by_cases e : j < k
  · rw [if_pos (by omega), if_pos e, if_pos e]; grind
  · rw [if_neg e, if_neg e]
    by_cases q : j = k
    · subst q
      rw [if_pos (by omega), Nat.sub_self, ← List.getD_eq_getElem?_getD]
      show (of (l.getD j 0) : F) = of 0 + of (l.getD j 0) * 1
      rw [of_zero]; grind
    · rw [if_neg (by omega), one_eq, C_at, if_neg (by omega)]
      show (of 0 : F) = of 0 + _
      grind
theorem ps_take_0 : (ps (l.take 0) : PS F) = 0 := by rw [List.take_zero]; exact ps_nil
theorem ps_take_all (h : l.length ≤ n) : (ps (l.take n) : PS F) = ps l := by rw [List.take_of_length_le h]
theorem ps_zeros (n : Nat) : (ps (List.replicate n 0) : PS F) = 0 := PS.ext fun k => by
  rw [ps_at, zero_at, List.getD_eq_getElem?_getD, List.getElem?_replicate]
  split <;> exact of_zero
theorem ps_shift (n : Nat) (l : List Int) : (ps (List.replicate n 0 ++ l) : PS F) = sh n (ps l) := PS.ext fun k => by
  rw [ps_at, sh_at, List.getD_eq_getElem?_getD, List.getElem?_append, List.length_replicate]
  split
  · rename_i h
    rw [List.getElem?_replicate, if_pos h]; exact of_zero
  · rw [← List.getD_eq_getElem?_getD, ps_at]
theorem ps_append (l l' : List Int) : (ps (l ++ l') : PS F) = ps l + sh l.length (ps l') := PS.ext fun k => by
  rw [add_at, ps_at, sh_at, ps_at, List.getD_eq_getElem?_getD, List.getElem?_append]
  split
  · rename_i h
    rw [← List.getD_eq_getElem?_getD]; grind
  · rename_i h
    rw [← List.getD_eq_getElem?_getD, ps_at, getD_far (l := l) (by omega), of_zero]; grind
theorem ps_pad (l : List Int) (n : Nat) : (ps (l ++ List.replicate n 0) : PS F) = ps l := by
  rw [ps_append, ps_zeros, sh_zero]; grind
/-! ### trimmed -/
def dropz (l : List Int) : List Int := (l.reverse.dropWhile fun x => x == 0).reverse
theorem dropz_pad (l : List Int) : ∃ n, l = dropz l ++ List.replicate n 0 := by
  have h : ∀ m : List Int, ∃ n, m = List.replicate n 0 ++ m.dropWhile fun x => x == 0 := fun m => by
    induction m with
    | nil => exact ⟨0, rfl⟩
    | cons x m ih =>
      obtain ⟨n, hn⟩ := ih
      rw [List.dropWhile_cons]
      split
      · rename_i hx
        have : x = 0 := by simpa using hx
        refine ⟨n + 1, ?_⟩
        rw [List.replicate_succ, List.cons_append, ← hn, this]
      · exact ⟨0, rfl⟩
  obtain ⟨n, hn⟩ := h l.reverse
  refine ⟨n, ?_⟩
  have := congrArg List.reverse hn
  rw [List.reverse_reverse, List.reverse_append, List.reverse_replicate] at this
  exact this
theorem dropz_last (l : List Int) : (dropz l).getLast? ≠ some 0 := by
  have h : ∀ m : List Int, (m.dropWhile fun x => x == 0).head? ≠ some 0 := fun m => by
    induction m with
    | nil => simp
    | cons x m ih =>
      rw [List.dropWhile_cons]
      split
      · exact ih
      · rename_i hx
        intro e
        apply hx
        have : x = 0 := by simpa using e
        rw [this]; rfl
  unfold dropz
  rw [List.getLast?_reverse]
  exact h _
theorem dropz_fix (h : l.getLast? ≠ some 0) : dropz l = l := by
  unfold dropz
  have : (l.reverse.dropWhile fun x => x == 0) = l.reverse := by
    cases e : l.reverse with
    | nil => rfl
    | cons x m =>
      rw [List.dropWhile_cons, if_neg]
      intro hx
      apply h
      have hx' : x = 0 := by simpa using hx
      rw [← List.head?_reverse, e, hx']; rfl
  rw [this, List.reverse_reverse]
theorem dropz_snoc (l : List Int) : dropz (l ++ [0]) = dropz l := by
  unfold dropz
  rw [List.reverse_append]
  rfl
theorem mem_dropz {x : Int} (h : x ∈ dropz l) : x ∈ l := by
  obtain ⟨n, hn⟩ := dropz_pad l
  rw [hn]; exact List.mem_append_left _ h
theorem dropz_len : (dropz l).length ≤ l.length := by
  obtain ⟨n, hn⟩ := dropz_pad l
  have := congrArg List.length hn
  rw [List.length_append] at this
  omega
theorem ps_dropz (l : List Int) : (ps (dropz l) : PS F) = ps l := by
  obtain ⟨n, hn⟩ := dropz_pad l
  have h := ps_pad (F := F) (dropz l) n
  rw [← hn] at h
  exact h.symm
def trimI (p : Int) (l : List Int) : List Int := dropz (l.map fun x => x % p)
theorem rg_mod (l : List Int) : Rg F (l.map fun x => x % pp F) := fun x hx => by
  obtain ⟨y, _, e⟩ := List.mem_map.mp hx
  rw [← e]
  exact ⟨Int.emod_nonneg _ (by have := pp_pos (F := F); omega), Int.emod_lt_of_pos _ pp_pos⟩
theorem rep_trim (l : List Int) : Rep (trimI (pp F) l) (ps l : PS F) :=
  ⟨⟨fun x hx => rg_mod l x (mem_dropz hx), dropz_last _⟩, by rw [trimI, ps_dropz, ps_map_mod]⟩
/-! ### what stands for what -/
theorem getLast_getD {k' : Int} (h : l.getLast? = some k') : l.getD (l.length - 1) 0 = k' := by
  rw [List.getLast?_eq_getElem?] at h
  rw [List.getD_eq_getElem?_getD, h]; rfl
theorem rep_top (r : Rep l f) (hl : l ≠ []) : ∃ x, l.getLast? = some x ∧ 0 < x ∧ x < pp F ∧ f (l.length - 1) = of x ∧ f (l.length - 1) ≠ 0 ∧ Lt (l.length - 1 + 1) f := by
  have hpos := List.length_pos_iff.mpr hl
  cases e : l.getLast? with
  | none => exact (hl (List.getLast?_eq_none_iff.mp e)).elim
  | some x =>
    have hx := r.1.1 x (List.mem_of_getLast? e)
    have hz : x ≠ 0 := fun z => r.1.2 (by rw [e, z])
    have h1 : f (l.length - 1) = of x := by rw [← r.2, ps_at, getLast_getD e]
    refine ⟨x, rfl, by omega, hx.2, h1, by rw [h1]; exact of_ne hx hz, ?_⟩
    have : l.length - 1 + 1 = l.length := by omega
    rw [this, ← r.2]; exact ps_lt l
theorem rep_lt (r : Rep l f) : Lt l.length f := by rw [← r.2]; exact ps_lt l
theorem rep_pl (r : Rep l f) : Pl f := ⟨_, rep_lt r⟩
theorem rep_len (r : Rep l f) (h : Lt n f) : l.length ≤ n := by
  by_cases e : l = []
  · rw [e]; simp
  · obtain ⟨x, _, _, _, _, h5, _⟩ := rep_top r e
    have hpos := List.length_pos_iff.mpr e
    by_cases q : l.length ≤ n
    · exact q
    · exact (h5 (h _ (by omega))).elim
theorem rep_uniq (r : Rep l f) (r' : Rep l' f) : l = l' := by
  have h1 := rep_len r (rep_lt r')
  have h2 := rep_len r' (rep_lt r)
  refine List.ext_getElem (by omega) fun i hi hi' => ?_
  have e : (ps l : PS F) i = (ps l' : PS F) i := by rw [r.2, r'.2]
  rw [ps_at, ps_at, getD_at hi, getD_at hi'] at e
  exact of_inj' (r.1.1 _ (List.getElem_mem hi)) (r'.1.1 _ (List.getElem_mem hi')) e
theorem rep_nil : Rep [] (0 : PS F) := ⟨⟨fun x hx => (by cases hx), by simp⟩, ps_nil⟩
theorem rep_one : Rep [1] (1 : PS F) := ⟨⟨fun x hx => by
  rw [List.mem_singleton.mp hx]
  have := pp_357 (F := F)
  omega, by simp⟩, ps_one⟩
theorem rep_nil_iff (r : Rep l f) : l = [] ↔ f = 0 := ⟨fun e => by rw [← r.2, e, ps_nil], fun e => by subst e; exact rep_uniq r rep_nil⟩
theorem rep_one_iff (r : Rep l f) : l = [1] ↔ f = 1 := ⟨fun e => by rw [← r.2, e, ps_one], fun e => by subst e; exact rep_uniq r rep_one⟩
theorem rep_lc (r : Rep l f) {x : Int} (h : l.getLast? = some x) (hn : l.length ≤ n) : lc n f = of x := by
  have hl : l ≠ [] := fun e => by rw [e] at h; cases h
  have hpos := List.length_pos_iff.mpr hl
  obtain ⟨y, h1, _, _, h4, h5, h6⟩ := rep_top r hl
  rw [h] at h1; cases h1
  rw [lc_top (j := l.length - 1) (by omega) h5 h6, h4]
theorem rep_mon (r : Rep l f) (h : l.getLast? = some 1) : Mon (l.length - 1) f := by
  have hl : l ≠ [] := fun e => by rw [e] at h; cases h
  obtain ⟨y, h1, _, _, h4, h5, h6⟩ := rep_top r hl
  rw [h] at h1; cases h1
  exact ⟨h6, by rw [h4, of_one]⟩
theorem rep_of_mon (r : Rep l f) (h : Mon m f) : l.getLast? = some 1 ∧ l.length = m + 1 := by
  have h1 := rep_len r h.1
  have hl : l ≠ [] := fun e => by
    have := (rep_nil_iff r).mp e
    have h2 := h.2
    rw [this, zero_at] at h2
    exact Fd.one_ne h2.symm
  obtain ⟨x, k1, k2, k3, k4, k5, k6⟩ := rep_top r hl
  have hpos := List.length_pos_iff.mpr hl
  have h2 : l.length = m + 1 := by
    by_cases q : l.length = m + 1
    · exact q
    · have := k6 m (by omega)
      rw [h.2] at this
      exact (Fd.one_ne this).elim
  refine ⟨?_, h2⟩
  have e : l.length - 1 = m := by omega
  rw [e, h.2, ← of_one] at k4
  have := of_inj' (F := F) (i := 1) (j := x) (by have := pp_357 (F := F); omega) ⟨by omega, k3⟩ k4
  rw [k1, this]
theorem exists_rep (f : PS F) (h : Lt n f) : ∃ l, Rep l f ∧ l.length ≤ n := by
  let l := (List.range n).map fun k => Fq.val (f k)
  have e : ps l = f := PS.ext fun k => by
    rw [ps_at, List.getD_eq_getElem?_getD, List.getElem?_map]
    by_cases q : k < n
    · rw [List.getElem?_range q]; exact Fq.of_val (f k)
    · rw [List.getElem?_eq_none (by simp; omega), h k (by omega)]; exact of_zero
  have r := rep_trim (F := F) l
  rw [e] at r
  exact ⟨_, r, rep_len r h⟩
end
end MA

namespace BR
open PySem PySem.Spec PyProof.Rows L2 QL
def nums (l : List Int) : List PyData := l.map .int
abbrev L (l : List Int) : PyData := .list (nums l)
section
variable {l m : List Int} {x : Int} {k : Nat}
@[simp] theorem nums_len : (nums l).length = l.length := List.length_map ..
@[simp] theorem nums_app : nums l ++ nums m = nums (l ++ m) := by unfold nums; simp
@[simp] theorem nums_snoc : nums l ++ [.int x] = nums (l ++ [x]) := by unfold nums; simp
@[simp] theorem nums_set : (nums l).set k (.int x) = nums (l.set k x) := by unfold nums; rw [List.map_set]
@[simp] theorem nums_get : (nums l)[k]? = (l[k]?).map .int := by unfold nums; rw [List.getElem?_map]
@[simp] theorem nums_dl : (nums l).dropLast = nums l.dropLast := by unfold nums; simp
@[simp] theorem nums_emp : (nums l).isEmpty = l.isEmpty := by unfold nums; cases l <;> rfl
theorem nums_rep : List.replicate k (.int x) = nums (List.replicate k x) := by unfold nums; simp
theorem nums_map {α : Type} {f : α → Int} {l : List α} : l.map (fun x => PyData.int (f x)) = nums (l.map f) := by unfold nums; rw [List.map_map]; rfl
theorem nums_nil : nums [] = [] := rfl
theorem nums_cons : nums (x :: l) = .int x :: nums l := rfl
end
section
variable {a b c f : EF} {t t' : TF} {o o' : OF} {u w : SF} {i j k : Nat} {sl : Sl} {G : GS} {d x y : PyData} {op : PyData → PyData → Option PyData} {op1 : PyData → Option PyData} {g : TgF}
@[simp] theorem eC_s : eC d sl G = some (d, G) := Eq.trans rfl rfl
@[simp] theorem eV_s : eV i sl G = match sl[i]? with
  | some (.val d) => some (d, G)
  | _ => none := Eq.trans rfl rfl
@[simp] theorem bV_s : bV i sl G = match sl[i]? with
  | some (.val d) => some (d, G)
  | some (.own ds) => some (.list ds, G)
  | _ => none := Eq.trans rfl rfl
@[simp] theorem wV_s : wV i sl G = match sl[i]? with
  | some (.val d) => some (d, G)
  | some (.own ds) => some (.list ds, G)
  | some (.scr ns) => some (.list (ns.map .int), G)
  | _ => none := Eq.trans rfl rfl
@[simp] theorem e2_s : e2 op a b sl G = match a sl G with
  | some (x, G1) => (match b sl G1 with
    | some (y, G2) => (match op x y with
      | some z => some (z, G2)
      | none => none)
    | none => none)
  | none => none := Eq.trans rfl rfl
@[simp] theorem e1_s : e1 op1 a sl G = match a sl G with
  | some (x, G1) => (match op1 x with
    | some y => some (y, G1)
    | none => none)
  | none => none := Eq.trans rfl rfl
@[simp] theorem eO_s : eO o sl G = match o sl G with
  | some (ds, G') => some (.list ds, G')
  | none => none := Eq.trans rfl rfl
@[simp] theorem bE_s : bE f sl G = match f sl G with
  | some (.bool b, G') => some (b, G')
  | _ => none := Eq.trans rfl rfl
@[simp] theorem tAndF_s : tAndF t t' sl G = match t sl G with
  | some (true, G1) => t' sl G1
  | some (false, G1) => some (false, G1)
  | none => none := Eq.trans rfl rfl
@[simp] theorem tOrF_s : tOrF t t' sl G = match t sl G with
  | some (true, G1) => some (true, G1)
  | some (false, G1) => t' sl G1
  | none => none := Eq.trans rfl rfl
@[simp] theorem tNotF_s : tNotF t sl G = match t sl G with
  | some (b, G1) => some (!b, G1)
  | none => none := Eq.trans rfl rfl
@[simp] theorem tTrue_s : tTrue sl G = some (true, G) := Eq.trans rfl rfl
@[simp] theorem eAnd_s : eAnd a b sl G = match a sl G with
  | some (.bool true, G1) => b sl G1
  | some (.bool false, G1) => some (.bool false, G1)
  | _ => none := Eq.trans rfl rfl
@[simp] theorem eOr_s : eOr a b sl G = match a sl G with
  | some (.bool true, G1) => some (.bool true, G1)
  | some (.bool false, G1) => b sl G1
  | _ => none := Eq.trans rfl rfl
@[simp] theorem eNot_s : eNot a sl G = match a sl G with
  | some (.bool b, G1) => some (.bool (!b), G1)
  | _ => none := Eq.trans rfl rfl
@[simp] theorem eIf_s : eIf t a b sl G = match t sl G with
  | some (true, G1) => a sl G1
  | some (false, G1) => b sl G1
  | none => none := Eq.trans rfl rfl
@[simp] theorem eNeg_s : eNeg a sl G = match a sl G with
  | some (.int i, G1) => some (.int (-i), G1)
  | _ => none := Eq.trans rfl rfl
@[simp] theorem aNil_s : aNil sl G = some ([], G) := Eq.trans rfl rfl
@[simp] theorem aCons_s : aCons f o sl G = match f sl G with
  | some (d, G1) => (match o sl G1 with
    | some (ds, G2) => some (d :: ds, G2)
    | none => none)
  | none => none := Eq.trans rfl rfl
@[simp] theorem oLst_s : oLst o sl G = match o sl G with
  | some (ds, G') => if ds.length ≤ 16777216 then some (ds, G') else none
  | none => none := Eq.trans rfl rfl
@[simp] theorem eTup_s : eTup o sl G = match o sl G with
  | some (ds, G') => if ds.length ≤ 16777216 then some (.tuple ds, G') else none
  | none => none := Eq.trans rfl rfl
@[simp] theorem eCall_s {F : DF} : eCall F o sl G = match o sl G with
  | some (ds, G1) => (match F ds with
    | some r => some (r.d, G1)
    | none => none)
  | none => none := Eq.trans rfl rfl
@[simp] theorem oCall_s {F : DF} : oCall F o sl G = match o sl G with
  | some (ds, G1) => (match F ds with
    | some (.own zs) => some (zs, G1)
    | _ => none)
  | none => none := Eq.trans rfl rfl
@[simp] theorem eCallG_s {F : GF} : eCallG i F o sl G = match sl[i]? with
  | some .gen => (match o sl G with
    | some (ds, G1) => (match F ds G1 with
      | some (r, G2) => some (r.d, G2)
      | none => none)
    | none => none)
  | _ => none := Eq.trans rfl rfl
@[simp] theorem eCallN_s {F : GF} : eCallN F o sl G = match o sl G with
  | some (zs, G1) => (match F [] zs with
    | some (r, _) => some (r.d, G1)
    | none => none)
  | none => none := Eq.trans rfl rfl
@[simp] theorem eCallS_s {F : SDF} : eCallS i F o sl G = match sl[i]? with
  | some (.scr ns) => (match o sl G with
    | some (ds, G1) => (match F ns ds with
      | some r => some (r.d, G1)
      | none => none)
    | none => none)
  | _ => none := Eq.trans rfl rfl
@[simp] theorem oCallS_s {F : SDF} : oCallS i F o sl G = match sl[i]? with
  | some (.scr ns) => (match o sl G with
    | some (ds, G1) => (match F ns ds with
      | some (.own zs) => some (zs, G1)
      | _ => none)
    | none => none)
  | _ => none := Eq.trans rfl rfl
@[simp] theorem oList_s : oList f sl G = match f sl G with
  | some (.list ds, G1) => some (ds, G1)
  | some (.tuple ds, G1) => some (ds, G1)
  | _ => none := Eq.trans rfl rfl
@[simp] theorem oBin_s : oBin op a b sl G = match a sl G with
  | some (x, G1) => (match b sl G1 with
    | some (y, G2) => (match op x y with
      | some (.list ds) => some (ds, G2)
      | _ => none)
    | none => none)
  | none => none := Eq.trans rfl rfl
@[simp] theorem eM2_s {m : Int → Int → Int} : eM2 m o sl G = match o sl G with
  | some ([.int i, .int j], G1) => some (.int (m i j), G1)
  | _ => none := Eq.trans rfl rfl
@[simp] theorem iL_s : iL f sl G = match f sl G with
  | some (.list ds, G1) => some (ds, G1)
  | _ => none := Eq.trans rfl rfl
@[simp] theorem iR1_s : iR1 o sl G = match o sl G with
  | some ([.int n], G1) => if okR n = true then some (rngD 0 n.toNat, G1) else none
  | _ => none := Eq.trans rfl rfl
@[simp] theorem iR2_s : iR2 o sl G = match o sl G with
  | some ([.int i, .int j], G1) => if (okR i && okR j) = true then some (rngD i (j - i).toNat, G1) else none
  | _ => none := Eq.trans rfl rfl
@[simp] theorem iR3_s : iR3 o sl G = match o sl G with
  | some ([.int i, .int j, .int k], G1) => if (decide (k = -1) && (okR i && okR j)) = true then some (rngDn i (i - j).toNat, G1) else none
  | _ => none := Eq.trans rfl rfl
@[simp] theorem iEn_s : iEn o sl G = match o sl G with
  | some ([.list ds], G1) => some (enumD 0 ds, G1)
  | _ => none := Eq.trans rfl rfl
@[simp] theorem gN_s : gN i d sl = some (sl.set i (.val d)) := Eq.trans rfl rfl
@[simp] theorem gsSet_nil : gsSet [] [] sl = some sl := Eq.trans rfl rfl
@[simp] theorem gsSet_cons {gs : List TgF} {ds : List PyData} : gsSet (g :: gs) (d :: ds) sl = match g d sl with
    | some sl1 => gsSet gs ds sl1
    | none => none := Eq.trans rfl rfl
@[simp] theorem gT_s {gs : List TgF} {ds : List PyData} : gT gs (.tuple ds) sl = gsSet gs ds sl := Eq.trans rfl rfl
@[simp] theorem wipe0 : wipeS sl [] = sl := Eq.trans rfl rfl
@[simp] theorem wipe1 {v : Nat} {vs : List Nat} : wipeS sl (v :: vs) = (wipeS sl vs).set v .no := Eq.trans rfl rfl
@[simp] theorem oLc_s {vs : List Nat} : oLc o g t f vs sl G = match o sl G with
  | some (ds, G1) => if ds.length ≤ 16777215 then lcL g t f (wipeS sl vs) ds [] G1 else none
  | none => none := Eq.trans rfl rfl
@[simp] theorem sNil_s : sNil sl G = some (.nx, sl, G) := Eq.trans rfl rfl
@[simp] theorem sSeq_s : sSeq u w sl G = match u sl G with
  | some (.nx, sl1, G1) => w sl1 G1
  | r => r := Eq.trans rfl rfl
@[simp] theorem sBrk_s : sBrk sl G = some (.bk, sl, G) := Eq.trans rfl rfl
@[simp] theorem sCnt_s : sCnt sl G = some (.ct, sl, G) := Eq.trans rfl rfl
@[simp] theorem sFrz_s : sFrz i u sl G = match sl[i]? with
  | some (.own ds) => u (sl.set i (.val (.list ds))) G
  | _ => none := Eq.trans rfl rfl
@[simp] theorem sSet_s : sSet i f sl G = match f sl G with
  | some (d, G') => some (.nx, sl.set i (.val d), G')
  | none => none := Eq.trans rfl rfl
@[simp] theorem sO_s : sO i o sl G = match o sl G with
  | some (ds, G') => some (.nx, sl.set i (.val (.list ds)), G')
  | none => none := Eq.trans rfl rfl
@[simp] theorem sOwn_s : sOwn i o sl G = match o sl G with
  | some (ds, G') => some (.nx, sl.set i (.own ds), G')
  | none => none := Eq.trans rfl rfl
@[simp] theorem sTg_s : sTg g f sl G = match f sl G with
  | some (d, G') => (match g d sl with
    | some sl' => some (.nx, sl', G')
    | none => none)
  | none => none := Eq.trans rfl rfl
@[simp] theorem mNil_s : mNil sl G = some ([], G) := Eq.trans rfl rfl
@[simp] theorem mVal_s {r : MF} : mVal f r sl G = match f sl G with
  | some (d, G1) => (match r sl G1 with
    | some (ds, G2) => some ((false, d) :: ds, G2)
    | none => none)
  | none => none := Eq.trans rfl rfl
@[simp] theorem mOwn_s {r : MF} : mOwn o r sl G = match o sl G with
  | some (zs, G1) => (match r sl G1 with
    | some (ds, G2) => some ((true, .list zs) :: ds, G2)
    | none => none)
  | none => none := Eq.trans rfl rfl
@[simp] theorem parSet_nil : parSet [] [] sl = some sl := Eq.trans rfl rfl
@[simp] theorem parSet_val {is : List Nat} {ds : List (Bool × PyData)} : parSet (i :: is) ((false, d) :: ds) sl = parSet is ds (sl.set i (.val d)) := Eq.trans rfl rfl
@[simp] theorem parSet_own {is : List Nat} {zs : List PyData} {ds : List (Bool × PyData)} : parSet (i :: is) ((true, .list zs) :: ds) sl = parSet is ds (sl.set i (.own zs)) := Eq.trans rfl rfl
@[simp] theorem sPar_s {is : List Nat} {m : MF} : sPar is m sl G = match m sl G with
  | some (ds, G') => (match parSet is ds sl with
    | some sl' => some (.nx, sl', G')
    | none => none)
  | none => none := Eq.trans rfl rfl
@[simp] theorem sIx_s : sIx i a b sl G = match b sl G with
  | some (d, G1) => (match a sl G1 with
    | some (.int k, G2) => (match sl[i]? with
      | some (.own ds) => (match ixN ds.length k with
        | some j => some (.nx, sl.set i (.own (ds.set j d)), G2)
        | none => none)
      | _ => none)
    | _ => none)
  | none => none := Eq.trans rfl rfl
@[simp] theorem sGs_s : sGs i a b sl G = match b sl G with
  | some (d, G1) => (match a sl G1 with
    | some (.int k, G2) => (match sl[i]? with
      | some .gen => (match ixN G2.length k with
        | some j => some (.nx, sl, G2.set j d)
        | none => none)
      | _ => none)
    | _ => none)
  | none => none := Eq.trans rfl rfl
@[simp] theorem eG_s : eG i a sl G = match sl[i]? with
  | some .gen => (match a sl G with
    | some (.int k, G2) => (match atI G2 k with
      | some d => some (d, G2)
      | none => none)
    | _ => none)
  | _ => none := Eq.trans rfl rfl
@[simp] theorem sApp_s : sApp i a sl G = match a sl G with
  | some (d, G1) => (match sl[i]? with
    | some (.own ds) => if ds.length ≤ 16777215 then some (.nx, sl.set i (.own (ds ++ [d])), G1) else none
    | _ => none)
  | none => none := Eq.trans rfl rfl
@[simp] theorem sPop_s : sPop i sl G = match sl[i]? with
  | some (.own ds) => if ds.isEmpty = true then none else some (.nx, sl.set i (.own ds.dropLast), G)
  | _ => none := Eq.trans rfl rfl
@[simp] theorem sDrop_s : sDrop f sl G = match f sl G with
  | some (_, G') => some (.nx, sl, G')
  | none => none := Eq.trans rfl rfl
@[simp] theorem sRet_s : sRet f sl G = match f sl G with
  | some (d, G') => some (.rt d, sl, G')
  | none => none := Eq.trans rfl rfl
@[simp] theorem sRetO_s : sRetO o sl G = match o sl G with
  | some (ds, G') => some (.ro ds, sl, G')
  | none => none := Eq.trans rfl rfl
@[simp] theorem sRetN_s : sRetN sl G = some (.rt .none, sl, G) := Eq.trans rfl rfl
@[simp] theorem sRetV_s : sRetV i sl G = match sl[i]? with
  | some (.own ds) => some (.ro ds, sl, G)
  | _ => none := Eq.trans rfl rfl
@[simp] theorem sIf_s : sIf t u w sl G = match t sl G with
  | some (true, G1) => u sl G1
  | some (false, G1) => w sl G1
  | none => none := Eq.trans rfl rfl
@[simp] theorem sFor_s : sFor o g u sl G = match o sl G with
  | some (ds, G1) => sForL g u ds sl G1
  | none => none := Eq.trans rfl rfl
@[simp] theorem endF_nx : endF (some (.nx, sl, G)) = some (.val .none, G) := Eq.trans rfl rfl
@[simp] theorem endF_rt : endF (some (.rt d, sl, G)) = some (.val d, G) := Eq.trans rfl rfl
@[simp] theorem endF_ro {ds : List PyData} : endF (some (.ro ds, sl, G)) = some (.own ds, G) := Eq.trans rfl rfl
@[simp] theorem rv_val : (RV.val d).d = d := Eq.trans rfl rfl
@[simp] theorem rv_own {ds : List PyData} : (RV.own ds).d = .list ds := Eq.trans rfl rfl
@[simp] theorem pNo_s : pNo sl G = some (none, G) := Eq.trans rfl rfl
@[simp] theorem pSo_s : pSo f sl G = match f sl G with
  | some (.int i, G') => some (some i, G')
  | _ => none := Eq.trans rfl rfl
@[simp] theorem oSl_s {l h : PF} : oSl f l h sl G = match f sl G with
  | some (.list ds, G1) => (match l sl G1 with
    | some (i, G2) => (match h sl G2 with
      | some (j, G3) => some (cutD ds i j, G3)
      | none => none)
    | none => none)
  | _ => none := Eq.trans rfl rfl
@[simp] theorem eSlT_s {l h : PF} : eSlT f l h sl G = match f sl G with
  | some (.tuple ds, G1) => (match l sl G1 with
    | some (i, G2) => (match h sl G2 with
      | some (j, G3) => if HT.sIx ds.length 0 i = 0 ∧ HT.sIx ds.length ds.length j = ds.length then none else some (.tuple (cutD ds i j), G3)
      | none => none)
    | none => none)
  | _ => none := Eq.trans rfl rfl
end
/-! ### on numbers -/
section
variable {i j : Int} {xs ys : List PyData} {l m : List Int}
@[simp] theorem dAdd_i : dAdd (.int i) (.int j) = some (.int (i + j)) := Eq.trans rfl rfl
@[simp] theorem dAdd_l : dAdd (.list xs) (.list ys) = if xs.length + ys.length ≤ 16777216 then some (.list (xs ++ ys)) else none := Eq.trans rfl rfl
@[simp] theorem dSub_i : dSub (.int i) (.int j) = some (.int (i - j)) := Eq.trans rfl rfl
@[simp] theorem dLt_i : dLt (.int i) (.int j) = some (.bool (decide (i < j))) := Eq.trans rfl rfl
@[simp] theorem dLe_i : dLe (.int i) (.int j) = some (.bool (decide (i ≤ j))) := Eq.trans rfl rfl
@[simp] theorem dGt_i : dGt (.int i) (.int j) = some (.bool (decide (j < i))) := Eq.trans rfl rfl
@[simp] theorem dGe_i : dGe (.int i) (.int j) = some (.bool (decide (j ≤ i))) := Eq.trans rfl rfl
theorem dMod_i (h : 0 < j) : dMod (.int i) (.int j) = some (.int (i % j)) := by
  show (if decide (j ≠ 0) = true then some (PyData.int (i.fmod j)) else none) = _
  rw [if_pos (by simp; omega), Int.fmod_eq_emod_of_nonneg i (by omega)]
theorem dFdiv_i (h : 0 < j) (h' : j < 1073741824) : dFdiv (.int i) (.int j) = some (.int (i / j)) := by
  show (if decide (j ≠ 0 ∧ j.natAbs < 1073741824) = true then some (PyData.int (i.fdiv j)) else none) = _
  rw [if_pos (by simp; omega), Int.fdiv_eq_ediv_of_nonneg i (by omega)]
theorem bits_lt {n : Nat} (h : i.natAbs < 2 ^ n) : Builtin.Int.intBits i ≤ n := by
  unfold Builtin.Int.intBits
  split
  · omega
  · rename_i hz
    have hz' : i.natAbs ≠ 0 := by
      intro e
      apply hz
      have : i = 0 := by omega
      rw [this]; rfl
    have := (Nat.log2_lt hz').mpr h
    omega
theorem dMul_i (n m : Nat) (h : i.natAbs < 2 ^ n) (h' : j.natAbs < 2 ^ m) (hn : n + m ≤ 134217728) : dMul (.int i) (.int j) = some (.int (i * j)) := by
  have h1 := bits_lt h
  have h2 := bits_lt h'
  show (if Nat.ble (Builtin.Int.intBits i + Builtin.Int.intBits j) 134217728 = true then some (PyData.int (i * j)) else none) = _
  rw [if_pos (Nat.ble_eq_true_of_le (by omega))]
theorem dMul_l (h : -1000000 ≤ i ∧ i ≤ 1000000) : dMul (.list [.int j]) (.int i) = some (.list (List.replicate i.toNat (.int j))) := by
  show (if Nat.ble i.natAbs 1000000000000 = true ∧ 1 * i.toNat ≤ 16777216 then some (PyData.list (List.replicate i.toNat [PyData.int j]).flatten) else none) = _
  rw [if_pos ⟨Nat.ble_eq_true_of_le (by omega), by omega⟩]
  congr 2
  induction i.toNat with
  | zero => rfl
  | succ n ih => rw [List.replicate_succ, List.flatten_cons, ih]; rfl
@[simp] theorem dLen_l : dLen (.list xs) = some (.int xs.length) := Eq.trans rfl rfl
@[simp] theorem dLen_t : dLen (.tuple xs) = some (.int xs.length) := Eq.trans rfl rfl
@[simp] theorem dInt_i : dInt (.int i) = some (.int i) := Eq.trans rfl rfl
@[simp] theorem dIx_l : dIx (.list xs) (.int i) = atI xs i := Eq.trans rfl rfl
@[simp] theorem dIx_t : dIx (.tuple xs) (.int i) = atI xs i := Eq.trans rfl rfl
theorem okR_of (h : -1000000 ≤ i ∧ i ≤ 1000000) : okR i = true := Nat.ble_eq_true_of_le (by omega)
theorem atI_nat {α : Type} {xs : List α} {k : Nat} (h : k < xs.length) : atI xs (k : Int) = xs[k]? := by
  unfold atI ixN
  rw [if_pos (by omega), if_pos (by omega)]
  rfl
theorem atI_at {α : Type} {xs : List α} (h : 0 ≤ i) (h' : i.toNat < xs.length) : atI xs i = xs[i.toNat]? := by
  unfold atI ixN
  rw [if_pos (by omega), if_pos (by omega)]
  rfl
theorem atI_end {α : Type} {xs : List α} (h : xs ≠ []) : atI xs (-1) = xs.getLast? := by
  have := List.length_pos_iff.mpr h
  unfold atI ixN
  rw [if_neg (by omega), if_pos (by omega)]
  have e : (-1 + (xs.length : Int)).toNat = xs.length - 1 := by omega
  rw [List.getLast?_eq_getElem?, e]
  rfl
theorem ixN_at {n : Nat} (h : 0 ≤ i) (h' : i.toNat < n) : ixN n i = some i.toNat := by
  unfold ixN
  rw [if_pos (by omega), if_pos (by omega)]
/-! ### alike -/
theorem canLay_ints : ∀ l : List Int, PyData.canLayAll0 (nums l) = true
  | [] => rfl
  | i :: l => by
    show (PyData.canLay0 (.int i) && PyData.canLayAll0 (nums l)) = true
    rw [canLay_ints l]; rfl
theorem depth_ints : ∀ l : List Int, PyData.depthAll (nums l) = 0
  | [] => rfl
  | i :: l => by
    show max (PyData.depth (.int i)) (PyData.depthAll (nums l)) = 0
    rw [depth_ints l]; rfl
@[simp] theorem shaped_int : SeqAt.shaped (.int i) = true := Eq.trans rfl rfl
@[simp] theorem shaped_L : SeqAt.shaped (L l) = true := by
  show (PyData.canLayAll0 (nums l) && decide (PyData.depthAll (nums l) + 1 ≤ 64)) = true
  rw [canLay_ints, depth_ints]; rfl
theorem eqv_ints : ∀ l m : List Int, PyData.eqvAll (nums l) (nums m) = decide (l = m)
  | [], [] => by simp [PyData.eqvAll, nums]
  | [], _ :: _ => by simp [PyData.eqvAll, nums]
  | _ :: _, [] => by simp [PyData.eqvAll, nums]
  | x :: xs, y :: ys => by
    have h := eqv_ints xs ys
    rw [nums_cons, nums_cons, PyData.eqvAll, h, PyData.eqv]
    by_cases e : x = y <;> simp [e]
@[simp] theorem eqv_L : PyData.eqv (L l) (L m) = decide (l = m) := by
  show PyData.eqv (.list (nums l)) (.list (nums m)) = _
  rw [PyData.eqv, eqv_ints]
@[simp] theorem eqv_i : PyData.eqv (.int i) (.int j) = decide (i = j) := by
  rw [PyData.eqv]; by_cases e : i = j <;> simp [e]
@[simp] theorem dEq_i : dEq (.int i) (.int j) = some (.bool (decide (i = j))) := by unfold dEq; rw [eqv_i]; rfl
@[simp] theorem dNe_i : dNe (.int i) (.int j) = some (.bool (!decide (i = j))) := by unfold dNe; rw [eqv_i]; rfl
theorem dEq_L : dEq (L l) (L m) = some (.bool (decide (l = m))) := by unfold dEq; rw [eqv_L, shaped_L]; simp
theorem dNe_L : dNe (L l) (L m) = some (.bool (!decide (l = m))) := by unfold dNe; rw [eqv_L, shaped_L]; simp
@[simp] theorem dNe_nil : dNe (.list (nums l)) (.list []) = some (.bool (!decide (l = []))) := dNe_L (m := [])
@[simp] theorem dEq_nil : dEq (.list (nums l)) (.list []) = some (.bool (decide (l = []))) := dEq_L (m := [])
@[simp] theorem dEq_one {x : Int} : dEq (.list (nums l)) (.list [.int x]) = some (.bool (decide (l = [x]))) := dEq_L (m := [x])
@[simp] theorem dNe_one {x : Int} : dNe (.list (nums l)) (.list [.int x]) = some (.bool (!decide (l = [x]))) := dNe_L (m := [x])
end
/-! ### loops -/
section
variable {g : TgF} {t : TF} {e : EF} {u : SF} {sl : Sl} {G : GS} {ds : List PyData}
/-- a loop that runs through -/
theorem for_inv (I : Nat → Sl → GS → Prop) (h0 : I 0 sl G) (step : ∀ i d sl G, ds[i]? = some d → I i sl G → ∃ sl1 sl2 G2 fl, g d sl = some sl1 ∧ u sl1 G = some (fl, sl2, G2) ∧ (fl = .nx ∨ fl = .ct) ∧ I (i + 1) sl2 G2) : ∃ sl' G', sForL g u ds sl G = some (.nx, sl', G') ∧ I ds.length sl' G' := by
  induction ds generalizing sl G I with
  | nil => exact ⟨sl, G, rfl, h0⟩
  | cons d r ih =>
    obtain ⟨sl1, sl2, G2, fl, h1, h2, h3, h4⟩ := step 0 d sl G rfl h0
    obtain ⟨sl', G', h5, h6⟩ := ih (fun i => I (i + 1)) h4 fun i d sl G hd hI => step (i + 1) d sl G hd hI
    refine ⟨sl', G', ?_, h6⟩
    show (match g d sl with
      | some sl1 => (match u sl1 G with
        | some (.nx, sl2, G2) => sForL g u r sl2 G2
        | some (.ct, sl2, G2) => sForL g u r sl2 G2
        | some (.bk, sl2, G2) => some (.nx, sl2, G2)
        | some (.rt d, sl2, G2) => some (.rt d, sl2, G2)
        | some (.ro d, sl2, G2) => some (.ro d, sl2, G2)
        | none => none)
      | none => none) = _
    rcases h3 with rfl | rfl <;> simp only [h1, h2, h5]
/-- .. or returns on its way -/
theorem for_ret (I : Nat → Sl → GS → Prop) (R : PyData → GS → Prop) (h0 : I 0 sl G) (step : ∀ i d sl G, ds[i]? = some d → I i sl G → ∃ sl1 sl2 G2 fl, g d sl = some sl1 ∧ u sl1 G = some (fl, sl2, G2) ∧ ((fl = .nx ∧ I (i + 1) sl2 G2) ∨ ∃ x, fl = .rt x ∧ R x G2)) : ∃ fl sl' G', sForL g u ds sl G = some (fl, sl', G') ∧ ((fl = .nx ∧ I ds.length sl' G') ∨ ∃ x, fl = .rt x ∧ R x G') := by
  induction ds generalizing sl G I with
  | nil => exact ⟨.nx, sl, G, rfl, .inl ⟨rfl, h0⟩⟩
  | cons d r ih =>
    obtain ⟨sl1, sl2, G2, fl, h1, h2, h3⟩ := step 0 d sl G rfl h0
    rcases h3 with ⟨rfl, h4⟩ | ⟨x, rfl, h4⟩
    · obtain ⟨fl, sl', G', h5, h6⟩ := ih (fun i => I (i + 1)) h4 fun i d sl G hd hI => step (i + 1) d sl G hd hI
      refine ⟨fl, sl', G', ?_, h6⟩
      show (match g d sl with
        | some sl1 => (match u sl1 G with
          | some (.nx, sl2, G2) => sForL g u r sl2 G2
          | some (.ct, sl2, G2) => sForL g u r sl2 G2
          | some (.bk, sl2, G2) => some (.nx, sl2, G2)
          | some (.rt d, sl2, G2) => some (.rt d, sl2, G2)
          | some (.ro d, sl2, G2) => some (.ro d, sl2, G2)
          | none => none)
        | none => none) = _
      simp only [h1, h2, h5]
    · refine ⟨.rt x, sl2, G2, ?_, .inr ⟨x, rfl, h4⟩⟩
      show (match g d sl with
        | some sl1 => (match u sl1 G with
          | some (.nx, sl2, G2) => sForL g u r sl2 G2
          | some (.ct, sl2, G2) => sForL g u r sl2 G2
          | some (.bk, sl2, G2) => some (.nx, sl2, G2)
          | some (.rt d, sl2, G2) => some (.rt d, sl2, G2)
          | some (.ro d, sl2, G2) => some (.ro d, sl2, G2)
          | none => none)
        | none => none) = _
      simp only [h1, h2]
theorem while_inv (I : Nat → Sl → GS → Prop) (J : Sl → GS → Prop) (step : ∀ n sl G, I n sl G → (∃ G1, t sl G = some (false, G1) ∧ J sl G1) ∨ (∃ G1 sl2 G2 n', t sl G = some (true, G1) ∧ u sl G1 = some (.nx, sl2, G2) ∧ n' < n ∧ I n' sl2 G2)) (n : Nat) (h0 : I n sl G) (m : Nat) (hm : n < m) : ∃ sl' G', sWhile t u m sl G = some (.nx, sl', G') ∧ J sl' G' := by
  induction m generalizing n sl G with
  | zero => omega
  | succ m ih =>
    have e : sWhile t u (m + 1) sl G = (match t sl G with
      | some (false, G1) => some (.nx, sl, G1)
      | some (true, G1) => (match u sl G1 with
        | some (.nx, sl2, G2) => sWhile t u m sl2 G2
        | some (.ct, sl2, G2) => sWhile t u m sl2 G2
        | some (.bk, sl2, G2) => some (.nx, sl2, G2)
        | some (.rt d, sl2, G2) => some (.rt d, sl2, G2)
        | some (.ro d, sl2, G2) => some (.ro d, sl2, G2)
        | none => none)
      | none => none) := rfl
    rcases step n sl G h0 with ⟨G1, h1, h2⟩ | ⟨G1, sl2, G2, n', h1, h2, h3, h4⟩
    · exact ⟨sl, G1, by rw [e]; simp only [h1], h2⟩
    · obtain ⟨sl', G', h5, h6⟩ := ih n' h4 (by omega)
      exact ⟨sl', G', by rw [e]; simp only [h1, h2, h5], h6⟩
/-- a comprehension without draws -/
theorem lc_map {φ : PyData → Option PyData} (h : ∀ d ∈ ds, ∃ sl1, g d sl = some sl1 ∧ ((φ d = none ∧ t sl1 G = some (false, G)) ∨ ∃ y, φ d = some y ∧ t sl1 G = some (true, G) ∧ e sl1 G = some (y, G))) : lcL g t e sl ds [] G = some (ds.filterMap φ, G) := by
  induction ds with
  | nil => rfl
  | cons d r ih =>
    have ih' := ih fun d hd => h d (List.mem_cons_of_mem _ hd)
    obtain ⟨sl1, h1, h2⟩ := h d List.mem_cons_self
    unfold lcL
    rcases h2 with ⟨h3, h4⟩ | ⟨y, h3, h4, h5⟩
    · simp only [h1, h4, ih', List.filterMap_cons, h3]
    · simp only [h1, h4, h5, ih', List.filterMap_cons, h3]
/-- .. with draws: what each drawn one is, and the state behind -/
theorem lc_st (I : Nat → GS → Prop) (R : PyData → Prop) (h0 : I 0 G) (h : ∀ i d G, ds[i]? = some d → I i G → ∃ sl1 y G', g d sl = some sl1 ∧ t sl1 G = some (true, G) ∧ e sl1 G = some (y, G') ∧ R y ∧ I (i + 1) G') : ∃ ys G', lcL g t e sl ds [] G = some (ys, G') ∧ ys.length = ds.length ∧ (∀ y ∈ ys, R y) ∧ I ds.length G' := by
  induction ds generalizing G I with
  | nil => exact ⟨[], G, rfl, rfl, (fun y hy => by cases hy), h0⟩
  | cons d r ih =>
    obtain ⟨sl1, y, G1, h1, h2, h3, h4, h5⟩ := h 0 d G rfl h0
    obtain ⟨ys, G', k1, k2, k3, k4⟩ := ih (fun i => I (i + 1)) h5 fun i d G hd hI => h (i + 1) d G hd hI
    refine ⟨y :: ys, G', ?_, by simp [k2], ?_, k4⟩
    · unfold lcL
      simp only [h1, h2, h3, k1]
    · intro z hz
      rcases List.mem_cons.mp hz with e | hz
      · rw [e]; exact h4
      · exact k3 z hz
theorem rng_len : ∀ (n : Nat) (lo : Int), (rngD lo n).length = n
  | 0, _ => rfl
  | n + 1, lo => by show (rngD (lo + 1) n).length + 1 = n + 1; rw [rng_len n]
theorem rng_at : ∀ (n : Nat) (lo : Int) (i : Nat) (d : PyData), (rngD lo n)[i]? = some d → d = .int (lo + i) ∧ i < n
  | 0, _, i, d, h => by simp [rngD] at h
  | n + 1, lo, 0, d, h => by
    have : d = .int lo := by simpa [rngD] using h.symm
    exact ⟨by rw [this]; simp, by omega⟩
  | n + 1, lo, i + 1, d, h => by
    obtain ⟨h1, h2⟩ := rng_at n (lo + 1) i d (by simpa [rngD] using h)
    exact ⟨by rw [h1]; congr 1; omega, by omega⟩
theorem rngDn_len : ∀ (n : Nat) (lo : Int), (rngDn lo n).length = n
  | 0, _ => rfl
  | n + 1, lo => by show (rngDn (lo - 1) n).length + 1 = n + 1; rw [rngDn_len n]
theorem rngDn_at : ∀ (n : Nat) (lo : Int) (i : Nat) (d : PyData), (rngDn lo n)[i]? = some d → d = .int (lo - i) ∧ i < n
  | 0, _, i, d, h => by simp [rngDn] at h
  | n + 1, lo, 0, d, h => by
    have : d = .int lo := by simpa [rngDn] using h.symm
    exact ⟨by rw [this]; simp, by omega⟩
  | n + 1, lo, i + 1, d, h => by
    obtain ⟨h1, h2⟩ := rngDn_at n (lo - 1) i d (by simpa [rngDn] using h)
    exact ⟨by rw [h1]; congr 1; omega, by omega⟩
theorem enum_len : ∀ (ds : List PyData) (i : Nat), (enumD i ds).length = ds.length
  | [], _ => rfl
  | d :: r, i => by show (enumD (i + 1) r).length + 1 = r.length + 1; rw [enum_len r]
theorem enum_at : ∀ (l : List Int) (k i : Nat) (d : PyData), (enumD k (nums l))[i]? = some d → ∃ x, l[i]? = some x ∧ d = .tuple [.int ((k + i : Nat) : Int), .int x]
  | [], k, i, d, h => by simp [enumD, nums] at h
  | x :: l, k, 0, d, h => by
    refine ⟨x, rfl, ?_⟩
    have : d = .tuple [.int k, .int x] := by simpa [enumD, nums] using h.symm
    rw [this]; simp
  | x :: l, k, i + 1, d, h => by
    obtain ⟨y, h1, h2⟩ := enum_at l (k + 1) i d (by simpa [enumD, nums] using h)
    exact ⟨y, by simpa using h1, by rw [h2]; congr 4; omega⟩
theorem rng_map : ∀ (n : Nat) (lo : Int), rngD lo n = nums ((List.range n).map fun (k : Nat) => lo + (k : Int))
  | n, lo => by
    apply List.ext_getElem?
    intro i
    by_cases hi : i < n
    · have h1 : i < (rngD lo n).length := by rw [rng_len]; exact hi
      rw [List.getElem?_eq_getElem h1]
      have h2 := (rng_at n lo i _ (List.getElem?_eq_getElem h1)).1
      rw [h2, nums_get, List.getElem?_map, List.getElem?_range hi]
      rfl
    · rw [List.getElem?_eq_none (by rw [rng_len]; omega), List.getElem?_eq_none (by simp; omega)]
end
end BR

namespace BR
open PySem PySem.Spec PyProof.Rows L2 QL MA DN
section
variable {i j : Int} {xs ys : List PyData} {l m : List Int} {b : Bool}
@[simp] theorem isi_ii : dIsi "int" (.int i) = some (.bool true) := Eq.trans rfl rfl
@[simp] theorem isi_bi : dIsi "bool" (.int i) = some (.bool false) := Eq.trans rfl rfl
@[simp] theorem isi_ll : dIsi "list" (.list xs) = some (.bool true) := Eq.trans rfl rfl
@[simp] theorem isN_i : dIsN (.int i) .none = some (.bool false) := Eq.trans rfl rfl
variable {g : TgF} {t : TF} {e : EF} {u : SF} {sl : Sl} {G : GS}
theorem lc_gen {α : Type} {l : List α} {enc : α → PyData} {q : α → Bool} {φ : α → PyData} (h : ∀ x ∈ l, ∃ sl1, g (enc x) sl = some sl1 ∧ t sl1 G = some (q x, G) ∧ (q x = true → e sl1 G = some (φ x, G))) : lcL g t e sl (l.map enc) [] G = some ((l.filter q).map φ, G) := by
  induction l with
  | nil => rfl
  | cons x l ih =>
    have ih' := ih fun d hd => h d (List.mem_cons_of_mem _ hd)
    obtain ⟨sl1, h1, h2, h3⟩ := h x List.mem_cons_self
    rw [List.map_cons]
    unfold lcL
    cases hq : q x with
    | false =>
      rw [hq] at h2
      simp only [h1, h2, ih', List.filter_cons, hq, Bool.false_eq_true, if_false]
    | true =>
      rw [hq] at h2
      simp only [h1, h2, h3 hq, ih', List.filter_cons, hq, if_true, List.map_cons]
theorem lc_all {α : Type} {l : List α} {enc : α → PyData} {φ : α → PyData} (h : ∀ x ∈ l, ∃ sl1, g (enc x) sl = some sl1 ∧ t sl1 G = some (true, G) ∧ e sl1 G = some (φ x, G)) : lcL g t e sl (l.map enc) [] G = some (l.map φ, G) := by
  have := lc_gen (g := g) (t := t) (e := e) (sl := sl) (G := G) (l := l) (enc := enc) (q := fun _ => true) (φ := φ) fun x hx => by
    obtain ⟨sl1, h1, h2, h3⟩ := h x hx
    exact ⟨sl1, h1, h2, fun _ => h3⟩
  rwa [List.filter_eq_self.mpr (fun _ _ => rfl)] at this
@[simp] theorem is_whole_ok : d_is_whole [.int i] = some (.val (.bool true)) := by
  simp [d_is_whole, runF, startS, u_is_whole]
theorem is_between_ok {a b : Int} : d_is_between [.int i, .int a, .int b] = some (.val (.bool (decide (a ≤ i) && decide (i ≤ b)))) := by
  by_cases h : a ≤ i <;> simp [d_is_between, runF, startS, u_is_between, h]
end
section
variable {F : Type} [Fq F] {l m : List Int} {f g : PS F}
theorem cast_getLast (l : List Int) : (nums l).getLast? = l.getLast?.map .int := by unfold nums; rw [List.getLast?_map]
theorem atI_last {x : Int} (h : l.getLast? = some x) : atI (nums l) (-1) = some (.int x) := by
  have : nums l ≠ [] := fun e => by
    have := List.map_eq_nil_iff.mp e
    rw [this] at h; cases h
  rw [atI_end this, cast_getLast, h]; rfl
theorem trim_while {p : Int} {a x : SV} {m : List Int} {G : GS} {n : Nat} (hn : m.length < n) : ∃ G', sWhile (tAndF (bE (e2 dNe (bV 2) (eO (oLst aNil)))) (bE (e2 dEq (e2 dIx (bV 2) (eNeg (eC (.int 1)))) (eC (.int 0))))) (sPop 2) n [.val (.int p), a, .own (nums m), x] G = some (.nx, [.val (.int p), a, .own (nums (dropz m)), x], G') := by
  obtain ⟨sl', G', h1, h2⟩ := while_inv (t := tAndF (bE (e2 dNe (bV 2) (eO (oLst aNil)))) (bE (e2 dEq (e2 dIx (bV 2) (eNeg (eC (.int 1)))) (eC (.int 0))))) (u := sPop 2)
    (fun k sl G => ∃ m', k = m'.length ∧ dropz m' = dropz m ∧ sl = [.val (.int p), a, .own (nums m'), x])
    (fun sl G => sl = [.val (.int p), a, .own (nums (dropz m)), x])
    (fun k sl G hI => by
      obtain ⟨m', hk, hd, hs⟩ := hI
      subst hs
      by_cases hz : m' = []
      · subst hz
        left
        refine ⟨G, ?_, ?_⟩
        · simp
        · rw [← hd]; rfl
      · obtain ⟨y, hy⟩ : ∃ y, m'.getLast? = some y := by
          cases e : m'.getLast? with
          | none => exact (hz (List.getLast?_eq_none_iff.mp e)).elim
          | some y => exact ⟨y, rfl⟩
        have e2 := atI_last hy
        by_cases hy0 : y = 0
        · right
          have e3 : m' = m'.dropLast ++ [0] := by
            rw [hy0] at hy
            obtain ⟨ys, e⟩ := List.getLast?_eq_some_iff.mp hy
            rw [e]; simp
          refine ⟨G, [.val (.int p), a, .own (nums m'.dropLast), x], G, m'.dropLast.length, ?_, ?_, ?_, m'.dropLast, rfl, ?_, rfl⟩
          · simp [hz, e2, hy0]
          · simp [hz]
          · rw [List.length_dropLast]
            have := List.length_pos_iff.mpr hz
            omega
          · rw [← hd]
            conv => rhs; rw [e3]
            rw [dropz_snoc]
        · left
          refine ⟨G, ?_, ?_⟩
          · simp [hz, e2, hy0]
          · rw [← hd, dropz_fix (by rw [hy]; intro e; exact hy0 (by cases e; rfl))])
    m.length ⟨m, rfl, rfl, rfl⟩ n hn (G := G)
  exact ⟨G', by rw [h1, h2]⟩
theorem trimmed_ok {p : Int} (hp : 0 < p) (hl : l.length < 1000000) : d_trimmed [.int p, L l] = some (.own (nums (trimI p l))) := by
  have h1 : lcL (gN 3) tTrue (e2 dMod (e1 dInt (eV 3)) (eV 0)) [.val (.int p), .val (L l), .no, .no] (nums l) [] [] = some (nums (l.map fun x => x % p), []) := by
    rw [← nums_map]
    refine lc_all fun x hx => ⟨[.val (.int p), .val (L l), .no, .val (.int x)], rfl, rfl, ?_⟩
    simp [dMod_i hp]
  obtain ⟨G', h2⟩ := trim_while (p := p) (a := .val (L l)) (x := .no) (m := l.map fun x => x % p) (G := []) (n := 1000000) (by simpa using hl)
  have hl' : l.length ≤ 16777215 := by omega
  simp [d_trimmed, runF, startS, u_trimmed, h1, h2, hl', trimI]
theorem scaled_ok {p c : Int} (hp : 0 < p) (hl : l.length < 1000000) (hb : ∀ x ∈ l, x.natAbs < 2 ^ 1000) (hc : c.natAbs < 2 ^ 1000) : d_scaled [.int p, L l, .int c] = some (.own (nums (trimI p (l.map fun x => x * c)))) := by
  have h1 : lcL (gN 3) tTrue (e2 dMul (eV 3) (eV 2)) [.val (.int p), .val (L l), .val (.int c), .no] (nums l) [] [] = some (nums (l.map fun x => x * c), []) := by
    rw [← nums_map]
    refine lc_all fun x hx => ⟨[.val (.int p), .val (L l), .val (.int c), .val (.int x)], rfl, rfl, ?_⟩
    simp [dMul_i 1000 1000 (hb x hx) hc (by omega)]
  have h2 := trimmed_ok (l := l.map fun x => x * c) hp (by simpa using hl)
  have hl' : l.length ≤ 16777215 := by omega
  simp [d_scaled, runF, startS, u_scaled, h1, h2, hl']
end
end BR

set_option exponentiation.threshold 2000
namespace BR
open PySem PySem.Spec PyProof.Rows L2 QL MA DN
section
variable {F : Type} [Fq F] {l m : List Int} {f g : PS F}
theorem small_of {x : Int} (h : 0 ≤ x ∧ x < pp F) : x.natAbs < 2 ^ 3 := by
  have := pp_357 (F := F)
  show x.natAbs < 8
  omega
theorem small_of' {x : Int} (h : 0 ≤ x ∧ x < pp F) : x.natAbs < 2 ^ 1000 := Nat.lt_of_lt_of_le (small_of h) (Nat.pow_le_pow_right (by omega) (by omega))
theorem atI_0 {α : Type} {x : α} {l : List α} : atI (x :: l) 0 = some x := by
  rw [atI_at (by omega) (by simp)]; rfl
theorem inv_ex {x : Int} (hx : (of x : F) ≠ 0) : ∃ y, 0 < y ∧ y < pp F ∧ (of y : F) * of x = 1 := by
  have h1 := Fd.mul_inv (of x : F) hx
  obtain ⟨i, h2, h3, h4⟩ := of_surj (Fd.inv (of x : F))
  refine ⟨i, ?_, h3, ?_⟩
  · by_cases e : i = 0
    · have := inv_ne hx
      rw [← h4, e, of_zero] at this
      exact (this rfl).elim
    · omega
  · rw [h4]; grind
theorem mod_one_iff {z : Int} : z % pp F = 1 ↔ (of z : F) = 1 := by
  have h := pp_357 (F := F)
  constructor
  · intro e
    rw [← of_mod, e, of_one]
  · intro e
    rw [← of_one] at e
    have := of_inj e
    rw [this]
    exact Int.emod_eq_of_lt (by omega) (by omega)
theorem head_of {q : Int → Bool} {l : List Int} {y : Int} (hy : y ∈ l) (hq : q y = true) : ∃ z r, l.filter q = z :: r ∧ z ∈ l ∧ q z = true := by
  cases e : l.filter q with
  | nil =>
    have : y ∈ l.filter q := List.mem_filter.mpr ⟨hy, hq⟩
    rw [e] at this; cases this
  | cons z r =>
    have : z ∈ l.filter q := by rw [e]; exact List.mem_cons_self
    exact ⟨z, r, rfl, (List.mem_filter.mp this).1, (List.mem_filter.mp this).2⟩
theorem mem_rng {lo : Int} {n : Nat} {y : Int} : y ∈ (List.range n).map (fun (k : Nat) => lo + (k : Int)) ↔ lo ≤ y ∧ y < lo + n := by
  rw [List.mem_map]
  constructor
  · rintro ⟨k, hk, e⟩
    have := List.mem_range.mp hk
    omega
  · intro h
    exact ⟨(y - lo).toNat, List.mem_range.mpr (by omega), by omega⟩
theorem inverse_ok {x : Int} (hx : 0 < x ∧ x < pp F) : ∃ y, d_inverse [.int (pp F), .int x] = some (.val (.int y)) ∧ 0 < y ∧ y < pp F ∧ (of y : F) * of x = 1 := by
  have hp := pp_357 (F := F)
  obtain ⟨y0, h1, h2, h3⟩ := inv_ex (F := F) (of_ne ⟨by omega, hx.2⟩ (by omega : x ≠ 0))
  have hm : y0 ∈ (List.range (pp F - 1).toNat).map (fun (k : Nat) => (1 : Int) + (k : Int)) := mem_rng.mpr (by omega)
  have hq : decide (y0 * x % pp F = 1) = true := by
    rw [decide_eq_true_iff, mod_one_iff, of_mul]; exact h3
  obtain ⟨z, r, k1, k2, k3⟩ := head_of (q := fun y => decide (y * x % pp F = 1)) hm hq
  have hz := mem_rng.mp k2
  have k4 : (of z : F) * of x = 1 := by
    rw [decide_eq_true_iff, mod_one_iff, of_mul] at k3; exact k3
  have k5 : lcL (gN 2) (bE (e2 dEq (e2 dMod (e2 dMul (eV 2) (eV 1)) (eV 0)) (eC (.int 1)))) (eV 2) [.val (.int (pp F)), .val (.int x), .no] (rngD 1 (pp F - 1).toNat) [] [] = some (nums (z :: r), []) := by
    rw [rng_map, ← k1]
    exact lc_gen (enc := PyData.int) (φ := PyData.int) (q := fun y => decide (y * x % pp F = 1)) fun y hy => by
      have hy' := mem_rng.mp hy
      refine ⟨[.val (.int (pp F)), .val (.int x), .val (.int y)], rfl, ?_, fun _ => rfl⟩
      have hm := dMul_i 3 3 (small_of (F := F) (x := y) (by omega)) (small_of (F := F) (x := x) (by omega)) (by omega)
      simp [hm, dMod_i pp_pos]
  refine ⟨z, ?_, by omega, by omega, k4⟩
  have o1 : okR 1 = true := rfl
  have o2 : okR (pp F) = true := okR_of (by omega)
  have o3 : (rngD 1 (pp F - 1).toNat).length ≤ 16777215 := by rw [rng_len]; omega
  simp [d_inverse, runF, startS, u_inverse, o1, o2, o3, k5, nums_cons, atI_0, -Int.pred_toNat]
theorem rg_set (h : Rg F l) {x : Int} (hx : 0 ≤ x ∧ x < pp F) (k : Nat) : Rg F (l.set k x) := fun y hy => by
  rcases List.mem_or_eq_of_mem_set hy with h1 | h1
  · exact h y h1
  · rw [h1]; exact hx
theorem mod_rng (z : Int) : 0 ≤ z % pp F ∧ z % pp F < pp F := ⟨Int.emod_nonneg _ (by have := pp_pos (F := F); omega), Int.emod_lt_of_pos _ pp_pos⟩
theorem rg_get (h : Rg F l) {k : Nat} {x : Int} (hk : l[k]? = some x) : 0 ≤ x ∧ x < pp F := h x (List.mem_of_getElem? hk)
theorem get_getD {k : Nat} {x : Int} (hk : l[k]? = some x) : l.getD k 0 = x := by rw [List.getD_eq_getElem?_getD, hk]; rfl
theorem get_some {k : Nat} (hk : k < l.length) : l[k]? = some (l.getD k 0) := by
  rw [List.getD_eq_getElem?_getD, List.getElem?_eq_getElem hk]; rfl
/-- one row of the division -/
theorem parted_row {at_ : Nat} {a b c d : SV} {other rest : List Int} {num : Int} {G : GS} {x8 x9 : SV} (hr : Rg F rest) (ho : Rg F other) (hn : 0 ≤ num ∧ num < pp F) (hl : at_ + other.length ≤ rest.length) :
    ∃ rest' y8 y9 G', sForL (gT [gN 8, gN 9]) (sIx 4 (e2 dAdd (eV 3) (eV 8)) (e2 dMod (e2 dSub (e2 dIx (bV 4) (e2 dAdd (eV 3) (eV 8))) (e2 dMul (eV 7) (eV 9))) (eV 0))) (enumD 0 (nums other))
      [.val (.int (pp F)), a, b, .val (.int at_), .own (nums rest), c, d, .val (.int num), x8, x9] G = some (.nx, [.val (.int (pp F)), a, b, .val (.int at_), .own (nums rest'), c, d, .val (.int num), y8, y9], G') ∧
      rest'.length = rest.length ∧ Rg F rest' ∧ (ps rest' : PS F) = ps rest - C (of num) * (sh at_ 1 * ps other) := by
  obtain ⟨sl', G', h1, h2⟩ := for_inv (g := gT [gN 8, gN 9]) (u := sIx 4 (e2 dAdd (eV 3) (eV 8)) (e2 dMod (e2 dSub (e2 dIx (bV 4) (e2 dAdd (eV 3) (eV 8))) (e2 dMul (eV 7) (eV 9))) (eV 0))) (ds := enumD 0 (nums other)) (sl := [.val (.int (pp F)), a, b, .val (.int at_), .own (nums rest), c, d, .val (.int num), x8, x9]) (G := G)
    (fun i sl _ => ∃ rest' y8 y9, sl = [.val (.int (pp F)), a, b, .val (.int at_), .own (nums rest'), c, d, .val (.int num), y8, y9] ∧ rest'.length = rest.length ∧ Rg F rest' ∧ (ps rest' : PS F) = ps rest - C (of num) * (sh at_ 1 * ps (other.take i)))
    ⟨rest, x8, x9, rfl, rfl, hr, by rw [ps_take_0]; grind⟩ fun i d sl G hd hI => by
      obtain ⟨rest1, y8, y9, hs, hlen, hrg, hps⟩ := hI
      obtain ⟨x, hx, hd'⟩ := enum_at other 0 i d hd
      subst hs; subst hd'
      have hi := (List.getElem?_eq_some_iff.mp hx).1
      have hk : at_ + i < rest1.length := by omega
      have e1 : (at_ : Int) + ((0 + i : Nat) : Int) = ((at_ + i : Nat) : Int) := by omega
      have hm := dMul_i 3 3 (small_of hn) (small_of (rg_get ho hx)) (by omega)
      have g1 : atI (nums rest1) ((at_ + i : Nat) : Int) = some (.int (rest1.getD (at_ + i) 0)) := by
        rw [atI_nat (by simpa using hk), nums_get, get_some hk]; rfl
      have g2 : ixN rest1.length ((at_ + i : Nat) : Int) = some (at_ + i) := by
        rw [ixN_at (by omega) (by omega)]; congr 1
      refine ⟨[.val (.int (pp F)), a, b, .val (.int at_), .own (nums rest1), c, d, .val (.int num), .val (.int ((0 + i : Nat) : Int)), .val (.int x)], _, G, .nx, rfl, ?_, .inl rfl, rest1.set (at_ + i) ((rest1.getD (at_ + i) 0 - num * x) % pp F), .val (.int ((0 + i : Nat) : Int)), .val (.int x), rfl, by simpa using hlen, rg_set hrg (mod_rng (F := F) _) _, ?_⟩
      · simp only [sIx_s, e2_s, bV_s, eV_s, List.set_cons_succ, List.set_cons_zero, List.getElem?_cons_succ, List.getElem?_cons_zero, dAdd_i, dIx_l, e1, g1, hm, dSub_i, dMod_i pp_pos, nums_len, g2, nums_set]
      · rw [ps_set hk, ps_take_succ hi, hps, of_mod, of_sub, of_mul, get_getD hx]
        have : sh (at_ + i) (1 : PS F) = sh at_ 1 * sh i 1 := by
          rw [← sh_eq]
          apply PS.ext; intro j
          rw [sh_at, sh_at, sh_at]
          by_cases q : j < at_
          · rw [if_pos q, if_pos (by omega)]
          · rw [if_neg q]
            by_cases q2 : j < at_ + i
            · rw [if_pos q2, if_pos (by omega)]
            · rw [if_neg q2, if_neg (by omega)]
              rw [Nat.sub_sub]
        rw [this]
        have k2 : (C (of (rest1.getD (at_ + i) 0) - of num * of x - of (rest1.getD (at_ + i) 0)) : PS F) = - (C (of num) * C (of x)) := by
          rw [← C_mul, ← C_neg]; congr 1; grind
        rw [k2]
        grind
  obtain ⟨rest', y8, y9, hs, k1, k2, k3⟩ := h2
  refine ⟨rest', y8, y9, G', by rw [h1, hs], k1, k2, ?_⟩
  rw [enum_len, nums_len] at k3
  rw [k3, ps_take_all (Nat.le_refl _)]
end
end BR

namespace BR
open PySem PySem.Spec PyProof.Rows L2 QL MA DN
section
variable {F : Type} [Fq F] {l m : List Int} {f g : PS F}
theorem sub_z (a : F) : a - 0 = a := by grind
theorem sh_top {n at_ : Nat} (hg : Lt (n + 1) g) {k : Nat} (hk : at_ + n < k) : (sh at_ 1 * g : PS F) k = 0 := by
  rw [← sh_eq, sh_at, if_neg (by omega)]
  exact hg _ (by omega)
theorem sh_at_top {n at_ : Nat} : (sh at_ 1 * g : PS F) (at_ + n) = g n := by
  rw [← sh_eq, sh_at, if_neg (by omega)]
  congr 1; omega
theorem parted_ok {one other : List Int} (ro : Rep one f) (rg : Rep other g) (h0 : other ≠ []) (hl1 : one.length < 1000) (hl2 : other.length < 1000) :
    ∃ q r, d_parted [.int (pp F), L one, L other] = some (.val (.tuple [L q, L r])) ∧ ∃ Q R : PS F, Rep q Q ∧ Rep r R ∧ f = Q * g + R ∧ Lt (other.length - 1) R := by
  obtain ⟨c, t1, t2, t3, t4, t5, t6⟩ := rep_top rg h0
  obtain ⟨bk, b1, b2, b3, b4⟩ := inverse_ok (F := F) (x := c) ⟨t2, t3⟩
  have hpos := List.length_pos_iff.mpr h0
  have a1 := atI_last t1
  obtain ⟨S, hS⟩ : ∃ S : Int, S = (one.length : Int) - (other.length : Int) := ⟨_, rfl⟩
  obtain ⟨K, hKS⟩ : ∃ K : Nat, K = (S + 1).toNat := ⟨_, rfl⟩
  obtain ⟨M, hMS⟩ : ∃ M : Int, M = if 0 > S + 1 then 0 else S + 1 := ⟨_, rfl⟩
  have hM : M.toNat = K := by
    rw [hMS, hKS]
    split <;> omega
  have hM2 : -1000000 ≤ M ∧ M ≤ 1000000 := by
    rw [hMS]
    split <;> omega
  have z1 : dMul (.list [.int 0]) (.int M) = some (.list (nums (List.replicate K 0))) := by
    rw [dMul_l hM2, hM, nums_rep]
  obtain ⟨sl', G', h1, h2⟩ := for_inv (g := gN 3) (u := (sSeq (sSet 7 (e2 dMod (e2 dMul (e2 dIx (bV 4) (e2 dSub (e2 dAdd (eV 3) (e1 dLen (eV 2))) (eC (.int 1)))) (eV 6)) (eV 0))) (sSeq (sIx 5 (eV 3) (eV 7)) (sFor (iEn (aCons (eV 2) aNil)) (gT [(gN 8), (gN 9)]) (sIx 4 (e2 dAdd (eV 3) (eV 8)) (e2 dMod (e2 dSub (e2 dIx (bV 4) (e2 dAdd (eV 3) (eV 8))) (e2 dMul (eV 7) (eV 9))) (eV 0)))))))
    (ds := rngDn S K) (G := [])
    (sl := [.val (.int (pp F)), .val (L one), .val (L other), .no, .own (nums one), .own (nums (List.replicate K 0)), .val (.int bk), .no, .no, .no])
    (fun i sl _ => i ≤ K ∧ ∃ rest quo x3 x7 x8 x9, sl = [.val (.int (pp F)), .val (L one), .val (L other), x3, .own (nums rest), .own (nums quo), .val (.int bk), x7, x8, x9] ∧ rest.length = one.length ∧ quo.length = K ∧ Rg F rest ∧ Rg F quo ∧
      f = ps quo * g + ps rest ∧ (∀ k, k + i < K → quo.getD k 0 = 0) ∧ (i ≠ 0 → Lt (one.length - i) (ps rest : PS F)))
    ⟨Nat.zero_le _, one, List.replicate K 0, .no, .no, .no, .no, rfl, rfl, List.length_replicate, ro.1.1, (fun x hx => by
        rw [(List.mem_replicate.mp hx).2]; exact ⟨Int.le_refl _, pp_pos⟩), (by
        rw [ps_zeros, ro.2]
        have : (0 : PS F) * g = 0 := Lean.Grind.Semiring.zero_mul g
        rw [this]; grind), (fun k _ => by
        rw [List.getD_eq_getElem?_getD, List.getElem?_replicate]
        split <;> rfl), fun h => (h rfl).elim⟩ fun i d sl G hd hI => by
      obtain ⟨hiK, rest, quo, x3, x7, x8, x9, hs, l1, l2, r1, r2, hf, hq, ht⟩ := hI
      obtain ⟨hd', hi⟩ := rngDn_at K S i d hd
      subst hs; subst hd'
      have hK : (K : Int) = S + 1 := by omega
      obtain ⟨at_, hat⟩ : ∃ at_ : Nat, S - (i : Int) = (at_ : Int) := ⟨(S - i).toNat, by omega⟩
      have hSK : K = one.length - other.length + 1 := by omega
      have hat' : at_ + i + 1 = K := by omega
      have hfit : at_ + other.length ≤ rest.length := by omega
      rw [hat]
      have e1 : (at_ : Int) + (other.length : Int) - 1 = ((at_ + (other.length - 1) : Nat) : Int) := by omega
      have hk : at_ + (other.length - 1) < rest.length := by omega
      have g1 : atI (nums rest) ((at_ + (other.length - 1) : Nat) : Int) = some (.int (rest.getD (at_ + (other.length - 1)) 0)) := by
        rw [atI_nat (by simpa using hk), nums_get, get_some hk]; rfl
      have hv := rg_get r1 (get_some hk)
      have hm := dMul_i 3 3 (small_of hv) (small_of (F := F) (x := bk) ⟨by omega, b3⟩) (by omega)
      have hnum := mod_rng (F := F) (rest.getD (at_ + (other.length - 1)) 0 * bk)
      have g2 : ixN K (at_ : Int) = some at_ := by
        rw [ixN_at (by omega) (by omega)]; congr 1
      obtain ⟨rest', y8, y9, G2, p1, p2, p3, p4⟩ := parted_row (F := F) (a := .val (L one)) (b := .val (L other)) (c := .own (nums (quo.set at_ (rest.getD (at_ + (other.length - 1)) 0 * bk % pp F)))) (d := .val (.int bk)) (at_ := at_) (other := other) (rest := rest) (num := rest.getD (at_ + (other.length - 1)) 0 * bk % pp F) (G := G) (x8 := x8) (x9 := x9) r1 rg.1.1 hnum hfit
      refine ⟨[.val (.int (pp F)), .val (L one), .val (L other), .val (.int at_), .own (nums rest), .own (nums quo), .val (.int bk), x7, x8, x9], _, G2, .nx, rfl, ?_, .inl rfl, by omega, rest', quo.set at_ (rest.getD (at_ + (other.length - 1)) 0 * bk % pp F), .val (.int at_), .val (.int (rest.getD (at_ + (other.length - 1)) 0 * bk % pp F)), y8, y9, rfl, by omega, by simpa using l2, p3, rg_set r2 hnum _, ?_, ?_, ?_⟩
      · simp only [sSeq_s, sSet_s, e2_s, e1_s, eC_s, bV_s, eV_s, List.set_cons_succ, List.set_cons_zero, List.getElem?_cons_succ, List.getElem?_cons_zero, dAdd_i, dSub_i, dLen_l, nums_len, dIx_l, e1, g1, hm, dMod_i pp_pos, sIx_s, l2, g2, nums_set, sFor_s, iEn_s, aCons_s, aNil_s, p1]
      · rw [p4, MA.ps_set (by omega), hq at_ (by omega), of_zero, hf, ← rg.2]
        have e3 : (C (of (rest.getD (at_ + (other.length - 1)) 0 * bk % pp F) - 0) : PS F) = C (of (rest.getD (at_ + (other.length - 1)) 0 * bk % pp F)) := by rw [sub_z]
        rw [e3]
        grind
      · intro k hk'
        rw [List.getD_eq_getElem?_getD, List.getElem?_set_ne (by omega), ← List.getD_eq_getElem?_getD]
        exact hq k (by omega)
      · intro _ k hk'
        have hb : (ps rest' : PS F) k = ps rest k - of (rest.getD (at_ + (other.length - 1)) 0 * bk % pp F) * (sh at_ 1 * ps other : PS F) k := by
          rw [p4, sub_at, C_mul_at]
        rw [hb]
        have hg : Lt (other.length - 1 + 1) (ps other : PS F) := by
          rw [show other.length - 1 + 1 = other.length from by omega]; exact ps_lt other
        by_cases q : k = at_ + (other.length - 1)
        · subst q
          rw [sh_at_top, rg.2, t4, ps_at, of_mod, of_mul]
          grind
        · have q2 : at_ + (other.length - 1) < k := by omega
          rw [sh_top hg q2]
          have : (ps rest : PS F) k = 0 := by
            by_cases i0 : i = 0
            · have := ps_lt (F := F) rest k (by omega)
              exact this
            · exact ht i0 k (by omega)
          rw [this]; grind
  obtain ⟨_, rest, quo, x3, x7, x8, x9, hs, l1, l2, r1, r2, hf, hq, ht⟩ := h2
  rw [rngDn_len] at ht
  have f1 := trimmed_ok (l := quo) (p := pp F) pp_pos (by omega)
  have f2 := trimmed_ok (l := rest) (p := pp F) pp_pos (by omega)
  refine ⟨trimI (pp F) quo, trimI (pp F) rest, ?_, ps quo, ps rest, rep_trim _, rep_trim _, hf, ?_⟩
  · have o1 : okR S = true := okR_of (by omega)
    have o2 : okR (-1) = true := okR_of (by omega)
    have o3 : (S - -1).toNat = K := by omega
    simp -implicitDefEqProofs only [d_parted, runF, startS, u_parted, List.length_cons, List.length_nil, if_true, List.map_cons, List.map_nil, List.replicate, List.cons_append, List.nil_append, sSeq_s, sPar_s, mOwn_s, mVal_s, mNil_s, oList_s, eV_s, List.getElem?_cons_succ, List.getElem?_cons_zero, oBin_s, eO_s, oLst_s, aCons_s, aNil_s, eC_s, eM2_s, e2_s, e1_s, dLen_l, nums_len, dSub_i, dAdd_i, ← hS, ← hMS, z1, eCall_s, eNeg_s, dIx_l, a1, b1, rv_val, parSet_own, parSet_val, parSet_nil, List.set_cons_succ, List.set_cons_zero, sFor_s, iR3_s, o1, o2, o3, Nat.reduceSub, Nat.reduceAdd, Nat.reduceLeDiff, decide_true, Bool.and_self]
    rw [h1, hs]
    simp only [sFrz_s, List.getElem?_cons_succ, List.getElem?_cons_zero, List.set_cons_succ, List.set_cons_zero, sRet_s, eTup_s, aCons_s, eCall_s, eC_s, eV_s, aNil_s, f1, f2, rv_own, endF_rt, List.length_cons, List.length_nil, Nat.reduceAdd, Nat.reduceLeDiff, if_true]
  · by_cases hK0 : K = 0
    · have : one.length ≤ other.length - 1 := by omega
      intro k hk
      exact ps_lt rest k (by omega)
    · exact (ht hK0).mono (by omega)
theorem rest_of_ok {one other : List Int} (ro : Rep one f) (rg : Rep other g) (h0 : other ≠ []) (hl1 : one.length < 1000) (hl2 : other.length < 1000) :
    ∃ r, d_rest_of [.int (pp F), L one, L other] = some (.val (L r)) ∧ ∃ Q R : PS F, Rep r R ∧ Pl Q ∧ f = Q * g + R ∧ Lt (other.length - 1) R := by
  obtain ⟨q, r, h1, Q, R, h2, h3, h4, h5⟩ := parted_ok ro rg h0 hl1 hl2
  refine ⟨r, ?_, Q, R, h3, rep_pl h2, h4, h5⟩
  have a1 : atI [L q, L r] 1 = some (L r) := rfl
  simp [d_rest_of, runF, startS, u_rest_of, h1, a1]
/-- by a monic one -/
theorem rest_of_mon {one other : List Int} (ro : Rep one f) (rg : Rep other g) (h1 : other.getLast? = some 1) (hl1 : one.length < 1000) (hl2 : other.length < 1000) :
    ∃ r, d_rest_of [.int (pp F), L one, L other] = some (.val (L r)) ∧ Rep r (rem (other.length - 1) g f) := by
  have h0 : other ≠ [] := fun e => by rw [e] at h1; cases h1
  obtain ⟨r, k1, Q, R, k2, k3, k4, k5⟩ := rest_of_ok ro rg h0 hl1 hl2
  exact ⟨r, k1, by rw [rem_is (rep_mon rg h1) k3 k5 k4]; exact k2⟩
end
end BR

namespace BR
open PySem PySem.Spec PyProof.Rows L2 QL MA DN
section
variable {F : Type} [Fq F] {l m : List Int} {f g : PS F}
theorem of_pow (b : Int) : ∀ n : Nat, (of (b ^ n) : F) = of b ^ n
  | 0 => by rw [Int.pow_zero, of_one, Lean.Grind.Semiring.pow_zero]
  | n + 1 => by rw [Int.pow_succ, of_mul, of_pow b n, Lean.Grind.Semiring.pow_succ]
theorem pow_small {b : Int} (hb : b.natAbs < 2 ^ 3) : ∀ n : Nat, (b ^ n).natAbs < 2 ^ (3 * n + 1)
  | 0 => by simp
  | n + 1 => by
    rw [Int.pow_succ, Int.natAbs_mul]
    have h := pow_small hb n
    have e : 2 ^ (3 * (n + 1) + 1) = 2 ^ (3 * n + 1) * 2 ^ 3 := by rw [show 3 * (n + 1) + 1 = 3 * n + 1 + 3 from by omega, Nat.pow_add]
    rw [e]
    exact Nat.mul_lt_mul'' h hb
theorem raised_whole_ok {b c : Int} (hb : b.natAbs < 2 ^ 3) (hc : 0 ≤ c ∧ c ≤ 1000) : d_raised_whole [.int b, .int c] = some (.val (.int (b ^ c.toNat))) := by
  obtain ⟨sl', G', h1, h2⟩ := for_inv (g := gN 3) (u := sSet 2 (e2 dMul (eV 2) (eV 0))) (ds := rngD 0 c.toNat) (G := []) (sl := [.val (.int b), .val (.int c), .val (.int 1), .no])
    (fun i sl _ => i ≤ c.toNat ∧ ∃ x, sl = [.val (.int b), .val (.int c), .val (.int (b ^ i)), x]) ⟨by omega, .no, by rw [Int.pow_zero]⟩ fun i d sl G hd hI => by
      obtain ⟨hi, x, hs⟩ := hI
      obtain ⟨hd', hi'⟩ := rng_at _ _ i d hd
      subst hs; subst hd'
      have hm := dMul_i (3 * i + 1) 3 (pow_small hb i) hb (by omega)
      refine ⟨[.val (.int b), .val (.int c), .val (.int (b ^ i)), .val (.int (0 + (i : Int)))], _, G, .nx, rfl, ?_, .inl rfl, by omega, .val (.int (0 + (i : Int))), rfl⟩
      rw [Int.pow_succ]
      simp [hm]
  obtain ⟨_, x, hs⟩ := h2
  rw [rng_len] at hs
  have o1 : okR c = true := okR_of (by omega)
  simp only [d_raised_whole, runF, startS, u_raised_whole, List.length_cons, List.length_nil, if_true, List.map_cons, List.map_nil, List.replicate, List.cons_append, List.nil_append, Nat.reduceSub, Nat.reduceAdd, sSeq_s, sSet_s, eC_s, List.set_cons_succ, List.set_cons_zero, sFor_s, iR1_s, aCons_s, eV_s, List.getElem?_cons_succ, List.getElem?_cons_zero, aNil_s, o1, h1, hs, sRet_s, endF_rt]
theorem law_whole_eq : d__law_whole = d_raised_whole := rfl
theorem pow_p1 {a : F} (ha : a ≠ 0) : a ^ (pp F - 1).toNat = 1 := by
  have h := Fd.fermat a
  have hl := Fq.p_len (F := F)
  have hp := pp_357 (F := F)
  have e : (Fd.els : List F).length = (pp F - 1).toNat + 1 := by
    have : ((Fd.els : List F).length : Int) = pp F := hl
    omega
  rw [e, Lean.Grind.Semiring.pow_succ] at h
  have h1 := Fd.mul_inv a ha
  generalize a ^ (pp F - 1).toNat = z at h
  have : z * a * Fd.inv a = a * Fd.inv a := by rw [h]
  grind
theorem pow_mod {a : F} (ha : a ≠ 0) (n k : Nat) (hk : a ^ k = 1) : a ^ (n % k) = a ^ n := by
  have := Nat.div_add_mod n k
  have e : a ^ n = a ^ (k * (n / k) + n % k) := by rw [this]
  rw [e, MA.pow_add, MA.pow_mul, hk, MA.one_pow]; grind
theorem number_to_ok {x c : Int} (hx : 0 < x ∧ x < pp F) (hc : 0 ≤ c) : ∃ y, d_number_to [.int (pp F), .int x, .int c] = some (.val (.int y)) ∧ 0 ≤ y ∧ y < pp F ∧ (of y : F) = of x ^ c.toNat := by
  have hp := pp_357 (F := F)
  have h1 : 0 ≤ c % (pp F - 1) := Int.emod_nonneg _ (by omega)
  have h2 : c % (pp F - 1) < pp F - 1 := Int.emod_lt_of_pos _ (by omega)
  have h3 := raised_whole_ok (b := x) (c := c % (pp F - 1)) (small_of (F := F) ⟨by omega, hx.2⟩) ⟨h1, by omega⟩
  have hm : dMod (.int c) (.int (pp F - 1)) = some (.int (c % (pp F - 1))) := dMod_i (by omega)
  have hr := mod_rng (F := F) (x ^ (c % (pp F - 1)).toNat)
  refine ⟨x ^ (c % (pp F - 1)).toNat % pp F, ?_, hr.1, hr.2, ?_⟩
  · simp only [d_number_to, runF, startS, u_number_to, List.length_cons, List.length_nil, if_true, List.map_cons, List.map_nil, List.replicate, List.cons_append, List.nil_append, Nat.reduceSub, Nat.reduceAdd, sRet_s, e2_s, eCall_s, aCons_s, aNil_s, eV_s, eC_s, List.getElem?_cons_succ, List.getElem?_cons_zero, dSub_i, hm, h3, rv_val, dMod_i pp_pos, endF_rt]
  · have hz := of_ne (F := F) (i := x) ⟨by omega, hx.2⟩ (by omega)
    rw [of_mod, of_pow, ← pow_mod hz c.toNat _ (pow_p1 hz)]
    rw [Int.toNat_emod hc (by omega)]
theorem check_prime_ok : d_check_prime [.int (pp F)] = some (.val .none) := by
  rcases pp_357 (F := F) with h | h | h <;> rw [h] <;> rfl
theorem is_poly_list_ok (h : Nm F l) (hl : l.length ≤ 61) : d_is_poly_list [.int (pp F), L l] = some (.val (.bool true)) := by
  have hp := pp_357 (F := F)
  have h1 : lcL (gN 2) (tNotF (bE (eCall d_is_between (aCons (eV 2) (aCons (eC (.int 0)) (aCons (e2 dSub (eV 0) (eC (.int 1))) aNil)))))) (eV 2) [.val (.int (pp F)), .val (L l), .no] (nums l) [] [] = some ((l.filter fun x => !(decide (0 ≤ x) && decide (x ≤ pp F - 1))).map .int, []) := by
    refine lc_gen fun x hx => ⟨[.val (.int (pp F)), .val (L l), .val (.int x)], rfl, ?_, fun _ => rfl⟩
    simp only [tNotF_s, bE_s, eCall_s, aCons_s, aNil_s, eV_s, eC_s, e2_s, List.getElem?_cons_succ, List.getElem?_cons_zero, dSub_i, is_between_ok, rv_val]
  have h2 : (l.filter fun x => !(decide (0 ≤ x) && decide (x ≤ pp F - 1))) = [] := by
    rw [List.filter_eq_nil_iff]
    intro x hx
    have := h.1 x hx
    simp
    omega
  rw [h2, List.map_nil] at h1
  have e0 : dNe (.list []) (.list []) = some (.bool false) := rfl
  have hl1 : ¬ (61 : Int) < (l.length : Int) := by omega
  have hl2 : l.length ≤ 16777215 := by omega
  by_cases hz : l = []
  · simp [d_is_poly_list, runF, startS, u_is_poly_list, hl1, h1, hl2, e0, hz]
    rw [hz] at h1
    simp [h1, e0]
  · obtain ⟨y, hy⟩ : ∃ y, l.getLast? = some y := by
      cases e : l.getLast? with
      | none => exact (hz (List.getLast?_eq_none_iff.mp e)).elim
      | some y => exact ⟨y, rfl⟩
    have hy0 : y ≠ 0 := fun z => h.2 (by rw [hy, z])
    have a1 := atI_last hy
    simp [d_is_poly_list, runF, startS, u_is_poly_list, hl1, h1, hl2, e0, hz, a1, hy0]
theorem check_poly_ok (h : Nm F l) (hl : l.length ≤ 61) : d_check_poly [.int (pp F), L l] = some (.val .none) := by
  have := is_poly_list_ok h hl
  simp [d_check_poly, runF, startS, u_check_poly, this]
theorem check_great_ok (h : Nm F l) (h2 : 2 ≤ l.length) (hl : l.length ≤ 31) (h1 : l.getLast? = some 1) : d_check_great_modulus [.int (pp F), L l] = some (.val .none) := by
  have := is_poly_list_ok h (by omega)
  have a1 := atI_last h1
  have l1 : ¬ (l.length : Int) < 2 := by omega
  have l2 : ¬ (31 : Int) < (l.length : Int) := by omega
  simp [d_check_great_modulus, runF, startS, u_check_great_modulus, this, a1, l1, l2]
end
end BR

namespace BR
open PySem PySem.Spec PyProof.Rows L2 QL MA DN
section
variable {F : Type} [Fq F] {l m : List Int} {f g M : PS F}
abbrev here (low high : List Int) (n : Int) : PyData := .tuple [L low, L high, .int n]
theorem lt1 {l : List Int} (h : l ≠ []) : 1 ≤ l.length := List.length_pos_iff.mpr h
theorem eqs_str {a b : Str} (r : Bool) (h1 : SeqAt.shaped (.str a) = true) (h2 : SeqAt.shaped (.str b) = true) (h3 : (a == b) = r) : dEq (.str a) (.str b) = some (.bool r) := by
  unfold dEq; rw [PyData.eqv, h1, h2, h3]; rfl
theorem nes_str {a b : Str} (r : Bool) (h1 : SeqAt.shaped (.str a) = true) (h2 : SeqAt.shaped (.str b) = true) (h3 : (a == b) = r) : dNe (.str a) (.str b) = some (.bool (!r)) := by
  unfold dNe; rw [PyData.eqv, h1, h2, h3]; rfl
theorem sh_rest : SeqAt.shaped (.str "rest") = true := by decide +kernel
theorem sh_lead : SeqAt.shaped (.str "lead") = true := by decide +kernel
theorem sh_turn : SeqAt.shaped (.str "turn") = true := by decide +kernel
theorem stepped_rest {low high : List Int} {n : Int} (rl : Rep low M) (rh : Rep high f) (h1 : low.getLast? = some 1) (hl1 : low.length < 1000) (hl2 : high.length < 1000) :
    ∃ r, d_stepped [.int (pp F), .str "rest", here low high n] = some (.val (here low r n)) ∧ Rep r (rem (low.length - 1) M f) := by
  obtain ⟨r, k1, k2⟩ := rest_of_mon rh rl h1 hl2 hl1
  refine ⟨r, ?_, k2⟩
  have e1 : dEq (.str "rest") (.str "rest") = some (.bool true) := eqs_str true sh_rest sh_rest (by decide +kernel)
  simp only [d_stepped, runF, startS, u_stepped, List.length_cons, List.length_nil, if_true, List.map_cons, List.map_nil, List.replicate, List.cons_append, List.nil_append, Nat.reduceSub, Nat.reduceAdd, sSeq_s, sTg_s, eV_s, List.getElem?_cons_succ, List.getElem?_cons_zero, gT_s, gsSet_cons, gsSet_nil, gN_s, List.set_cons_succ, List.set_cons_zero, sIf_s, bE_s, e2_s, eC_s, e1, sRet_s, eTup_s, aCons_s, aNil_s, eCall_s, k1, rv_val, Nat.reduceLeDiff, endF_rt]
theorem stepped_lead {low high : List Int} {n : Int} (rh : Rep high f) (h0 : high ≠ []) (hn : 0 ≤ n ∧ n < pp F) (hl0 : low ≠ []) (hl1 : low.length < 1000) (hl2 : high.length < 1000) :
    ∃ r k c, d_stepped [.int (pp F), .str "lead", here low high n] = some (.val (here low r k)) ∧ 0 ≤ k ∧ k < pp F ∧ high.getLast? = some c ∧ (of c : F) ≠ 0 ∧ (of k : F) = of n * of c ^ (low.length - 1) ∧ ∃ d : F, d * of c = 1 ∧ Rep r (C d * f) ∧ r.length = high.length ∧ r.getLast? = some 1 := by
  obtain ⟨c, t1, t2, t3, t4, t5, t6⟩ := rep_top rh h0
  obtain ⟨bk, b1, b2, b3, b4⟩ := inverse_ok (F := F) (x := c) ⟨t2, t3⟩
  have hpos := lt1 h0
  have hpos' := lt1 hl0
  obtain ⟨y, y1, y2, y3, y4⟩ := number_to_ok (F := F) (x := c) (c := (low.length : Int) - 1) ⟨t2, t3⟩ (by omega)
  have a1 := atI_last t1
  have hs := scaled_ok (l := high) (p := pp F) (c := bk) pp_pos (by omega) (fun x hx => small_of' (rh.1.1 x hx)) (small_of' (F := F) ⟨by omega, b3⟩)
  have hm := dMul_i 3 3 (small_of (F := F) hn) (small_of (F := F) (x := y) ⟨y2, y3⟩) (by omega)
  have hr := mod_rng (F := F) (n * y)
  have e1 : dEq (.str "lead") (.str "rest") = some (.bool false) := eqs_str false sh_lead sh_rest (by decide +kernel)
  have e2' : dEq (.str "lead") (.str "lead") = some (.bool true) := eqs_str true sh_lead sh_lead (by decide +kernel)
  have e3 : dEq (.list (nums high)) (.list []) = some (.bool false) := by rw [dEq_nil]; simp [h0]
  have rr : Rep (trimI (pp F) (high.map fun x => x * bk)) (C (of bk) * f) := by
    have := rep_trim (F := F) (high.map fun x => x * bk)
    rw [ps_map_mul, rh.2] at this
    exact this
  have mm : Mon (high.length - 1) (C (of bk) * f) := by
    refine ⟨t6.C _, ?_⟩
    rw [C_mul_at, t4, b4]
  have hlast := rep_of_mon rr mm
  refine ⟨trimI (pp F) (high.map fun x => x * bk), n * y % pp F, c, ?_, hr.1, hr.2, t1, of_ne ⟨by omega, t3⟩ (by omega), ?_, of bk, b4, rr, by omega, hlast.1⟩
  · simp only [d_stepped, runF, startS, u_stepped, List.length_cons, List.length_nil, if_true, List.map_cons, List.map_nil, List.replicate, List.cons_append, List.nil_append, Nat.reduceSub, Nat.reduceAdd, sSeq_s, sTg_s, eV_s, List.getElem?_cons_succ, List.getElem?_cons_zero, gT_s, gsSet_cons, gsSet_nil, gN_s, List.set_cons_succ, List.set_cons_zero, sIf_s, bE_s, e2_s, eC_s, e1, e2', e3, eO_s, oLst_s, sNil_s, sSet_s, eNeg_s, dIx_l, a1, sRet_s, eTup_s, aCons_s, aNil_s, eCall_s, b1, hs, rv_own, y1, rv_val, e1_s, dLen_l, nums_len, dSub_i, hm, dMod_i pp_pos, Nat.reduceLeDiff, endF_rt]
  · rw [of_mod, of_mul, y4]
    congr 2
    omega
theorem sg2 (k : Nat) : (sg k : F) = if k % 2 = 1 then -1 else 1 := by
  have h2 : ∀ j : Nat, (-1 : F) ^ (2 * j) = 1 := fun j => by
    rw [MA.pow_mul]
    have : (-1 : F) ^ 2 = 1 := by grind
    rw [this, MA.one_pow]
  have hd := Nat.div_add_mod k 2
  have e : (-1 : F) ^ k = (-1) ^ (2 * (k / 2) + k % 2) := by rw [hd]
  show (-1 : F) ^ k = _
  rw [e, MA.pow_add, h2]
  rcases Nat.mod_two_eq_zero_or_one k with h | h
  · rw [h, Lean.Grind.Semiring.pow_zero]; simp; grind
  · rw [h, if_pos rfl]; grind
theorem stepped_turn {low high : List Int} {n : Int} (h0 : 2 ≤ high.length) (h1 : high.getLast? = some 1) (hn : 0 ≤ n ∧ n < pp F) (hl0 : low ≠ []) (hl1 : low.length < 1000) (hl2 : high.length < 1000) :
    ∃ k, d_stepped [.int (pp F), .str "turn", here low high n] = some (.val (here high low k)) ∧ 0 ≤ k ∧ k < pp F ∧ (of k : F) = sg ((low.length - 1) * (high.length - 1)) * of n := by
  have hpos' := lt1 hl0
  have a1 := atI_last h1
  have e1 : dEq (.str "turn") (.str "rest") = some (.bool false) := eqs_str false sh_turn sh_rest (by decide +kernel)
  have e2' : dEq (.str "turn") (.str "lead") = some (.bool false) := eqs_str false sh_turn sh_lead (by decide +kernel)
  have e4 : dNe (.str "turn") (.str "turn") = some (.bool false) := nes_str true sh_turn sh_turn (by decide +kernel)
  have hz : high ≠ [] := fun e => by rw [e] at h0; simp at h0
  have e3 : dEq (.list (nums high)) (.list []) = some (.bool false) := by rw [dEq_nil]; simp [hz]
  have l1 : ¬ (high.length : Int) < 2 := by omega
  have hm := dMul_i (i := (low.length : Int) - 1) (j := (high.length : Int) - 1) 10 10 (by omega) (by omega) (by omega)
  have hmod : dMod (.int (((low.length : Int) - 1) * ((high.length : Int) - 1))) (.int 2) = some (.int ((((low.length : Int) - 1) * ((high.length : Int) - 1)) % 2)) := dMod_i (by omega)
  have hcast : (((low.length : Int) - 1) * ((high.length : Int) - 1)) % 2 = (((low.length - 1) * (high.length - 1) % 2 : Nat) : Int) := by
    have q1 : (low.length : Int) - 1 = ((low.length - 1 : Nat) : Int) := by omega
    have q2 : (high.length : Int) - 1 = ((high.length - 1 : Nat) : Int) := by omega
    rw [q1, q2]; norm_cast
  rw [sg2]
  have hr := mod_rng (F := F) (pp F - n)
  by_cases ho : (low.length - 1) * (high.length - 1) % 2 = 1
  · refine ⟨(pp F - n) % pp F, ?_, hr.1, hr.2, ?_⟩
    · have hd : decide ((((low.length : Int) - 1) * ((high.length : Int) - 1)) % 2 = 1) = true := by rw [hcast, ho]; rfl
      simp only [d_stepped, runF, startS, u_stepped, List.length_cons, List.length_nil, if_true, List.map_cons, List.map_nil, List.replicate, List.cons_append, List.nil_append, Nat.reduceSub, Nat.reduceAdd, sSeq_s, sTg_s, eV_s, List.getElem?_cons_succ, List.getElem?_cons_zero, gT_s, gsSet_cons, gsSet_nil, gN_s, List.set_cons_succ, List.set_cons_zero, sIf_s, bE_s, e2_s, eC_s, e1, e2', e3, e4, eO_s, oLst_s, sNil_s, sSet_s, eNeg_s, dIx_l, a1, tOrF_s, dNe_i, decide_true, Bool.not_true, e1_s, dLen_l, nums_len, dLt_i, l1, decide_false, dSub_i, hm, hmod, dEq_i, hd, sRet_s, eTup_s, aCons_s, aNil_s, eIf_s, dMod_i pp_pos, Nat.reduceLeDiff, endF_rt]
    · rw [if_pos ho, of_mod, of_sub]
      have : (of (pp F) : F) = 0 := by
        have h := of_mod (F := F) (pp F)
        rw [Int.emod_self, of_zero] at h
        exact h.symm
      rw [this]; grind
  · refine ⟨n, ?_, hn.1, hn.2, ?_⟩
    · have hd : decide ((((low.length : Int) - 1) * ((high.length : Int) - 1)) % 2 = 1) = false := by
        rw [hcast]
        refine decide_eq_false ?_
        omega
      simp only [d_stepped, runF, startS, u_stepped, List.length_cons, List.length_nil, if_true, List.map_cons, List.map_nil, List.replicate, List.cons_append, List.nil_append, Nat.reduceSub, Nat.reduceAdd, sSeq_s, sTg_s, eV_s, List.getElem?_cons_succ, List.getElem?_cons_zero, gT_s, gsSet_cons, gsSet_nil, gN_s, List.set_cons_succ, List.set_cons_zero, sIf_s, bE_s, e2_s, eC_s, e1, e2', e3, e4, eO_s, oLst_s, sNil_s, sSet_s, eNeg_s, dIx_l, a1, tOrF_s, dNe_i, decide_true, Bool.not_true, e1_s, dLen_l, nums_len, dLt_i, l1, decide_false, dSub_i, hm, hmod, dEq_i, hd, sRet_s, eTup_s, aCons_s, aNil_s, eIf_s, dMod_i pp_pos, Nat.reduceLeDiff, endF_rt]
    · rw [if_neg ho]; grind
theorem word_rest {low high : List Int} {n : Int} (h : low.length ≤ high.length) : d_word_for [here low high n] = some (.val (.str "rest")) := by
  have h' : (low.length : Int) ≤ (high.length : Int) := by omega
  simp [d_word_for, runF, startS, u_word_for, h']
theorem word_lead {low high : List Int} {n c : Int} (h : ¬ low.length ≤ high.length) (h1 : high.getLast? = some c) (hc : c ≠ 1) : d_word_for [here low high n] = some (.val (.str "lead")) := by
  have h' : ¬ (low.length : Int) ≤ (high.length : Int) := by omega
  have a1 := atI_last h1
  simp [d_word_for, runF, startS, u_word_for, h', a1, hc]
theorem word_turn {low high : List Int} {n : Int} (h : ¬ low.length ≤ high.length) (h1 : high.getLast? = some 1) : d_word_for [here low high n] = some (.val (.str "turn")) := by
  have h' : ¬ (low.length : Int) ≤ (high.length : Int) := by omega
  have a1 := atI_last h1
  simp [d_word_for, runF, startS, u_word_for, h', a1]
end
end BR

namespace BR
open PySem PySem.Spec PyProof.Rows L2 QL MA DN
section
variable {F : Type} [Fq F] {l m : List Int} {f g M : PS F}
abbrev stp (w : Str) (low high : List Int) (n : Int) : PyData := .tuple [.str w, L low, L high, .int n]
def Fit (ds : List PyData) : Prop := PyData.canLayAll0 ds = true ∧ PyData.depthAll ds ≤ 2
theorem fit_snoc {ds : List PyData} {d : PyData} (h : Fit ds) (h1 : PyData.canLay0 d = true) (h2 : PyData.depth d ≤ 2) : Fit (ds ++ [d]) := by
  unfold Fit at h ⊢
  induction ds with
  | nil =>
    refine ⟨?_, ?_⟩
    · show (PyData.canLay0 d && PyData.canLayAll0 []) = true
      rw [h1]; rfl
    · show max (PyData.depth d) (PyData.depthAll []) ≤ 2
      exact Nat.max_le.mpr ⟨h2, Nat.zero_le _⟩
  | cons x xs ih =>
    have e1 : (PyData.canLay0 x && PyData.canLayAll0 xs) = true := h.1
    have e2 : max (PyData.depth x) (PyData.depthAll xs) ≤ 2 := h.2
    rw [Bool.and_eq_true] at e1
    rw [Nat.max_le] at e2
    obtain ⟨k1, k2⟩ := ih ⟨e1.2, e2.2⟩
    refine ⟨?_, ?_⟩
    · show (PyData.canLay0 x && PyData.canLayAll0 (xs ++ [d])) = true
      rw [e1.1, k1]; rfl
    · show max (PyData.depth x) (PyData.depthAll (xs ++ [d])) ≤ 2
      exact Nat.max_le.mpr ⟨e2.1, k2⟩
theorem fit_stp {w : Str} {low high : List Int} {n : Int} (hw : SeqAt.shaped (.str w) = true) : PyData.canLay0 (stp w low high n) = true ∧ PyData.depth (stp w low high n) ≤ 2 := by
  have h1 : PyData.canLay0 (.str w) = true := SeqAt.canLay_of_shaped hw
  refine ⟨?_, ?_⟩
  · show (PyData.canLay0 (.str w) && (PyData.canLayAll0 (nums low) && (PyData.canLayAll0 (nums high) && (PyData.canLay0 (.int n) && PyData.canLayAll0 [])))) = true
    rw [h1, canLay_ints, canLay_ints]; rfl
  · show max (PyData.depth (.str w)) (max (PyData.depthAll (nums low) + 1) (max (PyData.depthAll (nums high) + 1) (max (PyData.depth (.int n)) (PyData.depthAll [])))) + 1 ≤ 2
    rw [depth_ints, depth_ints]
    show max 0 (max 1 (max 1 (max 0 0))) + 1 ≤ 2
    decide
theorem fit_shaped {ds : List PyData} (h : Fit ds) : SeqAt.shaped (.list ds) = true := by
  show (PyData.canLayAll0 ds && decide (PyData.depthAll ds + 1 ≤ 64)) = true
  rw [h.1, decide_eq_true (by have := h.2; omega)]; rfl
theorem ne_nil_fit {ds : List PyData} (h : Fit ds) : dNe (.list ds) (.list []) = some (.bool (!ds.isEmpty)) := by
  unfold dNe
  rw [fit_shaped h, PyData.eqv]
  cases ds with
  | nil => rfl
  | cons x xs => rfl
def mea (low high : List Int) : Nat := 4 * low.length + if low.length ≤ high.length then 3 else if high.getLast? = some 1 then 1 else 2
/-- the walk's state -/
def Wk (F : Type) [Fq F] (T : F) (md pl : List Int) (low high : List Int) (k : Int) (found : List PyData) : Prop := ∃ M f : PS F, Rep low M ∧ Rep high f ∧ low.getLast? = some 1 ∧ 2 ≤ low.length ∧ low.length ≤ 61 ∧ high.length ≤ 61 ∧ 0 ≤ k ∧ k < pp F ∧ of k * tau (low.length - 1) M f = T ∧ Fit found ∧ ((found = [] ∧ low = md ∧ high = pl ∧ k = 1) ∨ ∃ w pre, found = pre ++ [stp w low high k])
theorem notin_ok {high : List Int} : dNotIn (.list (nums high)) (.tuple [.list [], .list [.int 1]]) = some (.bool (!(decide (high = []) || decide (high = [1])))) := by
  have h1 : SeqAt.shaped (.list (nums high)) = true := shaped_L
  have h2 : SeqAt.shaped (.tuple [.list [], .list [.int 1]]) = true := by decide +kernel
  have e1 : PyData.eqv (.list []) (.list (nums high)) = decide ([] = high) := eqv_L (l := []) (m := high)
  have e2 : PyData.eqv (.list [.int 1]) (.list (nums high)) = decide ([1] = high) := eqv_L (l := [1]) (m := high)
  unfold dNotIn
  simp only [h1, h2, Bool.and_self, if_true, List.any_cons, List.any_nil, e1, e2, Bool.or_false]
  congr 3
  simp [eq_comm]
theorem walk_step {T : F} {md pl low high : List Int} {k : Int} {found : List PyData} (h : Wk F T md pl low high k found) (h0 : high ≠ []) (h1 : high ≠ [1]) :
    ∃ w low' high' k', SeqAt.shaped (.str w) = true ∧ d_word_for [here low high k] = some (.val (.str w)) ∧ d_stepped [.int (pp F), .str w, here low high k] = some (.val (here low' high' k')) ∧ Wk F T md pl low' high' k' (found ++ [stp w low' high' k']) ∧ mea low' high' < mea low high := by
  obtain ⟨M, f, rl, rh, hm, l1, l2, l3, k1, k2, ht, hf, _⟩ := h
  have lz : low ≠ [] := fun e => by rw [e] at l1; simp at l1
  by_cases q : low.length ≤ high.length
  · obtain ⟨r, s1, s2⟩ := stepped_rest (n := k) rl rh hm (by omega) (by omega)
    have hr := rep_len s2 (rem_ok (rep_mon rl hm) (rep_pl rh)).1
    refine ⟨"rest", low, r, k, sh_rest, word_rest q, s1, ⟨M, _, rl, s2, hm, l1, l2, by omega, k1, k2, ?_, fit_snoc hf (fit_stp sh_rest).1 (fit_stp sh_rest).2, .inr ⟨_, _, rfl⟩⟩, ?_⟩
    · rw [tau_rem (rep_mon rl hm) (rep_pl rh)]; exact ht
    · unfold mea
      rw [if_pos q, if_neg (show ¬ low.length ≤ r.length by omega)]
      split <;> omega
  · by_cases q1 : high.getLast? = some 1
    · have h2 : 2 ≤ high.length := by
        rcases Nat.lt_or_ge high.length 2 with q2 | q2
        · exfalso
          have := lt1 h0
          obtain ⟨a, ha⟩ := List.length_eq_one_iff.mp (show high.length = 1 by omega)
          rw [ha] at q1
          have : a = 1 := by simpa using q1
          exact h1 (by rw [ha, this])
        · exact q2
      obtain ⟨k', s1, s2, s3, s4⟩ := stepped_turn (F := F) (low := low) (high := high) (n := k) h2 q1 ⟨k1, k2⟩ lz (by omega) (by omega)
      refine ⟨"turn", high, low, k', sh_turn, word_turn q q1, s1, ⟨f, M, rh, rl, q1, h2, l3, by omega, s2, s3, ?_, fit_snoc hf (fit_stp sh_turn).1 (fit_stp sh_turn).2, .inr ⟨_, _, rfl⟩⟩, ?_⟩
      · rw [s4, recip (rep_mon rl hm) (rep_mon rh q1), ← ht]
        have := sg_sq (F := F) ((low.length - 1) * (high.length - 1))
        grind
      · unfold mea
        rw [if_neg q, if_pos q1, if_pos (show high.length ≤ low.length by omega)]
        omega
    · obtain ⟨r, k', c, s1, s2, s3, s4, s5, s6, d, s7, s8, s9, s10⟩ := stepped_lead (n := k) rh h0 ⟨k1, k2⟩ lz (by omega) (by omega)
      refine ⟨"lead", low, r, k', sh_lead, word_lead q s4 (fun e => q1 (by rw [s4, e])), s1, ⟨M, _, rl, s8, hm, l1, l2, by omega, s2, s3, ?_, fit_snoc hf (fit_stp sh_lead).1 (fit_stp sh_lead).2, .inr ⟨_, _, rfl⟩⟩, ?_⟩
      · rw [s6, tau_C (rep_mon rl hm) (rep_pl rh), ← ht]
        have e : (of c : F) ^ (low.length - 1) * d ^ (low.length - 1) = 1 := by
          rw [← MA.mul_pow]
          have : (of c : F) * d = 1 := by rw [← s7]; grind
          rw [this, MA.one_pow]
        grind
      · unfold mea
        rw [if_neg q, if_neg q1, if_neg (show ¬ low.length ≤ r.length by omega), if_pos s10]
        omega
theorem walk_ok {md pl : List Int} (rl : Rep md M) (rh : Rep pl f) (hm : md.getLast? = some 1) (l1 : 2 ≤ md.length) (l2 : md.length ≤ 61) (l3 : pl.length ≤ 61) :
    ∃ found low high k, d_walk_of [.int (pp F), L md, L pl] = some (.own found) ∧ Wk F (tau (md.length - 1) M f) md pl low high k found ∧ (high = [] ∨ high = [1]) := by
  let t : TF := bE (e2 dNotIn (e2 dIx (eV 3) (eC (.int 1))) (eTup (aCons (eO (oLst aNil)) (aCons (eO (oLst (aCons (eC (.int 1)) aNil))) aNil))))
  let u : SF := sSeq (sSet 5 (eCall d_word_for (aCons (eV 3) aNil))) (sSeq (sSet 3 (eCall d_stepped (aCons (eV 0) (aCons (eV 5) (aCons (eV 3) aNil))))) (sApp 4 (eTup (aCons (eV 5) (aCons (eO (oList (e2 dIx (eV 3) (eC (.int 0))))) (aCons (eO (oList (e2 dIx (eV 3) (eC (.int 1))))) (aCons (e2 dIx (eV 3) (eC (.int 2))) aNil)))))))
  have i0 : ∀ low high k, atI [L low, L high, .int k] 0 = some (L low) := fun _ _ _ => rfl
  have i1 : ∀ low high k, atI [L low, L high, .int k] 1 = some (L high) := fun _ _ _ => rfl
  have i2 : ∀ low high k, atI [L low, L high, .int k] 2 = some (.int k) := fun _ _ _ => rfl
  obtain ⟨sl', G', h1, h2⟩ := while_inv (t := t) (u := u)
    (fun n sl _ => ∃ low high k found x5, sl = [.val (.int (pp F)), .val (L md), .val (L pl), .val (here low high k), .own found, x5] ∧ Wk F (tau (md.length - 1) M f) md pl low high k found ∧ mea low high ≤ n ∧ found.length + n ≤ 400)
    (fun sl _ => ∃ low high k found x5, sl = [.val (.int (pp F)), .val (L md), .val (L pl), .val (here low high k), .own found, x5] ∧ Wk F (tau (md.length - 1) M f) md pl low high k found ∧ (high = [] ∨ high = [1]))
    (fun n sl G hI => by
      obtain ⟨low, high, k, found, x5, hs, hw, hme, hlen⟩ := hI
      subst hs
      have ht : t [.val (.int (pp F)), .val (L md), .val (L pl), .val (here low high k), .own found, x5] G = some (!(decide (high = []) || decide (high = [1])), G) := by
        simp only [t, bE_s, e2_s, eV_s, eC_s, List.getElem?_cons_succ, List.getElem?_cons_zero, dIx_t, i1, eTup_s, aCons_s, aNil_s, eO_s, oLst_s, List.length_cons, List.length_nil, Nat.reduceAdd, Nat.reduceLeDiff, if_true, notin_ok]
      rw [ht]
      by_cases h0 : high = []
      · left
        exact ⟨G, by simp [h0], low, high, k, found, x5, rfl, hw, .inl h0⟩
      · by_cases h1 : high = [1]
        · left
          exact ⟨G, by simp [h1], low, high, k, found, x5, rfl, hw, .inr h1⟩
        · right
          obtain ⟨w, low', high', k', s0, s1, s2, s3, s4⟩ := walk_step hw h0 h1
          refine ⟨G, [.val (.int (pp F)), .val (L md), .val (L pl), .val (here low' high' k'), .own (found ++ [stp w low' high' k']), .val (.str w)], G, n - 1, by simp [h0, h1], ?_, by omega, low', high', k', _, _, rfl, s3, by omega, by rw [List.length_append]; simp only [List.length_cons, List.length_nil]; omega⟩
          have hl : found.length ≤ 16777215 := by omega
          simp only [u, sSeq_s, sSet_s, eCall_s, aCons_s, aNil_s, eV_s, eC_s, e2_s, List.getElem?_cons_succ, List.getElem?_cons_zero, s1, rv_val, List.set_cons_succ, List.set_cons_zero, s2, sApp_s, eTup_s, eO_s, oList_s, dIx_t, i0, i1, i2, List.length_cons, List.length_nil, Nat.reduceAdd, Nat.reduceLeDiff, if_true, hl])
    (n := 300)
    (sl := [.val (.int (pp F)), .val (L md), .val (L pl), .val (here md pl 1), .own [], .no]) (G := [])
    ⟨md, pl, 1, [], .no, rfl, ⟨M, f, rl, rh, hm, l1, l2, l3, by omega, by have := pp_357 (F := F); omega, by rw [of_one]; grind, ⟨rfl, Nat.zero_le _⟩, .inl ⟨rfl, rfl, rfl, rfl⟩⟩, by unfold mea; split <;> (try split) <;> omega, by simp⟩ 1000000 (by omega)
  obtain ⟨low, high, k, found, x5, hs, hw, he⟩ := h2
  refine ⟨found, low, high, k, ?_, hw, he⟩
  simp only [t, u] at h1
  simp only [d_walk_of, runF, startS, u_walk_of, List.length_cons, List.length_nil, if_true, List.map_cons, List.map_nil, List.replicate, List.cons_append, List.nil_append, Nat.reduceSub, Nat.reduceAdd, sSeq_s, sPar_s, mVal_s, mOwn_s, mNil_s, eTup_s, aCons_s, aNil_s, eO_s, oList_s, oLst_s, eV_s, eC_s, List.getElem?_cons_succ, List.getElem?_cons_zero, Nat.reduceLeDiff, parSet_val, parSet_own, parSet_nil, List.set_cons_succ, List.set_cons_zero, Nat.zero_le, h1, hs, sRetV_s, endF_ro]
theorem residue_of_ok {md pl : List Int} (rl : Rep md M) (rh : Rep pl f) (hm : md.getLast? = some 1) (l1 : 2 ≤ md.length) (l2 : md.length ≤ 61) (l3 : pl.length ≤ 61) :
    ∃ k, d_residue_of [.int (pp F), L md, L pl] = some (.val (.int k)) ∧ 0 ≤ k ∧ k < pp F ∧ (of k : F) = tau (md.length - 1) M f := by
  obtain ⟨found, low, high, k, h1, ⟨M', f', rl', rh', hm', k1, k2, k3, k4, k5, k6, k7, k8⟩, h2⟩ := walk_ok rl rh hm l1 l2 l3
  have hp := pp_357 (F := F)
  have fin : (if high = [1] then k else 0) ≥ 0 ∧ (if high = [1] then k else 0) < pp F ∧ (of (if high = [1] then k else 0) : F) = tau (md.length - 1) M f := by
    rcases h2 with h2 | h2
    · subst h2
      have hf := (rep_nil_iff rh').mp rfl
      rw [hf, tau_zero (rep_mon rl' hm') (by omega)] at k6
      have e : ([] : List Int) ≠ [1] := by simp
      rw [if_neg e]
      refine ⟨by omega, by omega, ?_⟩
      rw [of_zero, ← k6]; grind
    · subst h2
      have hf := (rep_one_iff rh').mp rfl
      rw [hf, tau_one (rep_mon rl' hm')] at k6
      rw [if_pos rfl]
      refine ⟨k4, k5, ?_⟩
      rw [← k6]; grind
  refine ⟨if high = [1] then k else 0, ?_, fin⟩
  have j0 : ∀ x y : PyData, atI [x, y] 0 = some x := fun _ _ => rfl
  have j1 : ∀ x y : PyData, atI [x, y] 1 = some y := fun _ _ => rfl
  have hne := ne_nil_fit k7
  rcases k8 with ⟨e1, e2, e3, e4⟩ | ⟨w, pre, e1⟩
  · subst e1; subst e2; subst e3; subst e4
    have hne' : dNe (.list []) (.list []) = some (.bool false) := hne
    by_cases hh : high = [1]
    · simp [d_residue_of, runF, startS, u_residue_of, h1, hne', j0, j1, hh]
      rw [hh] at h1
      simp [h1, hne', j0, j1, hh, nums_cons, nums_nil]
    · simp [d_residue_of, runF, startS, u_residue_of, h1, hne', j0, j1, hh]
  · have hne2 : dNe (.list found) (.list []) = some (.bool true) := by rw [hne, e1]; simp
    have hl : atI found (-1) = some (stp w low high k) := by rw [e1]; exact L2.atI_last _ _
    have hc : ∀ a b c d : PyData, cutD [a, b, c, d] (some 2) none = [c, d] := fun _ _ _ _ => rfl
    have hx : ¬ (HT.sIx 4 0 (some 2) = 0 ∧ HT.sIx 4 4 none = 4) := by decide
    by_cases hh : high = [1]
    · simp [d_residue_of, runF, startS, u_residue_of, h1, hne2, hl, j0, j1, hh, hc, hx]
    · simp [d_residue_of, runF, startS, u_residue_of, h1, hne2, hl, j0, j1, hh, hc, hx]
theorem residue_ok {md pl : List Int} (rl : Rep md M) (rh : Rep pl f) (hm : md.getLast? = some 1) (l1 : 2 ≤ md.length) (l2 : md.length ≤ 31) (l3 : pl.length ≤ 61) :
    ∃ k, d_residue [.int (pp F), L md, L pl] = some (.val (.int k)) ∧ 0 ≤ k ∧ k < pp F ∧ (of k : F) = tau (md.length - 1) M f := by
  obtain ⟨k, h1, h2, h3, h4⟩ := residue_of_ok rl rh hm l1 (by omega) l3
  refine ⟨k, ?_, h2, h3, h4⟩
  have c1 := check_prime_ok (F := F)
  have c2 := check_great_ok rl.1 l1 l2 hm
  have c3 := check_poly_ok rh.1 l3
  simp [d_residue, runF, startS, u_residue, c1, c2, c3, h1]
end
end BR

namespace BR
open PySem PySem.Spec PyProof.Rows L2 QL MA DN
theorem law_trim_eq : d__law_trim = d_trimmed := rfl
section
variable {F : Type} [Fq F] {l m : List Int} {f g M : PS F}
theorem law_trim_ok {p : Int} (hp : 0 < p) (hl : l.length < 1000000) : d__law_trim [.int p, L l] = some (.own (nums (trimI p l))) := by
  rw [law_trim_eq]; exact trimmed_ok hp hl
theorem ps_range (n : Nat) (h : Nat → Int) : (ps ((List.range n).map h) : PS F) = fun k => if k < n then of (h k) else 0 := PS.ext fun k => by
  rw [ps_at, List.getD_eq_getElem?_getD, List.getElem?_map]
  by_cases q : k < n
  · rw [List.getElem?_range q, if_pos q]; rfl
  · rw [List.getElem?_eq_none (by simp; omega), if_neg q]; exact of_zero
theorem rg_small (h : Rg F l) (k : Nat) : (l.getD k 0).natAbs < 2 ^ 3 := by
  by_cases hk : k < l.length
  · exact small_of (F := F) (rg_get h (get_some hk))
  · rw [getD_far (by omega)]; simp
theorem pad_get {k n : Nat} (hk : k < n) (hn : l.length ≤ n) : atI (nums (l ++ List.replicate (n - l.length) 0)) (k : Int) = some (.int (l.getD k 0)) := by
  have h1 : k < (nums (l ++ List.replicate (n - l.length) 0)).length := by simp; omega
  rw [atI_nat h1, nums_get, List.getElem?_append, List.getD_eq_getElem?_getD]
  split
  · rename_i h
    rw [List.getElem?_eq_getElem h]; rfl
  · rename_i h
    rw [List.getElem?_replicate, if_pos (by omega), List.getElem?_eq_none (by omega)]; rfl
theorem plus_ok {a b : List Int} {c : Int} (ha : Rg F a) (hb : Rg F b) (hl1 : a.length < 1000) (hl2 : b.length < 1000) (hc : c.natAbs < 2 ^ 3) :
    ∃ r, d__law_plus [.int (pp F), L a, L b, .int c] = some (.own (nums r)) ∧ Rep r (ps a + C (of c) * ps b : PS F) := by
  obtain ⟨n, hn⟩ : ∃ n : Nat, n = max a.length b.length := ⟨_, rfl⟩
  have hM : (if (b.length : Int) > (a.length : Int) then (b.length : Int) else (a.length : Int)) = (n : Int) := by
    rw [hn]; split <;> omega
  have z1 : dMul (.list [.int 0]) (.int ((n : Int) - (a.length : Int))) = some (.list (nums (List.replicate (n - a.length) 0))) := by
    rw [dMul_l (by omega), nums_rep]; congr 3; congr 1; omega
  have z2 : dMul (.list [.int 0]) (.int ((n : Int) - (b.length : Int))) = some (.list (nums (List.replicate (n - b.length) 0))) := by
    rw [dMul_l (by omega), nums_rep]; congr 3; congr 1; omega
  have y1 : dAdd (.list (nums a)) (.list (nums (List.replicate (n - a.length) 0))) = some (.list (nums (a ++ List.replicate (n - a.length) 0))) := by
    rw [dAdd_l, if_pos (by simp; omega), nums_app]
  have y2 : dAdd (.list (nums b)) (.list (nums (List.replicate (n - b.length) 0))) = some (.list (nums (b ++ List.replicate (n - b.length) 0))) := by
    rw [dAdd_l, if_pos (by simp; omega), nums_app]
  have h1 : lcL (gN 7) tTrue (e2 dAdd (e2 dIx (eV 5) (eV 7)) (e2 dMul (eV 3) (e2 dIx (eV 6) (eV 7)))) [.val (.int (pp F)), .val (L a), .val (L b), .val (.int c), .val (.int n), .val (L (a ++ List.replicate (n - a.length) 0)), .val (L (b ++ List.replicate (n - b.length) 0)), .no] (rngD 0 n) [] [] = some (nums ((List.range n).map fun k => a.getD k 0 + c * b.getD k 0), []) := by
    have e : rngD 0 n = (List.range n).map fun k : Nat => PyData.int (k : Int) := by
      rw [rng_map]
      unfold nums
      rw [List.map_map]
      refine List.map_congr_left fun k _ => ?_
      show PyData.int (0 + (k : Int)) = _
      congr 1; omega
    rw [e, ← nums_map]
    refine lc_all fun k hk => ⟨[.val (.int (pp F)), .val (L a), .val (L b), .val (.int c), .val (.int n), .val (L (a ++ List.replicate (n - a.length) 0)), .val (L (b ++ List.replicate (n - b.length) 0)), .val (.int (k : Int))], rfl, rfl, ?_⟩
    have hk' := List.mem_range.mp hk
    have g1 := pad_get (l := a) hk' (by omega)
    have g2 := pad_get (l := b) hk' (by omega)
    have hm := dMul_i 3 3 hc (rg_small hb k) (by omega)
    simp only [e2_s, eV_s, List.getElem?_cons_succ, List.getElem?_cons_zero, dIx_l, g1, g2, hm, dAdd_i]
  have h2 := law_trim_ok (l := (List.range n).map fun k => a.getD k 0 + c * b.getD k 0) (p := pp F) pp_pos (by rw [List.length_map, List.length_range]; omega)
  have o1 : okR (n : Int) = true := okR_of (by omega)
  have o2 : (rngD 0 n).length ≤ 16777215 := by rw [rng_len]; omega
  refine ⟨trimI (pp F) ((List.range n).map fun k => a.getD k 0 + c * b.getD k 0), ?_, ?_⟩
  rotate_left
  · have := rep_trim (F := F) ((List.range n).map fun k => a.getD k 0 + c * b.getD k 0)
    have e : (ps ((List.range n).map fun k => a.getD k 0 + c * b.getD k 0) : PS F) = ps a + C (of c) * ps b := by
      rw [ps_range]
      apply PS.ext; intro k
      rw [add_at, C_mul_at, ps_at, ps_at]
      show (if k < n then of (a.getD k 0 + c * b.getD k 0) else 0 : F) = _
      split
      · rw [of_add, of_mul]
      · rename_i q
        rw [getD_far (l := a) (by omega), getD_far (l := b) (by omega), of_zero]; grind
    rw [e] at this
    exact this
  · simp only [d__law_plus, runF, startS, u__law_plus, List.length_cons, List.length_nil, if_true, List.map_cons, List.map_nil, List.replicate, List.cons_append, List.nil_append, Nat.reduceSub, Nat.reduceAdd, sSeq_s, sSet_s, eM2_s, aCons_s, aNil_s, e1_s, eV_s, List.getElem?_cons_succ, List.getElem?_cons_zero, dLen_l, nums_len, hM, List.set_cons_succ, List.set_cons_zero, sTg_s, eTup_s, e2_s, eO_s, oLst_s, eC_s, dSub_i, z1, z2, y1, y2, Nat.reduceLeDiff, gT_s, gsSet_cons, gsSet_nil, gN_s, sRetO_s, oCall_s, oLc_s, iR1_s, o1, Int.toNat_natCast, o2, wipe1, wipe0, h1, h2, endF_ro]
theorem times_row {i : Nat} {a b : SV} {other found : List Int} {x : Int} {G : GS} {x6 x7 : SV} (ho : Rg F other) (hx : x.natAbs < 2 ^ 3) (hl : i + other.length ≤ found.length) :
    ∃ found' y6 y7 G', sForL (gT [(gN 6), (gN 7)]) (sIx 3 (e2 dAdd (eV 4) (eV 6)) (e2 dAdd (e2 dIx (bV 3) (e2 dAdd (eV 4) (eV 6))) (e2 dMul (eV 5) (eV 7)))) (enumD 0 (nums other))
      [.val (.int (pp F)), a, b, .own (nums found), .val (.int i), .val (.int x), x6, x7] G = some (.nx, [.val (.int (pp F)), a, b, .own (nums found'), .val (.int i), .val (.int x), y6, y7], G') ∧
      found'.length = found.length ∧ (ps found' : PS F) = ps found + C (of x) * (sh i 1 * ps other) := by
  obtain ⟨sl', G', h1, h2⟩ := for_inv (g := gT [(gN 6), (gN 7)]) (u := sIx 3 (e2 dAdd (eV 4) (eV 6)) (e2 dAdd (e2 dIx (bV 3) (e2 dAdd (eV 4) (eV 6))) (e2 dMul (eV 5) (eV 7)))) (ds := enumD 0 (nums other)) (sl := [.val (.int (pp F)), a, b, .own (nums found), .val (.int i), .val (.int x), x6, x7]) (G := G)
    (fun j sl _ => ∃ found' y6 y7, sl = [.val (.int (pp F)), a, b, .own (nums found'), .val (.int i), .val (.int x), y6, y7] ∧ found'.length = found.length ∧ (ps found' : PS F) = ps found + C (of x) * (sh i 1 * ps (other.take j)))
    ⟨found, x6, x7, rfl, rfl, by rw [ps_take_0]; grind⟩ fun j d sl G hd hI => by
      obtain ⟨found1, y6, y7, hs, hlen, hps⟩ := hI
      obtain ⟨y, hy, hd'⟩ := enum_at other 0 j d hd
      subst hs; subst hd'
      have hj := (List.getElem?_eq_some_iff.mp hy).1
      have hk : i + j < found1.length := by omega
      have k1 : (i : Int) + ((0 + j : Nat) : Int) = ((i + j : Nat) : Int) := by omega
      have hm := dMul_i 3 3 hx (small_of (F := F) (rg_get ho hy)) (by omega)
      have g1 : atI (nums found1) ((i + j : Nat) : Int) = some (.int (found1.getD (i + j) 0)) := by
        rw [atI_nat (by simpa using hk), nums_get, get_some hk]; rfl
      have g2 : ixN found1.length ((i + j : Nat) : Int) = some (i + j) := by
        rw [ixN_at (by omega) (by omega)]; congr 1
      refine ⟨[.val (.int (pp F)), a, b, .own (nums found1), .val (.int i), .val (.int x), .val (.int ((0 + j : Nat) : Int)), .val (.int y)], _, G, .nx, rfl, ?_, .inl rfl, found1.set (i + j) (found1.getD (i + j) 0 + x * y), .val (.int ((0 + j : Nat) : Int)), .val (.int y), rfl, by simpa using hlen, ?_⟩
      · simp only [sIx_s, e2_s, bV_s, eV_s, List.set_cons_succ, List.set_cons_zero, List.getElem?_cons_succ, List.getElem?_cons_zero, dAdd_i, dIx_l, k1, g1, hm, nums_len, g2, nums_set]
      · rw [MA.ps_set hk, ps_take_succ hj, hps, of_add, of_mul, get_getD hy]
        have : sh (i + j) (1 : PS F) = sh i 1 * sh j 1 := by
          rw [← sh_eq]
          apply PS.ext; intro q
          rw [sh_at, sh_at, sh_at]
          by_cases q1 : q < i
          · rw [if_pos q1, if_pos (by omega)]
          · rw [if_neg q1]
            by_cases q2 : q < i + j
            · rw [if_pos q2, if_pos (by omega)]
            · rw [if_neg q2, if_neg (by omega)]
              rw [Nat.sub_sub]
        rw [this]
        have k2 : (C (of (found1.getD (i + j) 0) + of x * of y - of (found1.getD (i + j) 0)) : PS F) = C (of x) * C (of y) := by
          rw [← C_mul]; congr 1; grind
        rw [k2]
        grind
  obtain ⟨found', y6, y7, hs, k1, k3⟩ := h2
  refine ⟨found', y6, y7, G', by rw [h1, hs], k1, ?_⟩
  rw [enum_len, nums_len] at k3
  rw [k3, ps_take_all (Nat.le_refl _)]
theorem times_ok {a b : List Int} (ha : Rg F a) (hb : Rg F b) (hl1 : a.length < 1000) (hl2 : b.length < 1000) :
    ∃ r, d__law_times [.int (pp F), L a, L b] = some (.own (nums r)) ∧ Rep r (ps a * ps b : PS F) := by
  have z1 : dMul (.list [.int 0]) (.int ((a.length : Int) + (b.length : Int))) = some (.list (nums (List.replicate (a.length + b.length) 0))) := by
    rw [dMul_l (by omega), nums_rep]; congr 3
  obtain ⟨sl', G', h1, h2⟩ := for_inv (g := gT [(gN 4), (gN 5)]) (u := sFor (iEn (aCons (eV 2) aNil)) (gT [(gN 6), (gN 7)]) (sIx 3 (e2 dAdd (eV 4) (eV 6)) (e2 dAdd (e2 dIx (bV 3) (e2 dAdd (eV 4) (eV 6))) (e2 dMul (eV 5) (eV 7))))) (ds := enumD 0 (nums a)) (G := [])
    (sl := [.val (.int (pp F)), .val (L a), .val (L b), .own (nums (List.replicate (a.length + b.length) 0)), .no, .no, .no, .no])
    (fun i sl _ => ∃ found x4 x5 x6 x7, sl = [.val (.int (pp F)), .val (L a), .val (L b), .own (nums found), x4, x5, x6, x7] ∧ found.length = a.length + b.length ∧ (ps found : PS F) = ps (a.take i) * ps b)
    ⟨_, .no, .no, .no, .no, rfl, List.length_replicate, by rw [ps_take_0, ps_zeros]; exact (Lean.Grind.Semiring.zero_mul _).symm⟩ fun i d sl G hd hI => by
      obtain ⟨found, x4, x5, x6, x7, hs, hlen, hps⟩ := hI
      obtain ⟨x, hx, hd'⟩ := enum_at a 0 i d hd
      subst hs; subst hd'
      have hi := (List.getElem?_eq_some_iff.mp hx).1
      have hsm := small_of (F := F) (rg_get ha hx)
      obtain ⟨found', y6, y7, G2, p1, p2, p3⟩ := times_row (F := F) (a := .val (L a)) (b := .val (L b)) (i := i) (other := b) (found := found) (x := x) (G := G) (x6 := x6) (x7 := x7) hb hsm (by omega)
      have k1 : ((0 + i : Nat) : Int) = (i : Int) := by omega
      refine ⟨[.val (.int (pp F)), .val (L a), .val (L b), .own (nums found), .val (.int ((0 + i : Nat) : Int)), .val (.int x), x6, x7], _, G2, .nx, rfl, ?_, .inl rfl, found', .val (.int i), .val (.int x), y6, y7, rfl, by omega, ?_⟩
      · simp only [sFor_s, iEn_s, aCons_s, aNil_s, eV_s, List.getElem?_cons_succ, List.getElem?_cons_zero, k1, p1]
      · rw [p3, hps, ps_take_succ hi, get_getD hx]; grind
  obtain ⟨found, x4, x5, x6, x7, hs, hlen, hps⟩ := h2
  rw [enum_len, nums_len, ps_take_all (Nat.le_refl _)] at hps
  have h3 := law_trim_ok (l := found) (p := pp F) pp_pos (by omega)
  have hr := rep_trim (F := F) found
  rw [hps] at hr
  refine ⟨_, ?_, hr⟩
  simp only [d__law_times, runF, startS, u__law_times, List.length_cons, List.length_nil, if_true, List.map_cons, List.map_nil, List.replicate, List.cons_append, List.nil_append, Nat.reduceSub, Nat.reduceAdd, sSeq_s, sOwn_s, oBin_s, eO_s, oLst_s, aCons_s, aNil_s, eC_s, e2_s, e1_s, eV_s, List.getElem?_cons_succ, List.getElem?_cons_zero, dLen_l, nums_len, dAdd_i, Nat.reduceLeDiff, z1, List.set_cons_succ, List.set_cons_zero, sFor_s, iEn_s, h1, hs, sFrz_s, sRetO_s, oCall_s, h3, endF_ro]
theorem back_ok {x : Int} (hx : 0 < x ∧ x < pp F) : ∃ y, d__law_back [.int (pp F), .int x] = some (.val (.int y)) ∧ 0 ≤ y ∧ y < pp F ∧ (of y : F) * of x = 1 := by
  have hp := pp_357 (F := F)
  obtain ⟨y0, h1, h2, h3⟩ := inv_ex (F := F) (of_ne ⟨by omega, hx.2⟩ (by omega : x ≠ 0))
  have hm : y0 ∈ (List.range (pp F).toNat).map (fun (k : Nat) => (0 : Int) + (k : Int)) := mem_rng.mpr (by omega)
  have hq : decide (y0 * x % pp F = 1) = true := by
    rw [decide_eq_true_iff, mod_one_iff, of_mul]; exact h3
  obtain ⟨z, r, k1, k2, k3⟩ := head_of (q := fun y => decide (y * x % pp F = 1)) hm hq
  have hz := mem_rng.mp k2
  have k4 : (of z : F) * of x = 1 := by
    rw [decide_eq_true_iff, mod_one_iff, of_mul] at k3; exact k3
  have k5 : lcL (gN 2) (bE (e2 dEq (e2 dMod (e1 dInt (e2 dMul (eV 2) (eV 1))) (eV 0)) (eC (.int 1)))) (eV 2) [.val (.int (pp F)), .val (.int x), .no] (rngD 0 (pp F).toNat) [] [] = some (nums (z :: r), []) := by
    rw [rng_map, ← k1]
    exact lc_gen (enc := PyData.int) (φ := PyData.int) (q := fun y => decide (y * x % pp F = 1)) fun y hy => by
      have hy' := mem_rng.mp hy
      refine ⟨[.val (.int (pp F)), .val (.int x), .val (.int y)], rfl, ?_, fun _ => rfl⟩
      have hm := dMul_i 3 3 (small_of (F := F) (x := y) (by omega)) (small_of (F := F) (x := x) (by omega)) (by omega)
      simp [hm, dMod_i pp_pos]
  refine ⟨z, ?_, by omega, by omega, k4⟩
  have o2 : okR (pp F) = true := okR_of (by omega)
  have o3 : (rngD 0 (pp F).toNat).length ≤ 16777215 := by rw [rng_len]; omega
  simp [d__law_back, runF, startS, u__law_back, o2, o3, k5, nums_cons, atI_0]
end
end BR

namespace BR
open PySem PySem.Spec PyProof.Rows L2 QL MA DN
section
variable {F : Type} [Fq F] {l m : List Int} {f g M : PS F}
theorem rep_of_rg_last {l : List Int} (h : Rg F l) (h1 : l.getLast? ≠ some 0) : Rep l (ps l : PS F) := ⟨⟨h, h1⟩, rfl⟩
theorem law_parted_ok {one other : List Int} (ro : Rep one f) (rg : Rep other g) (h0 : other ≠ []) (hl1 : one.length < 900) (hl2 : other.length < 900) :
    ∃ q r, d__law_parted [.int (pp F), L one, L other] = some (.val (.tuple [L q, L r])) ∧ ∃ Q R : PS F, Rep q Q ∧ Rep r R ∧ f = Q * g + R ∧ Lt (other.length - 1) R := by
  obtain ⟨c, t1, t2, t3, t4, t5, t6⟩ := rep_top rg h0
  obtain ⟨bk, b1, b2, b3, b4⟩ := back_ok (F := F) (x := c) ⟨t2, t3⟩
  have hpos := lt1 h0
  have a1 := BR.atI_last t1
  obtain ⟨sl', G', h1, h2⟩ := while_inv (t := bE (e2 dGe (e1 dLen (eV 3)) (e1 dLen (eV 2))))
    (u := (sSeq (sSet 6 (e2 dAdd (e2 dMul (eO (oLst (aCons (eC (.int 0)) aNil))) (e2 dSub (e1 dLen (eV 3)) (e1 dLen (eV 2)))) (eO (oLst (aCons (e2 dMod (e1 dInt (e2 dMul (e2 dIx (eV 3) (eNeg (eC (.int 1)))) (eV 5))) (eV 0)) aNil))))) (sSeq (sSet 4 (eCall d__law_plus (aCons (eV 0) (aCons (eV 4) (aCons (eV 6) (aCons (eC (.int 1)) aNil)))))) (sSet 3 (eCall d__law_plus (aCons (eV 0) (aCons (eV 3) (aCons (eCall d__law_times (aCons (eV 0) (aCons (eV 6) (aCons (eV 2) aNil)))) (aCons (eNeg (eC (.int 1))) aNil)))))))))
    (fun n sl _ => ∃ rest quo x6, ∃ Q R : PS F, sl = [.val (.int (pp F)), .val (L one), .val (L other), .val (L rest), .val (L quo), .val (.int bk), x6] ∧ Rep rest R ∧ Rep quo Q ∧ f = Q * g + R ∧ rest.length = n ∧ rest.length ≤ one.length ∧ quo.length ≤ one.length)
    (fun sl _ => ∃ rest quo x6, ∃ Q R : PS F, sl = [.val (.int (pp F)), .val (L one), .val (L other), .val (L rest), .val (L quo), .val (.int bk), x6] ∧ Rep rest R ∧ Rep quo Q ∧ f = Q * g + R ∧ rest.length < other.length)
    (fun n sl G hI => by
      obtain ⟨rest, quo, x6, Q, R, hs, rr, rq, hf, hn, hle, hle2⟩ := hI
      subst hs
      by_cases hc : other.length ≤ rest.length
      · right
        have hz : rest ≠ [] := fun e => by rw [e] at hc; simp at hc; exact h0 hc
        obtain ⟨d, d1, d2, d3, d4, d5, d6⟩ := rep_top rr hz
        have hposr := lt1 hz
        have a2 := BR.atI_last d1
        obtain ⟨k, hk⟩ : ∃ k : Nat, k = rest.length - other.length := ⟨_, rfl⟩
        have hm := dMul_i 3 3 (small_of (F := F) (x := d) ⟨by omega, d3⟩) (small_of (F := F) (x := bk) ⟨b2, b3⟩) (by omega)
        have hnum := mod_rng (F := F) (d * bk)
        have z1 : dMul (.list [.int 0]) (.int ((rest.length : Int) - (other.length : Int))) = some (.list (nums (List.replicate k 0))) := by
          rw [dMul_l (by omega), nums_rep]; congr 3; congr 1; omega
        have z2 : dAdd (.list (nums (List.replicate k 0))) (.list [.int (d * bk % pp F)]) = some (.list (nums (List.replicate k 0 ++ [d * bk % pp F]))) := by
          rw [dAdd_l, if_pos (by simp; omega), nums_snoc]
        have rt : Rg F (List.replicate k 0 ++ [d * bk % pp F]) := fun x hx => by
          rcases List.mem_append.mp hx with h | h
          · rw [(List.mem_replicate.mp h).2]; exact ⟨Int.le_refl _, pp_pos⟩
          · rw [List.mem_singleton.mp h]; exact hnum
        have lt : (List.replicate k 0 ++ [d * bk % pp F]).length = k + 1 := by simp
        obtain ⟨q1, p1, p2⟩ := plus_ok (F := F) (a := quo) (b := List.replicate k 0 ++ [d * bk % pp F]) (c := 1) rq.1.1 rt (by omega) (by omega) (by decide)
        obtain ⟨m1, p3, p4⟩ := times_ok (F := F) (a := List.replicate k 0 ++ [d * bk % pp F]) (b := other) rt rg.1.1 (by omega) (by omega)
        have et : (ps (List.replicate k 0 ++ [d * bk % pp F]) : PS F) = C (of (d * bk)) * sh k 1 := by
          rw [ps_shift, ps_C, of_mod, sh_eq]; grind
        have lm : m1.length ≤ k + 1 + other.length := rep_len p4 (by
          have := (ps_lt (F := F) (List.replicate k 0 ++ [d * bk % pp F])).mul (ps_lt (F := F) other)
          rw [lt] at this
          exact this)
        obtain ⟨r1, p5, p6⟩ := plus_ok (F := F) (a := rest) (b := m1) (c := -1) rr.1.1 p4.1.1 (by omega) (by omega) (by decide)
        rw [p4.2, rr.2, et, rg.2, of_neg, of_one] at p6
        rw [rq.2, et, of_one] at p2
        have e6 : R + C (-1) * (C (of (d * bk)) * sh k 1 * g) = R - C (of (d * bk)) * (sh k 1 * g) := by
          rw [C_neg]
          have : (C (1 : F)) = 1 := rfl
          rw [this]; grind
        have e2' : Q + C 1 * (C (of (d * bk)) * sh k 1) = Q + C (of (d * bk)) * sh k 1 := by
          have : (C (1 : F)) = 1 := rfl
          rw [this]; grind
        rw [e6] at p6
        rw [e2'] at p2
        have hlt : Lt (rest.length - 1) (R - C (of (d * bk)) * (sh k 1 * g)) := fun j hj => by
          rw [sub_at, C_mul_at]
          by_cases q : j = rest.length - 1
          · have ej : j = k + (other.length - 1) := by omega
            have e7 : R j = of d := by rw [q]; exact d4
            rw [e7, ej, sh_at_top, t4, of_mul]
            grind
          · have q3 : k + (other.length - 1) < j := by omega
            rw [sh_top t6 q3]
            have : R j = 0 := d6 j (by omega)
            rw [this]; grind
        have hlr := rep_len p6 hlt
        have hlq : q1.length ≤ one.length := rep_len p2 (by
          refine Lt.add ((rep_lt rq).mono hle2) (Lt.C (fun j hj => ?_) _)
          rw [sh_at, if_neg (by omega), one_eq, C_at, if_neg (by omega)])
        have hge : decide ((other.length : Int) ≤ (rest.length : Int)) = true := decide_eq_true (by omega)
        refine ⟨G, [.val (.int (pp F)), .val (L one), .val (L other), .val (L r1), .val (L q1), .val (.int bk), .val (L (List.replicate k 0 ++ [d * bk % pp F]))], G, r1.length, ?_, ?_, by omega, r1, q1, _, _, _, rfl, p6, p2, ?_, rfl, by omega, by omega⟩
        · simp only [bE_s, e2_s, e1_s, eV_s, List.getElem?_cons_succ, List.getElem?_cons_zero, dLen_l, nums_len, dGe_i, hge]
        · simp only [sSeq_s, sSet_s, e2_s, e1_s, eO_s, oLst_s, aCons_s, aNil_s, eC_s, eV_s, eNeg_s, List.getElem?_cons_succ, List.getElem?_cons_zero, List.length_cons, List.length_nil, Nat.reduceAdd, Nat.reduceLeDiff, if_true, dLen_l, nums_len, dSub_i, z1, dIx_l, a2, hm, dInt_i, dMod_i pp_pos, z2, List.set_cons_succ, List.set_cons_zero, eCall_s, p1, p3, p5, rv_own]
        · rw [hf]; grind
      · left
        have hge : decide ((other.length : Int) ≤ (rest.length : Int)) = false := decide_eq_false (by omega)
        refine ⟨G, ?_, rest, quo, x6, Q, R, rfl, rr, rq, hf, by omega⟩
        simp only [bE_s, e2_s, e1_s, eV_s, List.getElem?_cons_succ, List.getElem?_cons_zero, dLen_l, nums_len, dGe_i, hge])
    one.length (G := []) (sl := [.val (.int (pp F)), .val (L one), .val (L other), .val (L one), .val (L []), .val (.int bk), .no])
    ⟨one, [], .no, 0, f, rfl, ro, rep_nil, by rw [Lean.Grind.Semiring.zero_mul]; grind, rfl, Nat.le_refl _, by simp⟩ 1000000 (by omega)
  obtain ⟨rest, quo, x6, Q, R, hs, rr, rq, hf, hlt⟩ := h2
  refine ⟨quo, rest, ?_, Q, R, rq, rr, hf, (rep_lt rr).mono (by omega)⟩
  rw [show L [] = PyData.list [] from rfl] at h1
  simp only [d__law_parted, runF, startS, u__law_parted, List.length_cons, List.length_nil, if_true, List.map_cons, List.map_nil, List.replicate, List.cons_append, List.nil_append, Nat.reduceSub, Nat.reduceAdd, sSeq_s, sPar_s, mVal_s, mNil_s, eO_s, oList_s, oLst_s, aNil_s, eCall_s, aCons_s, eV_s, e2_s, eNeg_s, eC_s, List.getElem?_cons_succ, List.getElem?_cons_zero, dIx_l, a1, b1, rv_val, parSet_val, parSet_nil, List.set_cons_succ, List.set_cons_zero, Nat.zero_le, h1, hs, sRet_s, eTup_s, Nat.reduceLeDiff, endF_rt]
theorem law_rest_ok {one other : List Int} (ro : Rep one f) (rg : Rep other g) (h0 : other ≠ []) (hl1 : one.length < 900) (hl2 : other.length < 900) :
    ∃ r, d__law_rest [.int (pp F), L one, L other] = some (.val (L r)) ∧ ∃ Q R : PS F, Rep r R ∧ Pl Q ∧ f = Q * g + R ∧ Lt (other.length - 1) R := by
  obtain ⟨q, r, h1, Q, R, h2, h3, h4, h5⟩ := law_parted_ok ro rg h0 hl1 hl2
  refine ⟨r, ?_, Q, R, h3, rep_pl h2, h4, h5⟩
  have a1 : atI [L q, L r] 1 = some (L r) := rfl
  simp [d__law_rest, runF, startS, u__law_rest, h1, a1]
theorem law_rest_mon {one other : List Int} (ro : Rep one f) (rg : Rep other g) (h1 : other.getLast? = some 1) (hl1 : one.length < 900) (hl2 : other.length < 900) :
    ∃ r, d__law_rest [.int (pp F), L one, L other] = some (.val (L r)) ∧ Rep r (rem (other.length - 1) g f) ∧ r.length < other.length := by
  have h0 : other ≠ [] := fun e => by rw [e] at h1; cases h1
  obtain ⟨r, k1, Q, R, k2, k3, k4, k5⟩ := law_rest_ok ro rg h0 hl1 hl2
  have hpos := lt1 h0
  have hl := rep_len k2 k5
  exact ⟨r, k1, by rw [rem_is (rep_mon rg h1) k3 k5 k4]; exact k2, by omega⟩
end
end BR

namespace BR
open PySem PySem.Spec PyProof.Rows L2 QL MA DN
def lls (ls : List (List Int)) : List PyData := ls.map fun l => .list (nums l)
@[simp] theorem lls_len {ls : List (List Int)} : (lls ls).length = ls.length := List.length_map ..
@[simp] theorem lls_app {a b : List (List Int)} : lls a ++ lls b = lls (a ++ b) := by unfold lls; simp
theorem lls_get {ls : List (List Int)} {i : Nat} {d : PyData} (h : (lls ls)[i]? = some d) : ∃ l, ls[i]? = some l ∧ d = .list (nums l) := by
  unfold lls at h
  rw [List.getElem?_map] at h
  cases e : ls[i]? with
  | none => rw [e] at h; cases h
  | some l => rw [e] at h; cases h; exact ⟨l, rfl, rfl⟩
def ext (p : Int) (l : List Int) : List (List Int) := (List.range p.toNat).map fun (k : Nat) => l ++ [(k : Int)]
def mons (p : Int) : Nat → List (List Int)
  | 0 => [[]]
  | n + 1 => (mons p n).flatMap (ext p)
theorem ext_len (p : Int) (l : List Int) : (ext p l).length = p.toNat := by unfold ext; simp
theorem mons_len (p : Int) : ∀ n, (mons p n).length = p.toNat ^ n
  | 0 => rfl
  | n + 1 => by
    show ((mons p n).flatMap (ext p)).length = _
    rw [flatMap_len _ _ _ fun l _ => ext_len p l, mons_len p n, Nat.pow_succ]
section
variable {F : Type} [Fq F] {l m : List Int} {f g M : PS F}
theorem mem_mons {n : Nat} : ∀ {l : List Int}, l ∈ mons (pp F) n ↔ l.length = n ∧ Rg F l := by
  induction n with
  | zero =>
    intro l
    show l ∈ [[]] ↔ _
    rw [List.mem_singleton, List.length_eq_zero_iff]
    exact ⟨fun e => ⟨e, by rw [e]; intro x hx; cases hx⟩, fun h => h.1⟩
  | succ n ih =>
    intro l
    show l ∈ (mons (pp F) n).flatMap (ext (pp F)) ↔ _
    have hp := pp_pos (F := F)
    rw [List.mem_flatMap]
    constructor
    · rintro ⟨l0, h1, h2⟩
      obtain ⟨k, hk, e⟩ := List.mem_map.mp h2
      obtain ⟨h3, h4⟩ := ih.mp h1
      have hk' := List.mem_range.mp hk
      rw [← e]
      refine ⟨by simp [h3], fun x hx => ?_⟩
      rcases List.mem_append.mp hx with h | h
      · exact h4 x h
      · rw [List.mem_singleton.mp h]; omega
    · rintro ⟨h1, h2⟩
      have hz : l ≠ [] := fun e => by rw [e] at h1; cases h1
      have e := List.dropLast_concat_getLast hz
      have hx := h2 _ (List.getLast_mem hz)
      refine ⟨l.dropLast, ih.mpr ⟨by simp [h1], fun x hx => h2 x (List.dropLast_subset l hx)⟩, List.mem_map.mpr ⟨(l.getLast hz).toNat, List.mem_range.mpr (by omega), ?_⟩⟩
      rw [Int.toNat_of_nonneg hx.1]; exact e
theorem pow7 {n : Nat} (hn : n ≤ 6) : (pp F).toNat ^ n ≤ 117649 := by
  have hp := pp_357 (F := F)
  have h1 : (pp F).toNat ≤ 7 := by omega
  calc (pp F).toNat ^ n ≤ 7 ^ n := Nat.pow_le_pow_left h1 n
    _ ≤ 7 ^ 6 := Nat.pow_le_pow_right (by omega) hn
    _ = 117649 := by decide
theorem monics_ok {n : Nat} (hn : n ≤ 6) : d__law_monics [.int (pp F), .int n] = some (.own (lls ((mons (pp F) n).map fun l => l ++ [1]))) := by
  have hp := pp_357 (F := F)
  have o1 : okR (pp F) = true := okR_of (by omega)
  have o2 : okR (n : Int) = true := okR_of (by omega)
  have o3 : (rngD 0 (pp F).toNat).length ≤ 16777215 := by rw [rng_len]; omega
  obtain ⟨sl', G', h1, h2⟩ := for_inv (g := gN 3) (u := (sSeq (sSet 4 (eO (oLst aNil))) (sSeq (sFor (iL (eV 2)) (gN 5) (sSet 4 (e2 dAdd (eV 4) (eO (oLc (iR1 (aCons (eV 0) aNil)) (gN 6) tTrue (e2 dAdd (eV 5) (eO (oLst (aCons (eV 6) aNil)))) [6]))))) (sSet 2 (eV 4))))) (ds := rngD 0 n) (G := [])
    (sl := [.val (.int (pp F)), .val (.int n), .val (.list (lls [[]])), .no, .no, .no, .no])
    (fun i sl _ => i ≤ n ∧ ∃ x3 x4 x5 x6, sl = [.val (.int (pp F)), .val (.int n), .val (.list (lls (mons (pp F) i))), x3, x4, x5, x6])
    ⟨Nat.zero_le _, .no, .no, .no, .no, rfl⟩ fun i d sl G hd hI => by
      obtain ⟨hi, x3, x4, x5, x6, hs⟩ := hI
      obtain ⟨hd', hi'⟩ := rng_at _ _ i d hd
      subst hs; subst hd'
      obtain ⟨sl2, G2, k1, k2⟩ := for_inv (g := gN 5) (u := sSet 4 (e2 dAdd (eV 4) (eO (oLc (iR1 (aCons (eV 0) aNil)) (gN 6) tTrue (e2 dAdd (eV 5) (eO (oLst (aCons (eV 6) aNil)))) [6])))) (ds := lls (mons (pp F) i)) (G := G)
        (sl := [.val (.int (pp F)), .val (.int n), .val (.list (lls (mons (pp F) i))), .val (.int (0 + (i : Int))), .val (.list []), x5, x6])
        (fun j sl _ => ∃ x5 x6, sl = [.val (.int (pp F)), .val (.int n), .val (.list (lls (mons (pp F) i))), .val (.int (0 + (i : Int))), .val (.list (lls (((mons (pp F) i).take j).flatMap (ext (pp F))))), x5, x6])
        ⟨x5, x6, rfl⟩ fun j d sl G hd hI => by
          obtain ⟨x5, x6, hs⟩ := hI
          obtain ⟨l, hl, hd'⟩ := lls_get hd
          subst hs; subst hd'
          have hj := (List.getElem?_eq_some_iff.mp hl).1
          have ll := mem_mons.mp (List.mem_of_getElem? hl)
          have hc : lcL (gN 6) tTrue (e2 dAdd (eV 5) (eO (oLst (aCons (eV 6) aNil)))) [.val (.int (pp F)), .val (.int n), .val (.list (lls (mons (pp F) i))), .val (.int (0 + (i : Int))), .val (.list (lls (((mons (pp F) i).take j).flatMap (ext (pp F))))), .val (.list (nums l)), .no] (rngD 0 (pp F).toNat) [] G = some (lls (ext (pp F) l), G) := by
            have e : rngD 0 (pp F).toNat = (List.range (pp F).toNat).map fun k : Nat => PyData.int (k : Int) := by
              rw [rng_map]
              unfold nums
              rw [List.map_map]
              refine List.map_congr_left fun k _ => ?_
              show PyData.int (0 + (k : Int)) = _
              congr 1; omega
            have e' : lls (ext (pp F) l) = (List.range (pp F).toNat).map fun k : Nat => PyData.list (nums (l ++ [(k : Int)])) := by
              unfold lls ext; rw [List.map_map]; rfl
            rw [e, e']
            refine lc_all fun k hk => ⟨[.val (.int (pp F)), .val (.int n), .val (.list (lls (mons (pp F) i))), .val (.int (0 + (i : Int))), .val (.list (lls (((mons (pp F) i).take j).flatMap (ext (pp F))))), .val (.list (nums l)), .val (.int (k : Int))], rfl, rfl, ?_⟩
            have z : dAdd (.list (nums l)) (.list [.int (k : Int)]) = some (.list (nums (l ++ [(k : Int)]))) := by
              rw [dAdd_l, if_pos (by simp; omega), nums_snoc]
            simp only [e2_s, eV_s, List.getElem?_cons_succ, List.getElem?_cons_zero, eO_s, oLst_s, aCons_s, aNil_s, List.length_cons, List.length_nil, Nat.reduceAdd, Nat.reduceLeDiff, if_true, z]
          have hz : (((mons (pp F) i).take j).flatMap (ext (pp F))).length + (ext (pp F) l).length ≤ 16777216 := by
            rw [flatMap_len _ _ _ fun l _ => ext_len _ l, ext_len, List.length_take, mons_len]
            have h7 := pow7 (F := F) (n := i) (by omega)
            have : (min j ((pp F).toNat ^ i)) ≤ 117649 := by omega
            have h8 : (pp F).toNat ≤ 7 := by omega
            have := Nat.mul_le_mul this h8
            omega
          have z2 : dAdd (.list (lls (((mons (pp F) i).take j).flatMap (ext (pp F))))) (.list (lls (ext (pp F) l))) = some (.list (lls (((mons (pp F) i).take (j + 1)).flatMap (ext (pp F))))) := by
            rw [dAdd_l, if_pos (by simpa using hz), lls_app]
            congr 3
            rw [List.take_succ, hl]
            simp [List.flatMap_append]
          refine ⟨[.val (.int (pp F)), .val (.int n), .val (.list (lls (mons (pp F) i))), .val (.int (0 + (i : Int))), .val (.list (lls (((mons (pp F) i).take j).flatMap (ext (pp F))))), .val (.list (nums l)), x6], _, G, .nx, rfl, ?_, .inl rfl, .val (.list (nums l)), x6, rfl⟩
          simp only [sSet_s, e2_s, eV_s, List.getElem?_cons_succ, List.getElem?_cons_zero, eO_s, oLc_s, iR1_s, aCons_s, aNil_s, o1, o3, if_true, wipe1, wipe0, List.set_cons_succ, List.set_cons_zero, hc, z2]
      obtain ⟨y5, y6, hs2⟩ := k2
      rw [lls_len, List.take_length] at hs2
      refine ⟨[.val (.int (pp F)), .val (.int n), .val (.list (lls (mons (pp F) i))), .val (.int (0 + (i : Int))), x4, x5, x6], _, G2, .nx, rfl, ?_, .inl rfl, by omega, .val (.int (0 + (i : Int))), .val (.list (lls (mons (pp F) (i + 1)))), y5, y6, rfl⟩
      simp only [sSeq_s, sSet_s, eO_s, oLst_s, aNil_s, List.length_nil, Nat.zero_le, if_true, List.set_cons_succ, List.set_cons_zero, sFor_s, iL_s, eV_s, List.getElem?_cons_succ, List.getElem?_cons_zero, k1, hs2]
      rfl
  obtain ⟨_, x3, x4, x5, x6, hs⟩ := h2
  rw [rng_len] at hs
  have hc : lcL (gN 5) tTrue (e2 dAdd (eV 5) (eO (oLst (aCons (eC (.int 1)) aNil)))) [.val (.int (pp F)), .val (.int n), .val (.list (lls (mons (pp F) n))), x3, x4, .no, x6] (lls (mons (pp F) n)) [] G' = some (lls ((mons (pp F) n).map fun l => l ++ [1]), G') := by
    have e' : lls ((mons (pp F) n).map fun l => l ++ [1]) = (mons (pp F) n).map fun l => PyData.list (nums (l ++ [1])) := by
      unfold lls; rw [List.map_map]; rfl
    rw [e']
    refine lc_all (enc := fun l => PyData.list (nums l)) fun l hl => ⟨[.val (.int (pp F)), .val (.int n), .val (.list (lls (mons (pp F) n))), x3, x4, .val (.list (nums l)), x6], rfl, rfl, ?_⟩
    have ll := mem_mons.mp hl
    have z : dAdd (.list (nums l)) (.list [.int 1]) = some (.list (nums (l ++ [1]))) := by
      rw [dAdd_l, if_pos (by simp; omega), nums_snoc]
    simp only [e2_s, eV_s, List.getElem?_cons_succ, List.getElem?_cons_zero, eO_s, oLst_s, aCons_s, aNil_s, eC_s, List.length_cons, List.length_nil, Nat.reduceAdd, Nat.reduceLeDiff, if_true, z]
  have hz : (lls (mons (pp F) n)).length ≤ 16777215 := by
    rw [lls_len, mons_len]
    have := pow7 (F := F) hn
    omega
  have e0 : lls [[]] = [PyData.list []] := rfl
  rw [e0] at h1
  simp only [d__law_monics, runF, startS, u__law_monics, List.length_cons, List.length_nil, if_true, List.map_cons, List.map_nil, List.replicate, List.cons_append, List.nil_append, Nat.reduceSub, Nat.reduceAdd, sSeq_s, sSet_s, eO_s, oLst_s, aCons_s, aNil_s, Nat.zero_le, Nat.reduceLeDiff, List.set_cons_succ, List.set_cons_zero, sFor_s, iR1_s, eV_s, List.getElem?_cons_succ, List.getElem?_cons_zero, o2, Int.toNat_natCast, h1, hs, sRetO_s, oLc_s, iL_s, hz, wipe1, wipe0, hc, endF_ro]
end
end BR

namespace BR
open PySem PySem.Spec PyProof.Rows L2 QL MA DN
section
variable {F : Type} [Fq F] {l m : List Int} {f g M : PS F}
theorem rg_snoc1 (h : Rg F l) : Nm F (l ++ [1]) := ⟨fun x hx => by
  have hp := pp_357 (F := F)
  rcases List.mem_append.mp hx with h1 | h1
  · exact h x h1
  · rw [List.mem_singleton.mp h1]; omega, by simp⟩
/-- all monic ones of a power stand in the list -/
theorem mon_in {n : Nat} (hM : Mon n M) : ∃ l ∈ (mons (pp F) n).map (fun l => l ++ [1]), Rep l M := by
  obtain ⟨l, r, _⟩ := exists_rep M hM.1
  obtain ⟨h1, h2⟩ := rep_of_mon r hM
  have hz : l ≠ [] := fun e => by rw [e] at h2; cases h2
  have e := List.dropLast_concat_getLast hz
  have e1 : l.getLast hz = 1 := by
    rw [List.getLast?_eq_some_getLast hz] at h1
    exact Option.some.inj h1
  rw [e1] at e
  refine ⟨l, List.mem_map.mpr ⟨l.dropLast, mem_mons.mpr ⟨by simp [h2], fun x hx => r.1.1 x (List.dropLast_subset l hx)⟩, e⟩, r⟩
theorem of_mon_in {n : Nat} {l : List Int} (h : l ∈ (mons (pp F) n).map (fun l => l ++ [1])) : Rep l (ps l : PS F) ∧ l.getLast? = some 1 ∧ l.length = n + 1 ∧ Mon n (ps l : PS F) := by
  obtain ⟨l0, h1, h2⟩ := List.mem_map.mp h
  obtain ⟨h3, h4⟩ := mem_mons.mp h1
  have hn : Nm F l := by rw [← h2]; exact rg_snoc1 h4
  have r : Rep l (ps l : PS F) := ⟨hn, rfl⟩
  have hl : l.getLast? = some 1 := by rw [← h2]; simp
  have hm := rep_mon r hl
  have hlen : l.length = n + 1 := by rw [← h2]; simp [h3]
  refine ⟨r, hl, hlen, ?_⟩
  rw [hlen] at hm; exact hm
def IsP (F : Type) [Fq F] (l : List Int) : Prop := l.getLast? = some 1 ∧ 2 ≤ l.length ∧ Prm (l.length - 1) (ps l : PS F)
theorem is_prime_ok {one : List Int} (h : Nm F one) (hl : one.length ≤ 13) : ∃ b, d__law_is_prime [.int (pp F), L one] = some (.val (.bool b)) ∧ (b = true ↔ IsP F one) := by
  have ro : Rep one (ps one : PS F) := ⟨h, rfl⟩
  by_cases h2 : one.length < 2
  · refine ⟨false, ?_, ?_⟩
    · have : decide ((one.length : Int) < 2) = true := decide_eq_true (by omega)
      simp [d__law_is_prime, runF, startS, u__law_is_prime, this]
    · constructor
      · intro e; cases e
      · rintro ⟨_, e, _⟩; omega
  · have hz : one ≠ [] := fun e => by rw [e] at h2; simp at h2
    obtain ⟨c, t1, t2, t3, t4, t5, t6⟩ := rep_top ro hz
    have a1 := BR.atI_last t1
    have d1 : decide ((one.length : Int) < 2) = false := decide_eq_false (by omega)
    by_cases hc : c = 1
    · subst hc
      obtain ⟨m, hm⟩ : ∃ m : Nat, m = one.length - 1 := ⟨_, rfl⟩
      have hM := rep_mon ro t1
      obtain ⟨fl, sl', G', k1, k2⟩ := for_ret (g := gN 2) (u := (sFor (iL (eCall d__law_monics (aCons (eV 0) (aCons (eV 2) aNil)))) (gN 3) (sIf (bE (e2 dEq (eCall d__law_rest (aCons (eV 0) (aCons (eV 1) (aCons (eV 3) aNil)))) (eO (oLst aNil)))) (sRet (eC (.bool false))) sNil))) (ds := rngD 1 (m / 2)) (G := [])
        (sl := [.val (.int (pp F)), .val (L one), .no, .no])
        (fun i sl _ => ∃ x2 x3, sl = [.val (.int (pp F)), .val (L one), x2, x3] ∧ ∀ j M, 1 ≤ j → j < 1 + i → Mon j M → rem j M (ps one : PS F) ≠ 0)
        (fun x _ => x = .bool false ∧ ∃ j, ∃ M : PS F, 1 ≤ j ∧ j ≤ m / 2 ∧ Mon j M ∧ rem j M (ps one : PS F) = 0)
        ⟨.no, .no, rfl, fun j M h1 h2 => by omega⟩ fun i d sl G hd hI => by
          obtain ⟨x2, x3, hs, hfree⟩ := hI
          obtain ⟨hd', hi'⟩ := rng_at _ _ i d hd
          subst hs; subst hd'
          have ecast : (1 : Int) + (i : Int) = ((1 + i : Nat) : Int) := by omega
          have hmon := monics_ok (F := F) (n := 1 + i) (by omega)
          obtain ⟨fl, sl2, G2, p1, p2⟩ := for_ret (g := gN 3) (u := sIf (bE (e2 dEq (eCall d__law_rest (aCons (eV 0) (aCons (eV 1) (aCons (eV 3) aNil)))) (eO (oLst aNil)))) (sRet (eC (.bool false))) sNil) (ds := lls ((mons (pp F) (1 + i)).map fun l => l ++ [1])) (G := G)
            (sl := [.val (.int (pp F)), .val (L one), .val (.int (1 + (i : Int))), x3])
            (fun k sl _ => ∃ x3, sl = [.val (.int (pp F)), .val (L one), .val (.int (1 + (i : Int))), x3] ∧ ∀ l ∈ ((mons (pp F) (1 + i)).map fun l => l ++ [1]).take k, rem (1 + i) (ps l : PS F) (ps one) ≠ 0)
            (fun x _ => x = .bool false ∧ ∃ j, ∃ M : PS F, 1 ≤ j ∧ j ≤ m / 2 ∧ Mon j M ∧ rem j M (ps one : PS F) = 0)
            ⟨x3, rfl, fun l hl => by simp at hl⟩ fun k d sl G hd hI => by
              obtain ⟨x3, hs, hfr⟩ := hI
              obtain ⟨l, hl, hd'⟩ := lls_get hd
              subst hs; subst hd'
              obtain ⟨rl, l1, l2, l3⟩ := of_mon_in (F := F) (List.mem_of_getElem? hl)
              obtain ⟨r, q1, q2, q3⟩ := law_rest_mon ro rl l1 (by omega) (by omega)
              have el : l.length - 1 = 1 + i := by omega
              rw [el] at q2
              by_cases hr : r = []
              · refine ⟨[.val (.int (pp F)), .val (L one), .val (.int (1 + (i : Int))), .val (.list (nums l))], [.val (.int (pp F)), .val (L one), .val (.int (1 + (i : Int))), .val (.list (nums l))], G, .rt (.bool false), rfl, ?_, .inr ⟨_, rfl, rfl, 1 + i, _, by omega, by omega, l3, (rep_nil_iff q2).mp hr⟩⟩
                simp [q1, hr]
              · refine ⟨[.val (.int (pp F)), .val (L one), .val (.int (1 + (i : Int))), .val (.list (nums l))], [.val (.int (pp F)), .val (L one), .val (.int (1 + (i : Int))), .val (.list (nums l))], G, .nx, rfl, ?_, .inl ⟨rfl, _, rfl, fun l' hl' => ?_⟩⟩
                · simp [q1, hr]
                · rw [List.take_succ, hl] at hl'
                  rcases List.mem_append.mp hl' with h | h
                  · exact hfr l' h
                  · have : l' = l := by simpa using h
                    rw [this]
                    exact fun z => hr ((rep_nil_iff q2).mpr z)
          refine ⟨[.val (.int (pp F)), .val (L one), .val (.int (1 + (i : Int))), x3], sl2, G2, fl, rfl, ?_, ?_⟩
          · simp only [sFor_s, iL_s, eCall_s, aCons_s, aNil_s, eV_s, List.getElem?_cons_succ, List.getElem?_cons_zero, ecast, hmon, rv_own]
            rw [← ecast]; exact p1
          · rcases p2 with ⟨e1, x3, e2, hfr⟩ | ⟨x, e1, e2, e3⟩
            · refine .inl ⟨e1, .val (.int (1 + (i : Int))), x3, e2, fun j M hj1 hj2 hj3 => ?_⟩
              by_cases q : j < 1 + i
              · exact hfree j M hj1 q hj3
              · have : j = 1 + i := by omega
                subst this
                obtain ⟨l, hl, rl⟩ := mon_in hj3
                rw [lls_len, List.take_length] at hfr
                have := hfr l hl
                rw [rl.2] at this
                exact this
            · exact .inr ⟨x, e1, e2, e3⟩
      have hfd : dFdiv (.int ((one.length : Int) - 1)) (.int 2) = some (.int (((one.length : Int) - 1) / 2)) := dFdiv_i (by omega) (by omega)
      have o1 : okR 1 = true := rfl
      have o2 : okR (((one.length : Int) - 1) / 2 + 1) = true := okR_of (by omega)
      have o3 : (((one.length : Int) - 1) / 2 + 1 - 1).toNat = m / 2 := by omega
      rcases k2 with ⟨e1, x2, x3, hs, hfr⟩ | ⟨x, e1, e2, j, M, hj1, hj2, hj3, hj4⟩
      · refine ⟨true, ?_, iff_of_true rfl ⟨t1, by omega, hM, fun j M hj1 hj2 hj3 => ?_⟩⟩
        · subst e1
          simp only [d__law_is_prime, runF, startS, u__law_is_prime, List.length_cons, List.length_nil, if_true, List.map_cons, List.map_nil, List.replicate, List.cons_append, List.nil_append, Nat.reduceSub, Nat.reduceAdd, sSeq_s, sIf_s, tOrF_s, bE_s, e2_s, e1_s, eV_s, eC_s, eNeg_s, List.getElem?_cons_succ, List.getElem?_cons_zero, dLen_l, nums_len, dLt_i, d1, dIx_l, a1, dNe_i, decide_true, Bool.not_true, sNil_s, sFor_s, iR2_s, aCons_s, aNil_s, dSub_i, hfd, dAdd_i, o1, o2, Bool.and_self, o3, k1, sRet_s, endF_rt]
        · rw [rng_len] at hfr
          exact hfr j M hj1 (by omega) hj3
      · refine ⟨false, ?_, ?_⟩
        · subst e1; subst e2
          simp only [d__law_is_prime, runF, startS, u__law_is_prime, List.length_cons, List.length_nil, if_true, List.map_cons, List.map_nil, List.replicate, List.cons_append, List.nil_append, Nat.reduceSub, Nat.reduceAdd, sSeq_s, sIf_s, tOrF_s, bE_s, e2_s, e1_s, eV_s, eC_s, eNeg_s, List.getElem?_cons_succ, List.getElem?_cons_zero, dLen_l, nums_len, dLt_i, d1, dIx_l, a1, dNe_i, decide_true, Bool.not_true, sNil_s, sFor_s, iR2_s, aCons_s, aNil_s, dSub_i, hfd, dAdd_i, o1, o2, Bool.and_self, o3, k1, sRet_s, endF_rt]
        · constructor
          · intro e; cases e
          · rintro ⟨_, _, hP⟩
            exact (hP.2 j M hj1 (by omega) hj3 hj4).elim
    · refine ⟨false, ?_, ?_⟩
      · simp [d__law_is_prime, runF, startS, u__law_is_prime, d1, a1, hc]
      · constructor
        · intro e; cases e
        · rintro ⟨e, _⟩
          rw [t1] at e
          exact (hc (Option.some.inj e)).elim
end
end BR

namespace BR
open PySem PySem.Spec PyProof.Rows L2 QL MA DN
section
variable {F : Type} [Fq F] {l m : List Int} {f g M : PS F} {n k : Nat}
theorem rem_pw (hM : Mon n M) (hf : Pl f) : ∀ k, rem n M (pw (rem n M f) k) = rem n M (pw f k)
  | 0 => rfl
  | k + 1 => by
    have pr := rem_pl hM hf
    show rem n M (pw (rem n M f) k * rem n M f) = rem n M (pw f k * f)
    rw [rem_mul hM (pw_pl pr k) pr, rem_pw hM hf k, mul_comm' (rem n M (pw f k)), rem_mul hM (pw_pl hf k) hf, mul_comm' (rem n M (pw f k)), rem_mul hM hf (rem_pl hM (pw_pl hf k))]
theorem rem_cong_r (hM : Mon n M) {a b c : PS F} (ha : Pl a) (hb : Pl b) (hc : Pl c) (e : rem n M b = rem n M c) : rem n M (a * b) = rem n M (a * c) := by
  rw [mul_comm' a b, mul_comm' a c, rem_mul hM hb ha, rem_mul hM hc ha, e]
theorem pw_add (f : PS F) (a : Nat) : ∀ b, pw f (a + b) = pw f a * pw f b
  | 0 => by show pw f a = pw f a * 1; grind
  | b + 1 => by
    show pw f (a + b) * f = pw f a * (pw f b * f)
    rw [pw_add f a b]; grind
theorem pw_sq (f : PS F) : ∀ j, pw (f * f) j = pw f (2 * j)
  | 0 => rfl
  | j + 1 => by
    show pw (f * f) j * (f * f) = pw f (2 * j) * f * f
    rw [pw_sq f j]; grind
theorem law_raised_ok {one q : List Int} {c : Nat} (ro : Rep one f) (rq : Rep q M) (hq : q.getLast? = some 1) (hl1 : one.length < 400) (hl2 : q.length < 400) (hc : c < 900000) :
    ∃ r, d__law_raised [.int (pp F), L one, .int c, L q] = some (.val (L r)) ∧ Rep r (rem (q.length - 1) M (pw f c)) := by
  have hM := rep_mon rq hq
  have r1 : Rep [1] (1 : PS F) := rep_one
  obtain ⟨a0, x1, x2, x3⟩ := law_rest_mon r1 rq hq (by simp) (by omega)
  obtain ⟨b0, x4, x5, x6⟩ := law_rest_mon ro rq hq (by omega) (by omega)
  obtain ⟨sl', G', h1, h2⟩ := while_inv (t := bE (e2 dGt (eV 6) (eC (.int 0))))
    (u := (sSeq (sIf (bE (e2 dEq (e2 dMod (e1 dInt (eV 6)) (eC (.int 2))) (eC (.int 1)))) (sSet 4 (eCall d__law_rest (aCons (eV 0) (aCons (eCall d__law_times (aCons (eV 0) (aCons (eV 4) (aCons (eV 5) aNil)))) (aCons (eV 3) aNil))))) sNil) (sPar [5, 6] (mVal (eCall d__law_rest (aCons (eV 0) (aCons (eCall d__law_times (aCons (eV 0) (aCons (eV 5) (aCons (eV 5) aNil)))) (aCons (eV 3) aNil)))) (mVal (e2 dFdiv (e1 dInt (eV 6)) (eC (.int 2))) mNil)))))
    (fun n sl _ => ∃ a b, ∃ A B : PS F, sl = [.val (.int (pp F)), .val (L one), .val (.int c), .val (L q), .val (L a), .val (L b), .val (.int n)] ∧ Rep a A ∧ Rep b B ∧ a.length < q.length ∧ b.length < q.length ∧ rem (q.length - 1) M (A * pw B n) = rem (q.length - 1) M (pw f c))
    (fun sl _ => ∃ a b, ∃ A B : PS F, sl = [.val (.int (pp F)), .val (L one), .val (.int c), .val (L q), .val (L a), .val (L b), .val (.int 0)] ∧ Rep a A ∧ a.length < q.length ∧ rem (q.length - 1) M A = rem (q.length - 1) M (pw f c))
    (fun n sl G hI => by
      obtain ⟨a, b, A, B, hs, ra, rb, la, lb, he⟩ := hI
      subst hs
      have pA := rep_pl ra
      have pB := rep_pl rb
      by_cases hn : n = 0
      · subst hn
        left
        refine ⟨G, by simp, a, b, A, B, rfl, ra, la, ?_⟩
        rw [← he]
        congr 1
        show A = A * 1
        grind
      · right
        have hgt : decide ((0 : Int) < (n : Int)) = true := decide_eq_true (by omega)
        obtain ⟨bb, y1, y2⟩ := times_ok (F := F) rb.1.1 rb.1.1 (by omega) (by omega)
        rw [rb.2] at y2
        have lbb : bb.length ≤ b.length + b.length := rep_len y2 ((rep_lt rb).mul (rep_lt rb))
        obtain ⟨b1, y3, y4, y5⟩ := law_rest_mon y2 rq hq (by omega) (by omega)
        have hd : dMod (.int (n : Int)) (.int 2) = some (.int ((n : Int) % 2)) := dMod_i (by omega)
        have hf2 : dFdiv (.int (n : Int)) (.int 2) = some (.int ((n / 2 : Nat) : Int)) := by
          rw [dFdiv_i (by omega) (by omega)]; congr 2
        have pBB := pB.mul pB
        have hB1 : rem (q.length - 1) M (pw (rem (q.length - 1) M (B * B)) (n / 2)) = rem (q.length - 1) M (pw B (2 * (n / 2))) := by
          rw [rem_pw hM pBB, pw_sq]
        by_cases ho : n % 2 = 1
        · obtain ⟨ab, y6, y7⟩ := times_ok (F := F) ra.1.1 rb.1.1 (by omega) (by omega)
          rw [ra.2, rb.2] at y7
          have lab : ab.length ≤ a.length + b.length := rep_len y7 ((rep_lt ra).mul (rep_lt rb))
          obtain ⟨a1, y8, y9, y10⟩ := law_rest_mon y7 rq hq (by omega) (by omega)
          have hdd : decide ((n : Int) % 2 = 1) = true := decide_eq_true (by omega)
          refine ⟨G, [.val (.int (pp F)), .val (L one), .val (.int c), .val (L q), .val (L a1), .val (L b1), .val (.int ((n / 2 : Nat) : Int))], G, n / 2, ?_, ?_, by omega, a1, b1, _, _, rfl, y9, y4, y10, y5, ?_⟩
          · simp only [bE_s, e2_s, eV_s, eC_s, List.getElem?_cons_succ, List.getElem?_cons_zero, dGt_i, hgt]
          · simp only [sSeq_s, sIf_s, bE_s, e2_s, e1_s, eV_s, eC_s, List.getElem?_cons_succ, List.getElem?_cons_zero, dInt_i, hd, dEq_i, hdd, sSet_s, eCall_s, aCons_s, aNil_s, y6, rv_own, y8, rv_val, List.set_cons_succ, List.set_cons_zero, sPar_s, mVal_s, mNil_s, y1, y3, hf2, parSet_val, parSet_nil]
          · rw [rem_cong_r hM (rem_pl hM (pA.mul pB)) (pw_pl (rem_pl hM pBB) _) (pw_pl pB _) hB1, ← rem_mul hM (pA.mul pB) (pw_pl pB _), ← he]
            congr 1
            have : pw B n = pw B (1 + 2 * (n / 2)) := by congr 1; omega
            rw [this, pw_add]
            show A * B * pw B (2 * (n / 2)) = A * (1 * B * pw B (2 * (n / 2)))
            grind
        · have hdd : decide ((n : Int) % 2 = 1) = false := decide_eq_false (by omega)
          refine ⟨G, [.val (.int (pp F)), .val (L one), .val (.int c), .val (L q), .val (L a), .val (L b1), .val (.int ((n / 2 : Nat) : Int))], G, n / 2, ?_, ?_, by omega, a, b1, _, _, rfl, ra, y4, la, y5, ?_⟩
          · simp only [bE_s, e2_s, eV_s, eC_s, List.getElem?_cons_succ, List.getElem?_cons_zero, dGt_i, hgt]
          · simp only [sSeq_s, sIf_s, bE_s, e2_s, e1_s, eV_s, eC_s, List.getElem?_cons_succ, List.getElem?_cons_zero, dInt_i, hd, dEq_i, hdd, sNil_s, eCall_s, aCons_s, aNil_s, rv_own, rv_val, List.set_cons_succ, List.set_cons_zero, sPar_s, mVal_s, mNil_s, y1, y3, hf2, parSet_val, parSet_nil]
          · rw [rem_cong_r hM pA (pw_pl (rem_pl hM pBB) _) (pw_pl pB _) hB1, ← he]
            congr 3
            omega)
    c (G := []) (sl := [.val (.int (pp F)), .val (L one), .val (.int c), .val (L q), .val (L a0), .val (L b0), .val (.int c)])
    ⟨a0, b0, _, _, rfl, x2, x5, x3, x6, by
      rw [← rem_mul hM pl_1 (pw_pl (rem_pl hM (rep_pl ro)) _), one_mul', rem_pw hM (rep_pl ro)]⟩ 1000000 (by omega)
  obtain ⟨a, b, A, B, hs, ra, la, he⟩ := h2
  refine ⟨a, ?_, ?_⟩
  · have e1 : L [1] = PyData.list [.int 1] := rfl
    rw [e1] at x1
    simp only [d__law_raised, runF, startS, u__law_raised, List.length_cons, List.length_nil, if_true, List.map_cons, List.map_nil, List.replicate, List.cons_append, List.nil_append, Nat.reduceSub, Nat.reduceAdd, sSeq_s, sPar_s, mVal_s, mNil_s, eCall_s, aCons_s, aNil_s, eV_s, eO_s, oLst_s, eC_s, List.getElem?_cons_succ, List.getElem?_cons_zero, Nat.reduceLeDiff, x1, x4, rv_val, parSet_val, parSet_nil, List.set_cons_succ, List.set_cons_zero, h1, hs, sRet_s, endF_rt]
  · rw [← he, rem_lt hM ((rep_lt ra).mono (by omega))]; exact ra
theorem qq_pp : (qq F : Int) = pp F := Fq.p_len
theorem mon_quo (n : Nat) : (pp F ^ n - 1) / (pp F - 1) = ((mon n : List (PS F)).length : Int) := by
  have hp := pp_357 (F := F)
  have h := mon_count (F := F) n
  have h1 : (((qq F - 1) * (mon n : List (PS F)).length + 1 : Nat) : Int) = ((qq F ^ n : Nat) : Int) := by rw [h]
  have hq := qq_pp (F := F)
  have e1 : ((qq F - 1 : Nat) : Int) = pp F - 1 := by omega
  rw [Int.natCast_add, Int.natCast_mul, e1, Int.natCast_pow, hq] at h1
  have e2 : pp F ^ n - 1 = (pp F - 1) * ((mon n : List (PS F)).length : Int) := by
    rw [← h1]; simp
  rw [e2]
  exact Int.mul_ediv_cancel_left _ (by omega)
theorem law_residue_ok {pr one : List Int} (hP : IsP F pr) (rp : Rep pr M) (ro : Rep one f) (hl1 : one.length < 400) (hl2 : pr.length ≤ 7) :
    ∃ k, d__law_residue [.int (pp F), L pr, L one] = some (.val (.int k)) ∧ 0 ≤ k ∧ k < pp F ∧ (of k : F) = tau (pr.length - 1) M f := by
  have hp := pp_357 (F := F)
  obtain ⟨p1, p2, p3⟩ := hP
  rw [rp.2] at p3
  have hn : (mon (pr.length - 1) : List (PS F)).length ≤ 117649 := by
    have h1 := mon_count (F := F) (pr.length - 1)
    have h2 := pow7 (F := F) (n := pr.length - 1) (by omega)
    have hq : qq F = (pp F).toNat := by have := qq_pp (F := F); omega
    rw [hq] at h1
    have h3 : 1 ≤ (pp F).toNat - 1 := by omega
    have h4 := Nat.mul_le_mul_right (mon (pr.length - 1) : List (PS F)).length h3
    omega
  obtain ⟨r, k1, k2⟩ := law_raised_ok (c := (mon (pr.length - 1) : List (PS F)).length) ro rp p1 hl1 (by omega) (by omega)
  rw [tau_prime p3 (by omega) (rep_pl ro)] at k2
  have hw := raised_whole_ok (b := pp F) (c := (pr.length : Int) - 1) (by omega) (by omega)
  rw [← law_whole_eq] at hw
  have e1 : ((pr.length : Int) - 1).toNat = pr.length - 1 := by omega
  rw [e1] at hw
  have hd : dFdiv (.int (pp F ^ (pr.length - 1) - 1)) (.int (pp F - 1)) = some (.int ((mon (pr.length - 1) : List (PS F)).length : Int)) := by
    rw [dFdiv_i (by omega) (by omega), mon_quo]
  by_cases hz : tau (pr.length - 1) M f = 0
  · have : r = [] := (rep_nil_iff k2).mpr (by rw [hz]; rfl)
    subst this
    refine ⟨0, ?_, by omega, by omega, by rw [of_zero, hz]⟩
    have e0 : dNe (.list []) (.list []) = some (.bool false) := rfl
    rw [show L [] = PyData.list [] from rfl] at k1
    simp [d__law_residue, runF, startS, u__law_residue, hw, hd, k1, e0]
  · obtain ⟨z, z1, z2, z3⟩ := of_surj (tau (pr.length - 1) M f)
    have z0 : z ≠ 0 := fun e => by rw [e, of_zero] at z3; exact hz z3.symm
    have rz : Rep [z] (C (tau (pr.length - 1) M f)) := ⟨⟨fun x hx => by rw [List.mem_singleton.mp hx]; exact ⟨z1, z2⟩, by simp [z0]⟩, by rw [ps_C, z3]⟩
    have := rep_uniq k2 rz
    subst this
    refine ⟨z, ?_, z1, z2, z3⟩
    have e0 : atI (nums [z]) 0 = some (.int z) := rfl
    simp [d__law_residue, runF, startS, u__law_residue, hw, hd, k1, e0]
end
end BR

namespace BR
open PySem PySem.Spec PyProof.Rows L2 QL MA DN
section
variable {F : Type} [Fq F] {l m : List Int} {f g M N : PS F} {n k : Nat}
theorem mon0 (h : Mon 0 M) : M = 1 := PS.ext fun k => by
  rw [one_eq, C_at]
  split
  · rename_i z; rw [z]; exact h.2
  · exact h.1 k (by omega)
theorem tau_mod' {m : Nat} (hM : Mon m M) (hN : Mon n N) (hn : 1 ≤ n) (hf : Pl f) : tau (m + n) (M * N) f = tau m M f * tau n N f := by
  by_cases h : m = 0
  · subst h
    have e := mon0 hM
    subst e
    have e1 : tau 0 (1 : PS F) f = 1 := by unfold tau; rw [mon_0]; rfl
    rw [e1, one_mul', Nat.zero_add]; grind
  · exact tau_mod hM hN (by omega) hn hf
theorem pr_snoc {α : Type} (l : List α) (a : α) (h : α → F) : pr (l ++ [a]) h = pr l h * h a := by
  rw [pr_append, pr_cons, pr_nil]; grind
noncomputable abbrev tauL (f : PS F) (l : List Int) : F := tau (l.length - 1) (ps l) f
theorem residue_by_ok {ls : List (List Int)} {one : List Int} (hP : ∀ l ∈ ls, IsP F l ∧ Nm F l ∧ l.length ≤ 7) (ro : Rep one f) (hl : one.length < 400) :
    ∃ k, d__law_residue_by [.int (pp F), .list (lls ls), L one] = some (.val (.int k)) ∧ 0 ≤ k ∧ k < pp F ∧ (of k : F) = pr ls (tauL f) := by
  have hp := pp_357 (F := F)
  obtain ⟨sl', G', h1, h2⟩ := for_inv (g := gN 4) (u := sSet 3 (e2 dMod (e1 dInt (e2 dMul (eV 3) (eCall d__law_residue (aCons (eV 0) (aCons (eV 4) (aCons (eV 2) aNil)))))) (eV 0))) (ds := lls ls) (G := [])
    (sl := [.val (.int (pp F)), .val (.list (lls ls)), .val (L one), .val (.int 1), .no])
    (fun i sl _ => ∃ k x4, sl = [.val (.int (pp F)), .val (.list (lls ls)), .val (L one), .val (.int k), x4] ∧ 0 ≤ k ∧ k < pp F ∧ (of k : F) = pr (ls.take i) (tauL f))
    ⟨1, .no, rfl, by omega, by omega, of_one⟩ fun i d sl G hd hI => by
      obtain ⟨k, x4, hs, k1, k2, k3⟩ := hI
      obtain ⟨l, hl', hd'⟩ := lls_get hd
      subst hs; subst hd'
      obtain ⟨q1, q2, q3⟩ := hP l (List.mem_of_getElem? hl')
      obtain ⟨z, z1, z2, z3, z4⟩ := law_residue_ok (M := ps l) q1 ⟨q2, rfl⟩ ro hl q3
      have hm := dMul_i 3 3 (small_of (F := F) ⟨k1, k2⟩) (small_of (F := F) ⟨z2, z3⟩) (by omega)
      have hr := mod_rng (F := F) (k * z)
      refine ⟨[.val (.int (pp F)), .val (.list (lls ls)), .val (L one), .val (.int k), .val (.list (nums l))], _, G, .nx, rfl, ?_, .inl rfl, k * z % pp F, .val (.list (nums l)), rfl, hr.1, hr.2, ?_⟩
      · simp only [sSet_s, e2_s, e1_s, eV_s, List.getElem?_cons_succ, List.getElem?_cons_zero, eCall_s, aCons_s, aNil_s, z1, rv_val, hm, dInt_i, dMod_i pp_pos, List.set_cons_succ, List.set_cons_zero]
      · rw [of_mod, of_mul, k3, z4, List.take_succ, hl']
        exact (pr_snoc _ _ _).symm
  obtain ⟨k, x4, hs, k1, k2, k3⟩ := h2
  rw [lls_len, List.take_length] at k3
  refine ⟨k, ?_, k1, k2, k3⟩
  simp only [d__law_residue_by, runF, startS, u__law_residue_by, List.length_cons, List.length_nil, if_true, List.map_cons, List.map_nil, List.replicate, List.cons_append, List.nil_append, Nat.reduceSub, Nat.reduceAdd, sSeq_s, sSet_s, eC_s, List.set_cons_succ, List.set_cons_zero, sFor_s, iL_s, eV_s, List.getElem?_cons_succ, List.getElem?_cons_zero, h1, hs, sRet_s, endF_rt]
theorem made_ok {ls : List (List Int)} (hP : ∀ l ∈ ls, Nm F l ∧ l.getLast? = some 1 ∧ 2 ≤ l.length ∧ l.length ≤ 7) (hl : ls.length ≤ 50) :
    ∃ r, ∃ A : PS F, ∃ d, d__law_made [.int (pp F), .list (lls ls)] = some (.val (L r)) ∧ Rep r A ∧ Mon d A ∧ ls.length ≤ d ∧ d ≤ 6 * ls.length ∧ (∀ l ∈ ls, l.length ≤ d + 1) ∧ (∀ b, (∀ l ∈ ls, l.length ≤ b + 1) → d ≤ b * ls.length) ∧ ∀ f : PS F, Pl f → tau d A f = pr ls (tauL f) := by
  obtain ⟨sl', G', h1, h2⟩ := for_inv (g := gN 3) (u := sSet 2 (eCall d__law_times (aCons (eV 0) (aCons (eV 2) (aCons (eV 3) aNil))))) (ds := lls ls) (G := [])
    (sl := [.val (.int (pp F)), .val (.list (lls ls)), .val (L [1]), .no])
    (fun i sl _ => i ≤ ls.length ∧ ∃ r x3, ∃ A : PS F, ∃ d, sl = [.val (.int (pp F)), .val (.list (lls ls)), .val (L r), x3] ∧ Rep r A ∧ Mon d A ∧ i ≤ d ∧ d ≤ 6 * i ∧ (∀ l ∈ ls.take i, l.length ≤ d + 1) ∧ (∀ b, (∀ l ∈ ls, l.length ≤ b + 1) → d ≤ b * i) ∧ ∀ f : PS F, Pl f → tau d A f = pr (ls.take i) (tauL f))
    ⟨Nat.zero_le _, [1], .no, 1, 0, rfl, rep_one, mon_one, Nat.le_refl _, Nat.zero_le _, (fun l hl => by simp at hl), (fun b _ => Nat.zero_le _), fun f _ => by unfold tau; rw [mon_0]; rfl⟩ fun i d sl G hd hI => by
      obtain ⟨hi, r, x3, A, e, hs, rr, hA, hi1, hi2, hi3, hi4, hT⟩ := hI
      obtain ⟨l, hl', hd'⟩ := lls_get hd
      subst hs; subst hd'
      have hi' := (List.getElem?_eq_some_iff.mp hl').1
      obtain ⟨q1, q2, q3, q4⟩ := hP l (List.mem_of_getElem? hl')
      have rl : Rep l (ps l : PS F) := ⟨q1, rfl⟩
      have hm := rep_mon rl q2
      have lr := (rep_of_mon rr hA).2
      obtain ⟨z, z1, z2⟩ := times_ok (F := F) rr.1.1 q1.1 (by omega) (by omega)
      rw [rr.2] at z2
      refine ⟨[.val (.int (pp F)), .val (.list (lls ls)), .val (L r), .val (.list (nums l))], _, G, .nx, rfl, ?_, .inl rfl, by omega, z, .val (.list (nums l)), _, e + (l.length - 1), rfl, z2, hA.mul hm, by omega, by omega, ?_, ?_, ?_⟩
      · simp only [sSet_s, eCall_s, aCons_s, aNil_s, eV_s, List.getElem?_cons_succ, List.getElem?_cons_zero, z1, rv_own, List.set_cons_succ, List.set_cons_zero]
      · intro l' hm'
        rw [List.take_succ, hl'] at hm'
        rcases List.mem_append.mp hm' with h | h
        · have := hi3 l' h; omega
        · have : l' = l := by simpa using h
          rw [this]; omega
      · intro b hb
        have h1 := hi4 b hb
        have h2 := hb l (List.mem_of_getElem? hl')
        rw [Nat.mul_succ]; omega
      · intro f hf
        rw [tau_mod' hA hm (by omega) hf, hT f hf, List.take_succ, hl']
        exact (pr_snoc _ _ _).symm
  obtain ⟨_, r, x3, A, d, hs, rr, hA, hi1, hi2, hi3, hi4, hT⟩ := h2
  rw [lls_len] at hi1 hi2 hi3 hi4 hT
  rw [List.take_length] at hi3 hT
  refine ⟨r, A, d, ?_, rr, hA, hi1, hi2, hi3, hi4, hT⟩
  have e1 : L [1] = PyData.list [.int 1] := rfl
  rw [e1] at h1
  simp only [d__law_made, runF, startS, u__law_made, List.length_cons, List.length_nil, if_true, List.map_cons, List.map_nil, List.replicate, List.cons_append, List.nil_append, Nat.reduceSub, Nat.reduceAdd, sSeq_s, sSet_s, eO_s, oLst_s, aCons_s, aNil_s, eC_s, Nat.reduceLeDiff, List.set_cons_succ, List.set_cons_zero, sFor_s, iL_s, eV_s, List.getElem?_cons_succ, List.getElem?_cons_zero, h1, hs, sRet_s, endF_rt]
theorem odd_cast {a b : Nat} (ha : 1 ≤ a) (hb : 1 ≤ b) : (((a : Int) - 1) * ((b : Int) - 1)) % 2 = (((a - 1) * (b - 1) % 2 : Nat) : Int) := by
  have q1 : (a : Int) - 1 = ((a - 1 : Nat) : Int) := by omega
  have q2 : (b : Int) - 1 = ((b - 1 : Nat) : Int) := by omega
  rw [q1, q2]; norm_cast
theorem sg_val {n : Int} (k : Nat) : (of ((if k % 2 = 1 then 0 - n else n) % pp F) : F) = sg k * of n := by
  rw [of_mod, sg2]
  split
  · rw [of_sub, of_zero]; grind
  · grind
theorem turned_ok {one other : List Int} {n : Int} (h1 : 1 ≤ one.length) (h2 : 1 ≤ other.length) (hl1 : one.length < 1000) (hl2 : other.length < 1000) :
    ∃ k, d__law_turned [.int (pp F), L one, L other, .int n] = some (.val (.int k)) ∧ 0 ≤ k ∧ k < pp F ∧ (of k : F) = sg ((one.length - 1) * (other.length - 1)) * of n := by
  have hm := dMul_i (i := (one.length : Int) - 1) (j := (other.length : Int) - 1) 10 10 (by omega) (by omega) (by omega)
  have hmod : dMod (.int (((one.length : Int) - 1) * ((other.length : Int) - 1))) (.int 2) = some (.int ((((one.length : Int) - 1) * ((other.length : Int) - 1)) % 2)) := dMod_i (by omega)
  have hr := mod_rng (F := F) (if (one.length - 1) * (other.length - 1) % 2 = 1 then 0 - n else n)
  refine ⟨(if (one.length - 1) * (other.length - 1) % 2 = 1 then 0 - n else n) % pp F, ?_, hr.1, hr.2, sg_val _⟩
  rw [odd_cast h1 h2] at hmod
  by_cases ho : (one.length - 1) * (other.length - 1) % 2 = 1
  · have hd : decide ((((one.length - 1) * (other.length - 1) % 2 : Nat) : Int) = 1) = true := decide_eq_true (by omega)
    rw [if_pos ho]
    simp only [d__law_turned, runF, startS, u__law_turned, List.length_cons, List.length_nil, if_true, List.map_cons, List.map_nil, List.replicate, List.cons_append, List.nil_append, Nat.reduceSub, Nat.reduceAdd, sSeq_s, sSet_s, e2_s, e1_s, eV_s, eC_s, List.getElem?_cons_succ, List.getElem?_cons_zero, dLen_l, nums_len, dSub_i, hm, dInt_i, hmod, dEq_i, hd, List.set_cons_succ, List.set_cons_zero, sRet_s, eIf_s, bE_s, dMod_i pp_pos, endF_rt]
  · have hd : decide ((((one.length - 1) * (other.length - 1) % 2 : Nat) : Int) = 1) = false := decide_eq_false (by omega)
    rw [if_neg ho]
    simp only [d__law_turned, runF, startS, u__law_turned, List.length_cons, List.length_nil, if_true, List.map_cons, List.map_nil, List.replicate, List.cons_append, List.nil_append, Nat.reduceSub, Nat.reduceAdd, sSeq_s, sSet_s, e2_s, e1_s, eV_s, eC_s, List.getElem?_cons_succ, List.getElem?_cons_zero, dLen_l, nums_len, dSub_i, hm, dInt_i, hmod, dEq_i, hd, List.set_cons_succ, List.set_cons_zero, sRet_s, eIf_s, bE_s, dMod_i pp_pos, endF_rt]
end
end BR

namespace BR
open PySem PySem.Spec PyProof.Rows L2 QL MA DN
section
variable {F : Type} [Fq F] {l m : List Int} {f g M N : PS F} {n k : Nat}
theorem walked_ok {md pl : List Int} (rl : Rep md M) (rp : Rep pl f) (hm : md.getLast? = some 1) (l1 : 2 ≤ md.length) (l2 : md.length ≤ 61) (l3 : pl.length ≤ 121) :
    ∃ k, d__law_walked [.int (pp F), L md, L pl] = some (.val (.int k)) ∧ 0 ≤ k ∧ k < pp F ∧ (of k : F) = tau (md.length - 1) M f := by
  have hp := pp_357 (F := F)
  have hM := rep_mon rl hm
  obtain ⟨h0, x1, x2, x3⟩ := law_rest_mon rp rl hm (by omega) (by omega)
  obtain ⟨T, hT⟩ : ∃ T, T = tau (md.length - 1) M f := ⟨_, rfl⟩
  obtain ⟨sl', G', h1, h2⟩ := for_inv (g := gN 3) (u := (sSeq (sIf (bE (e2 dNe (eV 5) (eO (oLst aNil)))) (sSeq (sSet 6 (e2 dMod (e1 dInt (e2 dMul (eV 6) (eCall d__law_whole (aCons (e2 dIx (eV 5) (eNeg (eC (.int 1)))) (aCons (e2 dSub (e1 dLen (eV 4)) (eC (.int 1))) aNil))))) (eV 0))) (sSet 5 (eCall d__law_times (aCons (eV 0) (aCons (eV 5) (aCons (eO (oLst (aCons (eCall d__law_back (aCons (eV 0) (aCons (e2 dIx (eV 5) (eNeg (eC (.int 1)))) aNil))) aNil))) aNil)))))) sNil) (sIf (bE (e2 dGt (e1 dLen (eV 5)) (eC (.int 1)))) (sSeq (sSet 7 (e2 dEq (e2 dMod (e1 dInt (e2 dMul (e2 dSub (e1 dLen (eV 4)) (eC (.int 1))) (e2 dSub (e1 dLen (eV 5)) (eC (.int 1))))) (eC (.int 2))) (eC (.int 1)))) (sPar [4, 5, 6] (mVal (eV 5) (mVal (eCall d__law_rest (aCons (eV 0) (aCons (eV 4) (aCons (eV 5) aNil)))) (mVal (e2 dMod (e1 dInt (eIf (bE (eV 7)) (e2 dSub (eC (.int 0)) (eV 6)) (eV 6))) (eV 0)) mNil))))) sNil)))
    (ds := rngD 0 (md.length + pl.length)) (G := [])
    (sl := [.val (.int (pp F)), .val (L md), .val (L pl), .no, .val (L md), .val (L h0), .val (.int 1), .no])
    (fun i sl _ => ∃ low high k x3 x7, ∃ M f : PS F, sl = [.val (.int (pp F)), .val (L md), .val (L pl), x3, .val (L low), .val (L high), .val (.int k), x7] ∧ Rep low M ∧ Rep high f ∧ low.getLast? = some 1 ∧ 2 ≤ low.length ∧ low.length ≤ 61 ∧ high.length < low.length ∧ (high = [] ∨ high = [1] ∨ high.length + i < md.length) ∧ 0 ≤ k ∧ k < pp F ∧ of k * tau (low.length - 1) M f = T)
    ⟨md, h0, 1, .no, .no, M, _, rfl, rl, x2, hm, l1, l2, x3, .inr (.inr (by omega)), by omega, by omega, by rw [tau_rem hM (rep_pl rp), hT, of_one]; grind⟩ fun i d sl G hd hI => by
      obtain ⟨low, high, k, x3, x7, M, f, hs, rl, rh, hm, l1, l2, l3, hcase, k1, k2, ht⟩ := hI
      obtain ⟨hd', hi'⟩ := rng_at _ _ i d hd
      subst hs; subst hd'
      have hM := rep_mon rl hm
      by_cases hz : high = []
      · subst hz
        have hgt : decide ((1 : Int) < (([] : List Int).length : Int)) = false := by decide
        refine ⟨[.val (.int (pp F)), .val (L md), .val (L pl), .val (.int (0 + (i : Int))), .val (L low), .val (L []), .val (.int k), x7], _, G, .nx, rfl, ?_, .inl rfl, low, [], k, .val (.int (0 + (i : Int))), x7, M, f, rfl, rl, rh, hm, l1, l2, l3, .inl rfl, k1, k2, ht⟩
        have hne := dNe_nil (l := [])
        simp only [decide_true, Bool.not_true] at hne
        simp only [sSeq_s, sIf_s, bE_s, e2_s, e1_s, eV_s, eC_s, eO_s, oLst_s, aNil_s, List.getElem?_cons_succ, List.getElem?_cons_zero, List.length_nil, Nat.zero_le, if_true, hne, sNil_s, dLen_l, nums_len, dGt_i]
        simp
      · obtain ⟨c, t1, t2, t3, t4, t5, t6⟩ := rep_top rh hz
        have hpos := lt1 hz
        have a1 := BR.atI_last t1
        obtain ⟨bk, b1, b2, b3, b4⟩ := back_ok (F := F) (x := c) ⟨t2, t3⟩
        have hw := raised_whole_ok (b := c) (c := (low.length : Int) - 1) (small_of (F := F) ⟨by omega, t3⟩) (by omega)
        rw [← law_whole_eq] at hw
        have ew : ((low.length : Int) - 1).toNat = low.length - 1 := by omega
        rw [ew] at hw
        have hmu := dMul_i 3 (3 * (low.length - 1) + 1) (small_of (F := F) ⟨k1, k2⟩) (pow_small (small_of (F := F) (x := c) ⟨by omega, t3⟩) (low.length - 1)) (by omega)
        obtain ⟨nh, y1, y2⟩ := times_ok (F := F) (a := high) (b := [bk]) rh.1.1 (fun x hx => by rw [List.mem_singleton.mp hx]; exact ⟨b2, b3⟩) (by omega) (by simp)
        have y1' : d__law_times [.int (pp F), .list (nums high), .list [.int bk]] = some (.own (nums nh)) := y1
        rw [rh.2, ps_C] at y2
        have ef : f * C (of bk) = C (of bk) * f := mul_comm' _ _
        rw [ef] at y2
        have mm : Mon (high.length - 1) (C (of bk) * f) := ⟨t6.C _, by rw [C_mul_at, t4, b4]⟩
        have hlast := rep_of_mon y2 mm
        have hlen : nh.length = high.length := by omega
        have hne : dNe (.list (nums high)) (.list []) = some (.bool true) := by rw [dNe_nil]; simp [hz]
        obtain ⟨k', hk'⟩ : ∃ k', k' = k * c ^ (low.length - 1) % pp F := ⟨_, rfl⟩
        have hr := mod_rng (F := F) (k * c ^ (low.length - 1))
        rw [← hk'] at hr
        have hof : (of k' : F) * tau (low.length - 1) M (C (of bk) * f) = T := by
          rw [hk', of_mod, of_mul, of_pow, tau_C hM (rep_pl rh), ← ht]
          have e : (of c : F) ^ (low.length - 1) * (of bk : F) ^ (low.length - 1) = 1 := by
            rw [← MA.mul_pow]
            have : (of c : F) * of bk = 1 := by rw [← b4]; grind
            rw [this, MA.one_pow]
          grind
        by_cases h1 : high.length = 1
        · have hn1 : nh = [1] := by
            obtain ⟨a, ha⟩ := List.length_eq_one_iff.mp (show nh.length = 1 by omega)
            have := hlast.1
            rw [ha] at this
            have : a = 1 := by simpa using this
            rw [ha, this]
          have hgt : decide ((1 : Int) < (nh.length : Int)) = false := decide_eq_false (by omega)
          refine ⟨[.val (.int (pp F)), .val (L md), .val (L pl), .val (.int (0 + (i : Int))), .val (L low), .val (L high), .val (.int k), x7], _, G, .nx, rfl, ?_, .inl rfl, low, nh, k', .val (.int (0 + (i : Int))), x7, M, _, rfl, rl, y2, hm, l1, l2, by omega, .inr (.inl hn1), hr.1, hr.2, hof⟩
          simp only [sSeq_s, sIf_s, bE_s, e2_s, e1_s, eV_s, eC_s, eO_s, oLst_s, aNil_s, aCons_s, eNeg_s, List.getElem?_cons_succ, List.getElem?_cons_zero, List.length_nil, List.length_cons, Nat.reduceAdd, Nat.reduceLeDiff, Nat.zero_le, if_true, hne, sSet_s, eCall_s, dIx_l, a1, dLen_l, nums_len, dSub_i, hw, rv_val, hmu, dInt_i, dMod_i pp_pos, ← hk', List.set_cons_succ, List.set_cons_zero, b1, y1', rv_own, dGt_i, hgt, sNil_s]
        · have h3 : high.length + i < md.length := by
            rcases hcase with h | h | h
            · exact (hz h).elim
            · exact (h1 (by rw [h]; rfl)).elim
            · exact h
          have hgt : decide ((1 : Int) < (nh.length : Int)) = true := decide_eq_true (by omega)
          obtain ⟨r, q1, q2, q3⟩ := law_rest_mon rl y2 hlast.1 (by omega) (by omega)
          have hm2 := dMul_i (i := (low.length : Int) - 1) (j := (nh.length : Int) - 1) 10 10 (by omega) (by omega) (by omega)
          have hmod : dMod (.int (((low.length : Int) - 1) * ((nh.length : Int) - 1))) (.int 2) = some (.int ((((low.length : Int) - 1) * ((nh.length : Int) - 1)) % 2)) := dMod_i (by omega)
          rw [odd_cast (by omega) (by omega)] at hmod
          have hr2 := mod_rng (F := F) (if (low.length - 1) * (nh.length - 1) % 2 = 1 then 0 - k' else k')
          have hfin : (of ((if (low.length - 1) * (nh.length - 1) % 2 = 1 then 0 - k' else k') % pp F) : F) * tau (nh.length - 1) (C (of bk) * f) (rem (nh.length - 1) (C (of bk) * f) M) = T := by
            have hN := rep_mon y2 hlast.1
            rw [sg_val, tau_rem hN (rep_pl rl), recip hM hN, ← hof]
            have := sg_sq (F := F) ((low.length - 1) * (nh.length - 1))
            grind
          by_cases ho : (low.length - 1) * (nh.length - 1) % 2 = 1
          · have hd : decide ((((low.length - 1) * (nh.length - 1) % 2 : Nat) : Int) = 1) = true := decide_eq_true (by omega)
            rw [if_pos ho] at hr2 hfin
            refine ⟨[.val (.int (pp F)), .val (L md), .val (L pl), .val (.int (0 + (i : Int))), .val (L low), .val (L high), .val (.int k), x7], _, G, .nx, rfl, ?_, .inl rfl, nh, r, (0 - k') % pp F, .val (.int (0 + (i : Int))), .val (.bool true), _, _, rfl, y2, q2, hlast.1, by omega, by omega, q3, .inr (.inr (by omega)), hr2.1, hr2.2, hfin⟩
            simp only [sSeq_s, sIf_s, bE_s, e2_s, e1_s, eV_s, eC_s, eO_s, oLst_s, aNil_s, aCons_s, eNeg_s, List.getElem?_cons_succ, List.getElem?_cons_zero, List.length_nil, List.length_cons, Nat.reduceAdd, Nat.reduceLeDiff, Nat.zero_le, if_true, hne, sSet_s, eCall_s, dIx_l, a1, dLen_l, nums_len, dSub_i, hw, rv_val, hmu, dInt_i, dMod_i pp_pos, ← hk', List.set_cons_succ, List.set_cons_zero, b1, y1', rv_own, dGt_i, hgt, hm2, hmod, dEq_i, hd, sPar_s, mVal_s, mNil_s, q1, eIf_s, parSet_val, parSet_nil]
          · have hd : decide ((((low.length - 1) * (nh.length - 1) % 2 : Nat) : Int) = 1) = false := decide_eq_false (by omega)
            rw [if_neg ho] at hr2 hfin
            refine ⟨[.val (.int (pp F)), .val (L md), .val (L pl), .val (.int (0 + (i : Int))), .val (L low), .val (L high), .val (.int k), x7], _, G, .nx, rfl, ?_, .inl rfl, nh, r, k' % pp F, .val (.int (0 + (i : Int))), .val (.bool false), _, _, rfl, y2, q2, hlast.1, by omega, by omega, q3, .inr (.inr (by omega)), hr2.1, hr2.2, hfin⟩
            simp only [sSeq_s, sIf_s, bE_s, e2_s, e1_s, eV_s, eC_s, eO_s, oLst_s, aNil_s, aCons_s, eNeg_s, List.getElem?_cons_succ, List.getElem?_cons_zero, List.length_nil, List.length_cons, Nat.reduceAdd, Nat.reduceLeDiff, Nat.zero_le, if_true, hne, sSet_s, eCall_s, dIx_l, a1, dLen_l, nums_len, dSub_i, hw, rv_val, hmu, dInt_i, dMod_i pp_pos, ← hk', List.set_cons_succ, List.set_cons_zero, b1, y1', rv_own, dGt_i, hgt, hm2, hmod, dEq_i, hd, sPar_s, mVal_s, mNil_s, q1, eIf_s, parSet_val, parSet_nil]
  obtain ⟨low, high, k, x3', x7, M', f', hs, rl', rh', hm', m1, m2, m3, hcase, k1, k2, ht⟩ := h2
  rw [rng_len] at hcase
  have o1 : okR ((md.length : Int) + (pl.length : Int)) = true := okR_of (by omega)
  have o2 : ((md.length : Int) + (pl.length : Int)).toNat = md.length + pl.length := by omega
  rw [hT] at ht
  have fin : 0 ≤ (if high = [1] then k else 0) ∧ (if high = [1] then k else 0) < pp F ∧ (of (if high = [1] then k else 0) : F) = tau (md.length - 1) M f := by
    rcases hcase with h2 | h2 | h2
    · subst h2
      have hf := (rep_nil_iff rh').mp rfl
      rw [hf, tau_zero (rep_mon rl' hm') (by omega)] at ht
      have e : ([] : List Int) ≠ [1] := by simp
      rw [if_neg e]
      refine ⟨by omega, by omega, ?_⟩
      rw [of_zero, ← ht]; grind
    · subst h2
      have hf := (rep_one_iff rh').mp rfl
      rw [hf, tau_one (rep_mon rl' hm')] at ht
      rw [if_pos rfl]
      refine ⟨k1, k2, ?_⟩
      rw [← ht]; grind
    · omega
  refine ⟨if high = [1] then k else 0, ?_, fin⟩
  by_cases hh : high = [1]
  · have hd : dEq (.list (nums high)) (.list [.int 1]) = some (.bool true) := by rw [dEq_one]; simp [hh]
    rw [if_pos hh]
    simp only [d__law_walked, runF, startS, u__law_walked, List.length_cons, List.length_nil, if_true, List.map_cons, List.map_nil, List.replicate, List.cons_append, List.nil_append, Nat.reduceSub, Nat.reduceAdd, sSeq_s, sPar_s, mVal_s, mNil_s, eV_s, eCall_s, aCons_s, aNil_s, eC_s, List.getElem?_cons_succ, List.getElem?_cons_zero, x1, rv_val, parSet_val, parSet_nil, List.set_cons_succ, List.set_cons_zero, sFor_s, iR1_s, e2_s, e1_s, dLen_l, nums_len, dAdd_i, o1, o2, h1, hs, sRet_s, eIf_s, bE_s, eO_s, oLst_s, Nat.reduceLeDiff, hd, endF_rt]
  · have hd : dEq (.list (nums high)) (.list [.int 1]) = some (.bool false) := by rw [dEq_one]; simp [hh]
    rw [if_neg hh]
    simp only [d__law_walked, runF, startS, u__law_walked, List.length_cons, List.length_nil, if_true, List.map_cons, List.map_nil, List.replicate, List.cons_append, List.nil_append, Nat.reduceSub, Nat.reduceAdd, sSeq_s, sPar_s, mVal_s, mNil_s, eV_s, eCall_s, aCons_s, aNil_s, eC_s, List.getElem?_cons_succ, List.getElem?_cons_zero, x1, rv_val, parSet_val, parSet_nil, List.set_cons_succ, List.set_cons_zero, sFor_s, iR1_s, e2_s, e1_s, dLen_l, nums_len, dAdd_i, o1, o2, h1, hs, sRet_s, eIf_s, bE_s, eO_s, oLst_s, Nat.reduceLeDiff, hd, endF_rt]
end
end BR

namespace BR
open PySem PySem.Spec PyProof.Rows L2 QL MA DN
def isT : Option RV → Bool
  | some (.val (.bool true)) => true
  | _ => false
theorem isT_eq {x : Option RV} (h : isT x = true) : x = some (.val (.bool true)) := by
  unfold isT at h
  split at h
  · rfl
  · cases h
theorem irr3 : isT (d__law_is_prime [.int 3, L [1, 0, 1]]) = true := by decide +kernel
theorem irr5 : isT (d__law_is_prime [.int 5, L [2, 0, 1]]) = true := by decide +kernel
theorem irr7 : isT (d__law_is_prime [.int 7, L [1, 0, 1]]) = true := by decide +kernel

/-! ### draws -/
def Gd (n : Nat) (G : GS) : Prop := ∃ a b c : Int, G = [.int a, .int b, .int c] ∧ 0 ≤ b ∧ b < 2147483648 ∧ 0 ≤ c ∧ c ≤ (n : Int)
theorem Gd.mono {n m : Nat} {G : GS} (h : Gd n G) (hm : n ≤ m) : Gd m G := by
  obtain ⟨a, b, c, h1, h2, h3, h4, h5⟩ := h
  exact ⟨a, b, c, h1, h2, h3, h4, by omega⟩
theorem nat_lt {a : Nat} {n : Nat} (h : a < n) (hn : n ≤ 2 ^ 31) : a < 2 ^ 31 := by omega
theorem hash_ok {s i : Int} (hs : 0 ≤ s ∧ s < 2147483648) (hi : 0 ≤ i ∧ i < 2147483648) : ∃ h, d__law_hash [.int s, .int i] = some (.val (.int h)) ∧ 0 ≤ h ∧ h < 2147483647 := by
  have m1 : dMul (.int s) (.int 1140671) = some (.int (s * 1140671)) := dMul_i 31 31 (by omega) (by decide) (by omega)
  have m2 : dMul (.int 27644437) (.int i) = some (.int (27644437 * i)) := dMul_i 31 31 (by decide) (by omega) (by omega)
  have m3 : dMul (.int (27644437 * i)) (.int i) = some (.int (27644437 * i * i)) := dMul_i 62 31 (by omega) (by omega) (by omega)
  have m4 : dMul (.int 131) (.int i) = some (.int (131 * i)) := dMul_i 31 31 (by decide) (by omega) (by omega)
  obtain ⟨x, hx⟩ : ∃ x, x = (s * 1140671 + 27644437 * i * i + 131 * i + 19) % 2147483629 := ⟨_, rfl⟩
  have hx1 : 0 ≤ x ∧ x < 2147483629 := by rw [hx]; exact ⟨Int.emod_nonneg _ (by omega), Int.emod_lt_of_pos _ (by omega)⟩
  have m5 : dMul (.int x) (.int x) = some (.int (x * x)) := dMul_i 31 31 (by omega) (by omega) (by omega)
  have m6 : dMul (.int 62089) (.int i) = some (.int (62089 * i)) := dMul_i 31 31 (by decide) (by omega) (by omega)
  obtain ⟨y, hy⟩ : ∃ y, y = (x * x + 62089 * i + 32416187) % 2147483587 := ⟨_, rfl⟩
  have hy1 : 0 ≤ y ∧ y < 2147483587 := by rw [hy]; exact ⟨Int.emod_nonneg _ (by omega), Int.emod_lt_of_pos _ (by omega)⟩
  have m7 : dMul (.int y) (.int 48271) = some (.int (y * 48271)) := dMul_i 31 31 (by omega) (by decide) (by omega)
  have d1 : dMod (.int (s * 1140671 + 27644437 * i * i + 131 * i + 19)) (.int 2147483629) = some (.int x) := by rw [dMod_i (by omega), hx]
  have d2 : dMod (.int (x * x + 62089 * i + 32416187)) (.int 2147483587) = some (.int y) := by rw [dMod_i (by omega), hy]
  have d3 : dMod (.int (y * 48271)) (.int 2147483647) = some (.int (y * 48271 % 2147483647)) := dMod_i (by omega)
  refine ⟨y * 48271 % 2147483647, ?_, Int.emod_nonneg _ (by omega), Int.emod_lt_of_pos _ (by omega)⟩
  simp only [d__law_hash, runF, startS, u__law_hash, List.length_cons, List.length_nil, if_true, List.map_cons, List.map_nil, List.replicate, List.cons_append, List.nil_append, Nat.reduceSub, Nat.reduceAdd, sSeq_s, sSet_s, e2_s, e1_s, eV_s, eC_s, List.getElem?_cons_succ, List.getElem?_cons_zero, m1, m2, m3, m4, m5, m6, m7, dAdd_i, dInt_i, d1, d2, d3, List.set_cons_succ, List.set_cons_zero, sRet_s, endF_rt]
theorem random_ok {b : Int} {n : Nat} {G : GS} (hb : 0 < b ∧ b < 536870912) (hG : Gd n G) (hn : n ≤ 1000000000) :
    ∃ d G', d__law_random [.int b] G = some (.val (.int d), G') ∧ 0 ≤ d ∧ d < b ∧ Gd (n + 1) G' := by
  obtain ⟨a, s, c, hg, g1, g2, g3, g4⟩ := hG
  subst hg
  have j0 : atI [PyData.int a, .int s, .int c] 0 = some (.int a) := rfl
  have j1 : atI [PyData.int a, .int s, .int c] 1 = some (.int s) := rfl
  have j2 : atI [PyData.int a, .int s, .int c] 2 = some (.int c) := rfl
  by_cases ha : 0 < a
  · have hd : decide ((0 : Int) < a) = true := decide_eq_true ha
    have i0 : ixN 3 0 = some 0 := rfl
    refine ⟨a % b, [.int (a / b), .int s, .int c], ?_, Int.emod_nonneg _ (by omega), Int.emod_lt_of_pos _ hb.1, a / b, s, c, rfl, g1, g2, g3, by omega⟩
    simp only [d__law_random, runG, startS, u__law_random, List.length_cons, List.length_nil, if_true, List.map_cons, List.map_nil, List.replicate, List.cons_append, List.nil_append, Nat.reduceSub, Nat.reduceAdd, sSeq_s, sIf_s, bE_s, e2_s, e1_s, eG_s, eV_s, eC_s, List.getElem?_cons_succ, List.getElem?_cons_zero, j0, dGt_i, hd, sSet_s, dInt_i, dMod_i hb.1, dFdiv_i hb.1 (show b < 1073741824 by omega), sGs_s, i0, List.set_cons_succ, List.set_cons_zero, sRet_s, endF_rt]
  · have hd : decide ((0 : Int) < a) = false := decide_eq_false ha
    have hbits : Builtin.Int.intBits b ≤ 29 := bits_lt (by omega)
    have e1 : dBits (.int b) = some (.int (Builtin.Int.intBits b : Nat)) := rfl
    have e2' : dFdiv (.int (Builtin.Int.intBits b : Nat)) (.int 30) = some (.int 0) := by
      rw [dFdiv_i (by omega) (by omega)]; congr 2; omega
    have o1 : okR (1 + 0) = true := rfl
    have o2 : rngD 0 ((1 : Int) + 0).toNat = [.int 0] := rfl
    have i2 : ixN 3 2 = some 2 := rfl
    have k1 : atI [PyData.int a, .int s, .int (c + 1)] 1 = some (.int s) := rfl
    have k2 : atI [PyData.int a, .int s, .int (c + 1)] 2 = some (.int (c + 1)) := rfl
    obtain ⟨h, h1, h2, h3⟩ := hash_ok (s := s) (i := c + 1) ⟨g1, g2⟩ ⟨by omega, by omega⟩
    have m1 : dMul (.int 0) (.int 2147483587) = some (.int (0 * 2147483587)) := dMul_i 31 32 (by decide) (by decide) (by omega)
    refine ⟨(0 * 2147483587 + h) % b, [.int a, .int s, .int (c + 1)], ?_, Int.emod_nonneg _ (by omega), Int.emod_lt_of_pos _ hb.1, a, s, c + 1, rfl, g1, g2, by omega, by omega⟩
    have lp : ∀ (g : TgF) (u : SF) (sl sl1 sl2 : Sl) (G G2 : GS), g (.int 0) sl = some sl1 → u sl1 G = some (.nx, sl2, G2) → sForL g u [.int 0] sl G = some (.nx, sl2, G2) := fun g u sl sl1 sl2 G G2 q1 q2 => by
      unfold sForL
      simp only [q1, q2]
      rfl
    have hloop := lp (gN 3) (sSeq (sGs 0 (eC (.int 2)) (e2 dAdd (eG 0 (eC (.int 2))) (eC (.int 1)))) (sSet 2 (e2 dAdd (e2 dMul (eV 2) (eC (.int 2147483587))) (eCall d__law_hash (aCons (eG 0 (eC (.int 1))) (aCons (eG 0 (eC (.int 2))) aNil))))))
      [.gen, .val (.int b), .val (.int 0), .no] [.gen, .val (.int b), .val (.int 0), .val (.int 0)] [.gen, .val (.int b), .val (.int (0 * 2147483587 + h)), .val (.int 0)] [.int a, .int s, .int c] [.int a, .int s, .int (c + 1)] rfl (by
        simp only [sSeq_s, sGs_s, e2_s, eG_s, eC_s, eV_s, List.getElem?_cons_succ, List.getElem?_cons_zero, j2, dAdd_i, List.length_cons, List.length_nil, Nat.reduceAdd, i2, List.set_cons_succ, List.set_cons_zero, sSet_s, m1, eCall_s, aCons_s, aNil_s, k1, k2, h1, rv_val])
    simp only [d__law_random, runG, startS, u__law_random, List.length_cons, List.length_nil, if_true, List.map_cons, List.map_nil, List.replicate, List.cons_append, List.nil_append, Nat.reduceSub, Nat.reduceAdd, sSeq_s, sIf_s, bE_s, e2_s, e1_s, eG_s, eV_s, eC_s, List.getElem?_cons_succ, List.getElem?_cons_zero, j0, dGt_i, hd, sNil_s, sSet_s, List.set_cons_succ, List.set_cons_zero, sFor_s, iR1_s, aCons_s, aNil_s, e1, e2', dAdd_i, o1, o2, hloop, dInt_i, dMod_i hb.1, sRet_s, endF_rt]
theorem nums_opt : ∀ l : List Int, ints? (l.map .int) = some l
  | [] => rfl
  | x :: l => by
    have := nums_opt l
    simp [ints?, this]
theorem cell_ok {ns : List Int} {i : Nat} (hl : ns.length ≤ 1000) (hi : i < 1000) : ∃ z, d__law_cell ns [.int i] = some (.val (.int z)) := by
  by_cases h : i < ns.length
  · have hd : decide ((i : Int) < (ns.length : Int)) = true := decide_eq_true (by omega)
    have g1 : atI (ns.map PyData.int) (i : Int) = some (.int ns[i]) := by
      rw [atI_nat (by simpa using h), List.getElem?_map, List.getElem?_eq_getElem h]; rfl
    refine ⟨ns[i], ?_⟩
    simp only [d__law_cell, runS, startS, u__law_cell, List.length_cons, List.length_nil, if_true, List.map_cons, List.map_nil, List.replicate, List.cons_append, List.nil_append, Nat.reduceSub, Nat.reduceAdd, sSeq_s, sIf_s, bE_s, e2_s, e1_s, eV_s, wV_s, List.getElem?_cons_succ, List.getElem?_cons_zero, dLen_l, List.length_map, dLt_i, hd, sRet_s, dIx_l, g1, endF_rt]
  · have hd : decide ((i : Int) < (ns.length : Int)) = false := decide_eq_false (by omega)
    obtain ⟨t, ht⟩ : ∃ t : List Int, QL.cutD (ns.map PyData.int) none (some 1) = t.map .int := by
      unfold QL.cutD
      rw [← List.map_drop, ← List.map_take]
      exact ⟨_, rfl⟩
    have hs : dSum (.list (t.map .int)) = some (.int t.sum) := by
      show (ints? (t.map .int)).map (fun ns => PyData.int ns.sum) = _
      rw [nums_opt]; rfl
    have hm : dMod (.int t.sum) (.int 1000003) = some (.int (t.sum % 1000003)) := dMod_i (by omega)
    refine ⟨t.sum % 1000003, ?_⟩
    simp only [d__law_cell, runS, startS, u__law_cell, List.length_cons, List.length_nil, if_true, List.map_cons, List.map_nil, List.replicate, List.cons_append, List.nil_append, Nat.reduceSub, Nat.reduceAdd, sSeq_s, sIf_s, bE_s, e2_s, e1_s, eV_s, wV_s, eC_s, eO_s, oSl_s, pNo_s, pSo_s, List.getElem?_cons_succ, List.getElem?_cons_zero, dLen_l, List.length_map, dLt_i, hd, sNil_s, ht, hs, hm, sRet_s, endF_rt]
theorem generator_ok {ns : List Int} {i : Nat} (hl : ns.length ≤ 1000) (hi : i < 1000) : ∃ G, d__law_generator ns [.int i] = some (.own G) ∧ Gd (1000 * i) G := by
  obtain ⟨z, hz⟩ := cell_ok hl hi
  have p1 : dPowW (.int 10) (.int 18) = some (.int 1000000000000000000) := rfl
  obtain ⟨B, C, hC, p3, p4⟩ : ∃ B C : Int, 0 < C ∧ dPowW (.int 10) (.int 60) = some (.int B) ∧ dPowW (.int B) (.int 10) = some (.int C) := ⟨10 ^ 60, (10 ^ 60) ^ 10, by decide, rfl, rfl⟩
  obtain ⟨M, hM⟩ : ∃ M : Int, M = if 0 > z - 1000000000000000000 then 0 else z - 1000000000000000000 := ⟨_, rfl⟩
  have hm2 : dMod (.int z) (.int 2147483647) = some (.int (z % 2147483647)) := dMod_i (by omega)
  have hm3 : dMul (.int 1000) (.int (i : Int)) = some (.int (1000 * (i : Int))) := dMul_i 10 10 (by decide) (by omega) (by omega)
  refine ⟨[.int (M % C), .int (z % 2147483647), .int (1000 * (i : Int))], ?_, _, _, _, rfl, Int.emod_nonneg _ (by omega), ?_, by omega, by omega⟩
  · simp only [d__law_generator, runS, startS, u__law_generator, List.length_cons, List.length_nil, if_true, List.map_cons, List.map_nil, List.replicate, List.cons_append, List.nil_append, Nat.reduceSub, Nat.reduceAdd, sSeq_s, sSet_s, eCallS_s, aCons_s, aNil_s, eV_s, List.getElem?_cons_succ, List.getElem?_cons_zero, hz, rv_val, List.set_cons_succ, List.set_cons_zero, sRetO_s, oLst_s, e2_s, e1_s, eC_s, eM2_s, p1, dSub_i, ← hM, dInt_i, p3, p4, dMod_i hC, hm2, hm3, Nat.reduceLeDiff, endF_ro]
  · have := Int.emod_lt_of_pos z (show (0 : Int) < 2147483647 by omega)
    omega
end BR

namespace BR
open PySem PySem.Spec PyProof.Rows L2 QL MA DN
theorem field_of {p : Int} (h : p = 3 ∨ p = 5 ∨ p = 7) : ∃ (F : Type) (_ : Fq F), p = pp F := by
  rcases h with h | h | h
  · exact ⟨Fin 3, inferInstance, h⟩
  · exact ⟨Fin 5, inferInstance, h⟩
  · exact ⟨Fin 7, inferInstance, h⟩
theorem nums_of {ys : List PyData} {P : Int → Prop} (h : ∀ y ∈ ys, ∃ x, y = .int x ∧ P x) : ∃ l, ys = nums l ∧ ∀ x ∈ l, P x := by
  induction ys with
  | nil => exact ⟨[], rfl, fun x hx => by cases hx⟩
  | cons y ys ih =>
    obtain ⟨x, hx, px⟩ := h y List.mem_cons_self
    obtain ⟨l, hl, pl⟩ := ih fun z hz => h z (List.mem_cons_of_mem _ hz)
    refine ⟨x :: l, by rw [hx, hl, nums_cons], fun z hz => ?_⟩
    rcases List.mem_cons.mp hz with e | hz
    · rw [e]; exact px
    · exact pl z hz
theorem lists_of {ys : List PyData} {P : List Int → Prop} (h : ∀ y ∈ ys, ∃ x, y = .list (nums x) ∧ P x) : ∃ ls, ys = lls ls ∧ ∀ x ∈ ls, P x := by
  induction ys with
  | nil => exact ⟨[], rfl, fun x hx => by cases hx⟩
  | cons y ys ih =>
    obtain ⟨x, hx, px⟩ := h y List.mem_cons_self
    obtain ⟨l, hl, pl⟩ := ih fun z hz => h z (List.mem_cons_of_mem _ hz)
    refine ⟨x :: l, by rw [hx, hl]; rfl, fun z hz => ?_⟩
    rcases List.mem_cons.mp hz with e | hz
    · rw [e]; exact px
    · exact pl z hz
theorem prime_number_ok {n : Nat} {G : GS} (hG : Gd n G) (hn : n ≤ 1000000000) : ∃ p G', d__law_prime_number [] G = some (.val (.int p), G') ∧ (p = 3 ∨ p = 5 ∨ p = 7) ∧ Gd (n + 1) G' := by
  obtain ⟨d, G', h1, h2, h3, h4⟩ := random_ok (b := 3) (by omega) hG hn
  have hd : d = 0 ∨ d = 1 ∨ d = 2 := by omega
  have : ∃ p, atI [PyData.int 3, .int 5, .int 7] d = some (.int p) ∧ (p = 3 ∨ p = 5 ∨ p = 7) := by
    rcases hd with e | e | e <;> subst e
    · exact ⟨3, rfl, .inl rfl⟩
    · exact ⟨5, rfl, .inr (.inl rfl)⟩
    · exact ⟨7, rfl, .inr (.inr rfl)⟩
  obtain ⟨p, k1, k2⟩ := this
  refine ⟨p, G', ?_, k2, h4⟩
  simp only [d__law_prime_number, runG, startS, u__law_prime_number, List.length_cons, List.length_nil, if_true, List.map_cons, List.map_nil, List.replicate, List.cons_append, List.nil_append, Nat.reduceSub, Nat.reduceAdd, sRet_s, e2_s, eO_s, oLst_s, aCons_s, aNil_s, eC_s, Nat.reduceLeDiff, eCallG_s, List.getElem?_cons_zero, h1, rv_val, dIx_l, k1, endF_rt]
section
variable {F : Type} [Fq F] {l m : List Int} {f g M N : PS F} {n k : Nat} {G : GS}
theorem monic_ok {most : Nat} (hm : 1 ≤ most ∧ most ≤ 100) (hG : Gd n G) (hn : n ≤ 100000000) : ∃ l G', d__law_monic [.int (pp F), .int most] G = some (.val (L l), G') ∧ Nm F l ∧ l.getLast? = some 1 ∧ 2 ≤ l.length ∧ l.length ≤ most + 1 ∧ Gd (n + 1 + most) G' := by
  have hp := pp_357 (F := F)
  obtain ⟨d, G1, h1, h2, h3, h4⟩ := random_ok (b := most) (by omega) hG (by omega)
  obtain ⟨ys, G2, k1, k2, k3, k4⟩ := lc_st (g := gN 3) (t := tTrue) (e := eCallG 0 d__law_random (aCons (eV 1) aNil)) (sl := [.gen, .val (.int (pp F)), .val (.int most), .no]) (G := G1) (ds := rngD 0 (1 + d).toNat) (fun i G => Gd (n + 1 + i) G) (fun y => ∃ x, y = .int x ∧ 0 ≤ x ∧ x < pp F) h4 fun i x G hd hI => by
    obtain ⟨hx, hi⟩ := rng_at _ _ i x hd
    subst hx
    obtain ⟨y, G', q1, q2, q3, q4⟩ := random_ok (b := pp F) (by omega) hI (by omega)
    refine ⟨[.gen, .val (.int (pp F)), .val (.int most), .val (.int (0 + (i : Int)))], .int y, G', rfl, rfl, ?_, ⟨y, rfl, q2, q3⟩, q4.mono (by omega)⟩
    simp only [eCallG_s, List.getElem?_cons_zero, aCons_s, aNil_s, eV_s, List.getElem?_cons_succ, q1, rv_val]
  rw [rng_len] at k2 k4
  obtain ⟨l0, e1, e2'⟩ := nums_of k3
  subst e1
  rw [nums_len] at k2
  have hr : Rg F l0 := e2'
  refine ⟨l0 ++ [1], G2, ?_, rg_snoc1 hr, by simp, by simp; omega, by simp; omega, k4.mono (by omega)⟩
  have o1 : okR (1 + d) = true := okR_of (by omega)
  have o2 : (rngD 0 (1 + d).toNat).length ≤ 16777215 := by rw [rng_len]; omega
  have z : dAdd (.list (nums l0)) (.list [.int 1]) = some (.list (nums (l0 ++ [1]))) := by
    rw [dAdd_l, if_pos (by simp; omega), nums_snoc]
  simp only [d__law_monic, runG, startS, u__law_monic, List.length_cons, List.length_nil, if_true, List.map_cons, List.map_nil, List.replicate, List.cons_append, List.nil_append, Nat.reduceSub, Nat.reduceAdd, sRet_s, e2_s, eO_s, oLc_s, iR1_s, aCons_s, aNil_s, eC_s, eCallG_s, eV_s, List.getElem?_cons_zero, List.getElem?_cons_succ, h1, rv_val, dAdd_i, o1, o2, wipe1, wipe0, List.set_cons_succ, List.set_cons_zero, k1, oLst_s, Nat.reduceLeDiff, z, endF_rt]
theorem isP_of {l : List Int} (h : Nm F l) (hl : l.length ≤ 13) (ht : d__law_is_prime [.int (pp F), L l] = some (.val (.bool true))) : IsP F l := by
  obtain ⟨b, h1, h2⟩ := is_prime_ok h hl
  rw [ht] at h1
  have : b = true := by cases h1; rfl
  exact h2.mp this
variable (F) in
theorem exP {k : Nat} (hk : 1 ≤ k ∧ k ≤ 2) : ∃ l ∈ (mons (pp F) k).map (fun l => l ++ [1]), IsP F l := by
  have hp := pp_357 (F := F)
  have two : ∀ a : Int, 0 ≤ a ∧ a < pp F → isT (d__law_is_prime [.int (pp F), L [a, 0, 1]]) = true → ∃ l ∈ (mons (pp F) 2).map (fun l => l ++ [1]), IsP F l := fun a ha ht => by
    have hr : Rg F [a, 0] := fun x hx => by
      rcases List.mem_cons.mp hx with e | hx
      · rw [e]; exact ha
      · rw [List.mem_singleton.mp hx]; omega
    have hn : Nm F [a, 0, 1] := rg_snoc1 hr
    exact ⟨[a, 0, 1], List.mem_map.mpr ⟨[a, 0], mem_mons.mpr ⟨rfl, hr⟩, rfl⟩, isP_of hn (by simp) (isT_eq ht)⟩
  by_cases h1 : k = 1
  · subst h1
    have hr : Rg F [0] := fun x hx => by rw [List.mem_singleton.mp hx]; omega
    have hn : Nm F [0, 1] := rg_snoc1 hr
    have rr : Rep [0, 1] (ps [0, 1] : PS F) := ⟨hn, rfl⟩
    exact ⟨[0, 1], List.mem_map.mpr ⟨[0], mem_mons.mpr ⟨rfl, hr⟩, rfl⟩, rfl, by simp, rep_mon rr rfl, fun j M h1 h2 => by
      have : j ≤ 0 := h2
      omega⟩
  · have : k = 2 := by omega
    subst this
    rcases hp with h | h | h
    · exact two 1 (by omega) (by rw [h]; exact irr3)
    · exact two 2 (by omega) (by rw [h]; exact irr5)
    · exact two 1 (by omega) (by rw [h]; exact irr7)
theorem a_prime_ok {most : Nat} (hm : 1 ≤ most ∧ most ≤ 6) (hex : ∀ k, 1 ≤ k → k ≤ most → ∃ l ∈ (mons (pp F) k).map (fun l => l ++ [1]), IsP F l) (hG : Gd n G) (hn : n ≤ 100000000) :
    ∃ l G', d__law_a_prime [.int (pp F), .int most] G = some (.val (L l), G') ∧ Nm F l ∧ IsP F l ∧ l.length ≤ most + 1 ∧ Gd (n + 2) G' := by
  have hp := pp_357 (F := F)
  obtain ⟨d, G1, h1, h2, h3, h4⟩ := random_ok (b := most) (by omega) hG (by omega)
  obtain ⟨k, hk⟩ : ∃ k : Nat, 1 + d = (k : Int) := ⟨(1 + d).toNat, by omega⟩
  obtain ⟨l1, i1, i2⟩ := hex k (by omega) (by omega)
  obtain ⟨ls, hls⟩ : ∃ ls, ls = (mons (pp F) k).map (fun l => l ++ [1]) := ⟨_, rfl⟩
  rw [← hls] at i1
  have hmon := monics_ok (F := F) (n := k) (by omega)
  rw [← hls] at hmon
  have hlen : ls.length ≤ 117649 := by
    rw [hls, List.length_map, mons_len]; exact pow7 (by omega)
  let q : List Int → Bool := fun l => @decide (IsP F l) (Classical.propDecidable _)
  have hq : ∀ l, q l = true ↔ IsP F l := fun l => @decide_eq_true_iff _ (Classical.propDecidable _)
  have hc : lcL (gN 5) (bE (eCall d__law_is_prime (aCons (eV 1) (aCons (eV 5) aNil)))) (eV 5) [.gen, .val (.int (pp F)), .val (.int most), .val (.int k), .no, .no] (lls ls) [] G1 = some (lls (ls.filter q), G1) := by
    refine lc_gen (enc := fun l => PyData.list (nums l)) (φ := fun l => PyData.list (nums l)) fun l hl => ⟨[.gen, .val (.int (pp F)), .val (.int most), .val (.int k), .no, .val (.list (nums l))], rfl, ?_, fun _ => rfl⟩
    rw [hls] at hl
    obtain ⟨r1, r2, r3, r4⟩ := of_mon_in (F := F) hl
    obtain ⟨b, b1, b2⟩ := is_prime_ok r1.1 (by omega)
    have eb : q l = b := by
      cases hb : b with
      | true => exact (hq l).mpr (b2.mp hb)
      | false =>
        cases hql : q l with
        | false => rfl
        | true =>
          have := b2.mpr ((hq l).mp hql)
          rw [hb] at this; cases this
    rw [eb]
    simp only [bE_s, eCall_s, aCons_s, aNil_s, eV_s, List.getElem?_cons_zero, List.getElem?_cons_succ, b1, rv_val]
  have hin : l1 ∈ ls.filter q := List.mem_filter.mpr ⟨i1, (hq l1).mpr i2⟩
  have hpos := List.length_pos_of_mem hin
  have hle := List.length_filter_le q ls
  obtain ⟨e, G2, j1, j2, j3, j4⟩ := random_ok (b := ((ls.filter q).length : Int)) (by omega) h4 (by omega)
  have hlt : e.toNat < (ls.filter q).length := by omega
  have hmem := List.getElem_mem hlt
  obtain ⟨hm1, hm2⟩ := List.mem_filter.mp hmem
  have cv : ∀ x, x ∈ ls → x ∈ (mons (pp F) k).map (fun l => l ++ [1]) := fun x hx => by rw [← hls]; exact hx
  obtain ⟨r1, r2, r3, r4⟩ := of_mon_in (F := F) (cv _ hm1)
  refine ⟨(ls.filter q)[e.toNat], G2, ?_, r1.1, (hq _).mp hm2, by omega, j4.mono (by omega)⟩
  have g1 : atI (lls (ls.filter q)) e = some (.list (nums (ls.filter q)[e.toNat])) := by
    rw [atI_at j2 (by rw [lls_len]; exact hlt)]
    unfold lls
    rw [List.getElem?_map, List.getElem?_eq_getElem hlt]; rfl
  have hz : ls.length ≤ 16777215 := by omega
  simp only [d__law_a_prime, runG, startS, u__law_a_prime, List.length_cons, List.length_nil, if_true, List.map_cons, List.map_nil, List.replicate, List.cons_append, List.nil_append, Nat.reduceSub, Nat.reduceAdd, sSeq_s, sSet_s, e2_s, e1_s, eC_s, eCallG_s, eV_s, aCons_s, aNil_s, List.getElem?_cons_zero, List.getElem?_cons_succ, h1, rv_val, dAdd_i, hk, List.set_cons_succ, List.set_cons_zero, sO_s, oLc_s, iL_s, eCall_s, hmon, rv_own, hz, wipe1, wipe0, hc, sRet_s, dLen_l, lls_len, j1, dIx_l, g1, endF_rt]
end
end BR

set_option maxHeartbeats 4000000
namespace W43
open PySem PySem.Spec PyProof.Rows L2 QL DN
def top (i : Nat) : Stmt := PySem.Challenge.pw_modulusfields_k43_whole_residues_turned.main.body.getD i (.Pass ⟨0, 0, 0, 0⟩)
/-- the built-ins' names are free; the module's constants -/
structure Bt (K : PySem.W.Frag) (mg : Str → Option Value) : Prop where
  b_bool : mg "bool" = none
  b_enumerate : mg "enumerate" = none
  b_int : mg "int" = none
  b_isinstance : mg "isinstance" = none
  b_len : mg "len" = none
  b_list : mg "list" = none
  b_max : mg "max" = none
  b_range : mg "range" = none
  b_sum : mg "sum" = none
  g_PRIMES : ∃ a, mg "PRIMES" = some (.ref a) ∧ ∀ H, SqT K H a (([3, 5, 7] : List Int).map V.int)
  g_MOST_POWER : ∃ t, mg "MOST_POWER" = some (.int 60 t)
  g_MOST_MODULUS : ∃ t, mg "MOST_MODULUS" = some (.int 30 t)
section
variable {P : Program} {w : World} {K : PySem.W.Frag} {mg : Str → Option Value} {base : Heap} {f : Addr} {fd : FuncData}
abbrev nm_is_whole : List Str := ["value"]
theorem sc_is_whole : FnScope nm_is_whole ["value"] (defScope (top 8)) := ⟨rfl, rfl, rfl, by decide +kernel, rfl, by decide +kernel, by decide +kernel⟩
theorem c_is_whole (B : Bt K mg)  (F : FunD K "is_whole" "is_whole" (defArgs (top 8)) (defBody (top 8)) (defScope (top 8)) [] [] f fd) (hm : mg "is_whole" = some (.ref f)) : Cal P w K mg base 1 "is_whole" ["value"] (spF K d_is_whole) := by
  have sc := sc_is_whole
  refine ⟨f, fd, hm, F.kp, F.bindsN fun _ _ _ _ _ _ us hl => match us, hl with | [_], _ => rfl, fnF (k := 0) F sc fun cdv A outer s H E hr => ?_⟩
  exact (qs_one (q_ret (q_andV (q_isi (n := "int") rfl B.b_isinstance rfl B.b_int (by decide +kernel) (q_w (q_v (pv 0)))) (q_one (q_notV (q_isi (n := "bool") rfl B.b_isinstance rfl B.b_bool (by decide +kernel) (q_w (q_v (pv 0)))))))))
abbrev nm_is_between : List Str := ["value", "low", "high"]
theorem sc_is_between : FnScope nm_is_between ["value", "low", "high"] (defScope (top 9)) := ⟨rfl, rfl, rfl, by decide +kernel, rfl, by decide +kernel, by decide +kernel⟩
theorem c_is_between (B : Bt K mg) (C_is_whole : Cal P w K mg base 1 "is_whole" ["value"] (spF K d_is_whole)) (F : FunD K "is_between" "is_between" (defArgs (top 9)) (defBody (top 9)) (defScope (top 9)) [] [] f fd) (hm : mg "is_between" = some (.ref f)) : Cal P w K mg base 2 "is_between" ["value", "low", "high"] (spF K d_is_between) := by
  have sc := sc_is_between
  refine ⟨f, fd, hm, F.kp, F.bindsN fun _ _ _ _ _ _ us hl => match us, hl with | [_, _, _], _ => rfl, fnF (k := 1) F sc fun cdv A outer s H E hr => ?_⟩
  exact (qs_one (q_ret (q_andV (c_call C_is_whole (hr.mono (by decide)) rfl (qa_cons (q_v (pv 0)) qa_nil)) (q_andV (q_cmp op_ge b_ge (q_w (q_v (pv 0))) (q_w (q_v (pv 1))) (nomark _)) (q_one (q_orV (q_cmp op_isN b_isN (q_w (q_v (pv 2))) (q_w q_non) (nomark _)) (q_one (q_cmp op_le b_le (q_w (q_v (pv 0))) (q_w (q_v (pv 2))) (nomark _)))))))))
abbrev nm_check_prime : List Str := ["p"]
theorem sc_check_prime : FnScope nm_check_prime ["p"] (defScope (top 10)) := ⟨rfl, rfl, rfl, by decide +kernel, rfl, by decide +kernel, by decide +kernel⟩
theorem c_check_prime (B : Bt K mg) (C_is_whole : Cal P w K mg base 1 "is_whole" ["value"] (spF K d_is_whole)) (F : FunD K "check_prime" "check_prime" (defArgs (top 10)) (defBody (top 10)) (defScope (top 10)) [] [] f fd) (hm : mg "check_prime" = some (.ref f)) : Cal P w K mg base 2 "check_prime" ["p"] (spF K d_check_prime) := by
  have sc := sc_check_prime
  refine ⟨f, fd, hm, F.kp, F.bindsN fun _ _ _ _ _ _ us hl => match us, hl with | [_], _ => rfl, fnF (k := 1) F sc fun cdv A outer s H E hr => ?_⟩
  exact (qs_one (q_ifS (q_pw (q_or (q_not (q_t (c_call C_is_whole (hr.mono (by decide)) rfl (qa_cons (q_v (pv 0)) qa_nil)))) (q_or1 (q_cmpT ((op_notInD (room65 hr)).or (op_notInT (room65 hr))) b_notIn (q_w (q_v (pv 0))) (q_w (q_gtup rfl B.g_PRIMES)) rfl)))) (qs_one q_never) qs_nil))
abbrev nm_is_poly_list : List Str := ["p", "value", "number"]
theorem sc_is_poly_list : FnScope nm_is_poly_list ["p", "value"] (defScope (top 11)) := ⟨rfl, rfl, rfl, by decide +kernel, rfl, by decide +kernel, by decide +kernel⟩
theorem c_is_poly_list (B : Bt K mg) (C_is_between : Cal P w K mg base 2 "is_between" ["value", "low", "high"] (spF K d_is_between)) (F : FunD K "is_poly_list" "is_poly_list" (defArgs (top 11)) (defBody (top 11)) (defScope (top 11)) [] [] f fd) (hm : mg "is_poly_list" = some (.ref f)) : Cal P w K mg base 3 "is_poly_list" ["p", "value"] (spF K d_is_poly_list) := by
  have sc := sc_is_poly_list
  refine ⟨f, fd, hm, F.kp, F.bindsN fun _ _ _ _ _ _ us hl => match us, hl with | [_, _], _ => rfl, fnF (k := 2) F sc fun cdv A outer s H E hr => ?_⟩
  exact (qs_cons (q_ifS (q_pw (q_or (q_not (q_t (q_isi (n := "list") rfl B.b_isinstance rfl B.b_list (by decide +kernel) (q_w (q_v (pv 1)))))) (q_or1 (q_cmpT op_gt b_gt (q_w (q_B call_len_seq u_len rfl B.b_len (by decide +kernel) (q_w (q_v (pv 1))))) (q_w (q_add (q_s (q_gint rfl B.g_MOST_POWER)) (q_s q_int))) (nomark _))))) (qs_one (q_ret q_bl)) qs_nil) (qs_cons (q_ifS (q_cmpT (op_neD (room64 hr)) b_ne (q_w (q_o (q_lc rfl sc.nd (qi_list (q_v (pv 1))) (blkOk_by (N := nm_is_poly_list) (sc := defScope (top 11)) (own := [("number", 2)]) (by decide +kernel)) rfl (blkg_name (by decide)) (fun _ _ _ _ _ => (pg_name (i := 2) sc.nd rfl (.inl rfl))) (fun _ _ _ _ _ => qts_one (q_not (q_t (c_call C_is_between (hr.mono (by decide)) rfl (qa_cons (q_v (pv 2)) (qa_cons q_int (qa_cons (q_sub (q_w (q_v (pv 0))) (q_w q_int)) qa_nil))))))) (fun _ _ _ _ _ => (q_v (pv 2)))))) (q_w (q_o (q_lst qa_nil))) (nomark _)) (qs_one (q_ret q_bl)) qs_nil) (qs_one (q_ret (q_orV (q_cmp (op_eqD (room64 hr)) b_eq (q_w (q_v (pv 1))) (q_w (q_o (q_lst qa_nil))) (nomark _)) (q_one (q_cmp (op_neD (room64 hr)) b_ne (q_w (q_ix (q_w (q_v (pv 1))) (q_w (q_neg q_int)))) (q_w q_int) (nomark _))))))))
abbrev nm_check_poly : List Str := ["p", "value"]
theorem sc_check_poly : FnScope nm_check_poly ["p", "value"] (defScope (top 12)) := ⟨rfl, rfl, rfl, by decide +kernel, rfl, by decide +kernel, by decide +kernel⟩
theorem c_check_poly (B : Bt K mg) (C_is_poly_list : Cal P w K mg base 3 "is_poly_list" ["p", "value"] (spF K d_is_poly_list)) (F : FunD K "check_poly" "check_poly" (defArgs (top 12)) (defBody (top 12)) (defScope (top 12)) [] [] f fd) (hm : mg "check_poly" = some (.ref f)) : Cal P w K mg base 4 "check_poly" ["p", "value"] (spF K d_check_poly) := by
  have sc := sc_check_poly
  refine ⟨f, fd, hm, F.kp, F.bindsN fun _ _ _ _ _ _ us hl => match us, hl with | [_, _], _ => rfl, fnF (k := 3) F sc fun cdv A outer s H E hr => ?_⟩
  exact (qs_one (q_ifS (q_not (q_t (c_call C_is_poly_list (hr.mono (by decide)) rfl (qa_cons (q_v (pv 0)) (qa_cons (q_v (pv 1)) qa_nil))))) (qs_one q_never) qs_nil))
abbrev nm_inverse : List Str := ["p", "number", "low"]
theorem sc_inverse : FnScope nm_inverse ["p", "number"] (defScope (top 13)) := ⟨rfl, rfl, rfl, by decide +kernel, rfl, by decide +kernel, by decide +kernel⟩
theorem c_inverse (B : Bt K mg)  (F : FunD K "inverse" "inverse" (defArgs (top 13)) (defBody (top 13)) (defScope (top 13)) [] [] f fd) (hm : mg "inverse" = some (.ref f)) : Cal P w K mg base 1 "inverse" ["p", "number"] (spF K d_inverse) := by
  have sc := sc_inverse
  refine ⟨f, fd, hm, F.kp, F.bindsN fun _ _ _ _ _ _ us hl => match us, hl with | [_, _], _ => rfl, fnF (k := 0) F sc fun cdv A outer s H E hr => ?_⟩
  exact (qs_one (q_ret (q_ix (q_w (q_o (q_lc rfl sc.nd (qi_r2 rfl B.b_range (qa_cons q_int (qa_cons (q_v (pv 0)) qa_nil))) (blkOk_by (N := nm_inverse) (sc := defScope (top 13)) (own := [("low", 2)]) (by decide +kernel)) rfl (blkg_name (by decide)) (fun _ _ _ _ _ => (pg_name (i := 2) sc.nd rfl (.inl rfl))) (fun _ _ _ _ _ => qts_one (q_cmpT (op_eqD (room64 hr)) b_eq (q_w (q_mod (q_w (q_mul (q_s (q_v (pv 2))) (q_s (q_v (pv 1))))) (q_w (q_v (pv 0))))) (q_w q_int) (nomark _))) (fun _ _ _ _ _ => (q_v (pv 2)))))) (q_w q_int))))
abbrev nm_trimmed : List Str := ["p", "numbers", "found", "number"]
theorem sc_trimmed : FnScope nm_trimmed ["p", "numbers"] (defScope (top 14)) := ⟨rfl, rfl, rfl, by decide +kernel, rfl, by decide +kernel, by decide +kernel⟩
theorem c_trimmed (B : Bt K mg)  (F : FunD K "trimmed" "trimmed" (defArgs (top 14)) (defBody (top 14)) (defScope (top 14)) [] [] f fd) (hm : mg "trimmed" = some (.ref f)) : Cal P w K mg base 1 "trimmed" ["p", "numbers"] (spF K d_trimmed) := by
  have sc := sc_trimmed
  refine ⟨f, fd, hm, F.kp, F.bindsN fun _ _ _ _ _ _ us hl => match us, hl with | [_, _], _ => rfl, fnF (k := 0) F sc fun cdv A outer s H E hr => ?_⟩
  exact (qs_cons (q_setLcO (i := 2) rfl sc.nd rfl rfl (sw_true rfl rfl rfl (by decide +kernel)) (qi_list (q_v (pv 1))) (blkOk_by (N := nm_trimmed) (sc := defScope (top 14)) (own := [("number", 3)]) (by decide +kernel)) rfl (blkg_name (by decide)) (fun _ _ _ _ _ => (pg_name (i := 3) sc.nd rfl (.inl rfl))) (fun _ _ _ _ _ => qts_nil) (fun _ _ _ _ _ => (q_mod (q_w (q_BT call_int1 u_int rfl B.b_int (by decide +kernel) (q_w (q_v (pv 3))))) (q_w (q_v (pv 0)))))) (qs_cons (q_while 1000000 PassesOwn.never (q_pw (q_and (q_cmpT (op_neD (room64 hr)) b_ne (q_ws (q_bv (pv 2))) (q_w (q_o (q_lst qa_nil))) (nomark _)) (q_and1 (q_cmpT (op_eqD (room64 hr)) b_eq (q_w (q_ix (q_ws (q_bv (pv 2))) (q_w (q_neg q_int)))) (q_w q_int) (nomark _))))) (qs_one (q_pop (pv 2)))) (qs_one (q_retV (pv 2)))))
abbrev nm_scaled : List Str := ["p", "one", "number", "item"]
theorem sc_scaled : FnScope nm_scaled ["p", "one", "number"] (defScope (top 15)) := ⟨rfl, rfl, rfl, by decide +kernel, rfl, by decide +kernel, by decide +kernel⟩
theorem c_scaled (B : Bt K mg) (C_trimmed : Cal P w K mg base 1 "trimmed" ["p", "numbers"] (spF K d_trimmed)) (F : FunD K "scaled" "scaled" (defArgs (top 15)) (defBody (top 15)) (defScope (top 15)) [] [] f fd) (hm : mg "scaled" = some (.ref f)) : Cal P w K mg base 2 "scaled" ["p", "one", "number"] (spF K d_scaled) := by
  have sc := sc_scaled
  refine ⟨f, fd, hm, F.kp, F.bindsN fun _ _ _ _ _ _ us hl => match us, hl with | [_, _, _], _ => rfl, fnF (k := 1) F sc fun cdv A outer s H E hr => ?_⟩
  exact (qs_one (q_retO (c_callO C_trimmed (hr.mono (by decide)) rfl (qa_cons (q_v (pv 0)) (qa_cons (q_o (q_lc rfl sc.nd (qi_list (q_v (pv 1))) (blkOk_by (N := nm_scaled) (sc := defScope (top 15)) (own := [("item", 3)]) (by decide +kernel)) rfl (blkg_name (by decide)) (fun _ _ _ _ _ => (pg_name (i := 3) sc.nd rfl (.inl rfl))) (fun _ _ _ _ _ => qts_nil) (fun _ _ _ _ _ => (q_mul (q_s (q_v (pv 3))) (q_s (q_v (pv 2))))))) qa_nil)))))
abbrev nm_parted : List Str := ["p", "one", "other", "at", "rest", "quotient", "back", "number", "place", "item"]
theorem sc_parted : FnScope nm_parted ["p", "one", "other"] (defScope (top 16)) := ⟨rfl, rfl, rfl, by decide +kernel, rfl, by decide +kernel, by decide +kernel⟩
theorem c_parted (B : Bt K mg) (C_inverse : Cal P w K mg base 1 "inverse" ["p", "number"] (spF K d_inverse)) (C_trimmed : Cal P w K mg base 1 "trimmed" ["p", "numbers"] (spF K d_trimmed)) (F : FunD K "parted" "parted" (defArgs (top 16)) (defBody (top 16)) (defScope (top 16)) [] [] f fd) (hm : mg "parted" = some (.ref f)) : Cal P w K mg base 2 "parted" ["p", "one", "other"] (spF K d_parted) := by
  have sc := sc_parted
  refine ⟨f, fd, hm, F.kp, F.bindsN fun _ _ _ _ _ _ us hl => match us, hl with | [_, _, _], _ => rfl, fnF (k := 1) F sc fun cdv A outer s H E hr => ?_⟩
  exact (qs_cons (q_par3 (i := 4) (j := 5) (l := 6) rfl sc.nd rfl rfl rfl (by decide) (by decide) (by decide) rfl rfl rfl (qm_own (q_list rfl B.b_list (q_w (q_v (pv 1)))) (qm_own (q_repO (q_s (q_o (q_lst (qa_cons q_int qa_nil)))) (q_s (q_max rfl rfl B.b_max (qa_cons (q_add (q_s (q_sub (q_w (q_B call_len_seq u_len rfl B.b_len (by decide +kernel) (q_w (q_v (pv 1))))) (q_w (q_B call_len_seq u_len rfl B.b_len (by decide +kernel) (q_w (q_v (pv 2))))))) (q_s q_int)) (qa_cons q_int qa_nil))))) (qm_val (c_call C_inverse (hr.mono (by decide)) rfl (qa_cons (q_v (pv 0)) (qa_cons (q_ix (q_w (q_v (pv 2))) (q_w (q_neg q_int))) qa_nil))) qm_nil))) (by rfl)) (qs_cons (q_for PassesOwn.never rfl (qi_r3 rfl B.b_range (qa_cons (q_sub (q_w (q_B call_len_seq u_len rfl B.b_len (by decide +kernel) (q_w (q_v (pv 1))))) (q_w (q_B call_len_seq u_len rfl B.b_len (by decide +kernel) (q_w (q_v (pv 2)))))) (qa_cons (q_neg q_int) (qa_cons (q_neg q_int) qa_nil)))) (qg_name (i := 3) sc.nd rfl (.inl rfl)) (qs_cons (q_set (i := 7) sc.nd rfl (.inl rfl) (q_mod (q_w (q_mul (q_s (q_ix (q_ws (q_bv (pv 4))) (q_w (q_sub (q_w (q_add (q_s (q_v (pv 3))) (q_s (q_B call_len_seq u_len rfl B.b_len (by decide +kernel) (q_w (q_v (pv 2))))))) (q_w q_int))))) (q_s (q_v (pv 6))))) (q_w (q_v (pv 0))))) (qs_cons (q_setIx (pv 5) (q_v (pv 3)) (q_v (pv 7))) (qs_one (q_for PassesOwn.never rfl (qi_enum rfl B.b_enumerate (qa_cons (q_v (pv 2)) qa_nil)) (qg_tup rfl (qgs_cons (qg_name (i := 8) sc.nd rfl (.inl rfl)) (qgs_cons (qg_name (i := 9) sc.nd rfl (.inl rfl)) qgs_nil))) (qs_one (q_setIx (pv 4) (q_add (q_s (q_v (pv 3))) (q_s (q_v (pv 8)))) (q_mod (q_w (q_sub (q_w (q_ix (q_ws (q_bv (pv 4))) (q_w (q_add (q_s (q_v (pv 3))) (q_s (q_v (pv 8))))))) (q_w (q_mul (q_s (q_v (pv 7))) (q_s (q_v (pv 9))))))) (q_w (q_v (pv 0))))))))))) (qs_one (q_frz 5 (q_frz 4 (q_ret (q_tup (qa_cons (c_call C_trimmed (hr.mono (by decide)) rfl (qa_cons (q_v (pv 0)) (qa_cons (q_v (pv 5)) qa_nil))) (qa_cons (c_call C_trimmed (hr.mono (by decide)) rfl (qa_cons (q_v (pv 0)) (qa_cons (q_v (pv 4)) qa_nil))) qa_nil)))))))))
abbrev nm_rest_of : List Str := ["p", "one", "other"]
theorem sc_rest_of : FnScope nm_rest_of ["p", "one", "other"] (defScope (top 17)) := ⟨rfl, rfl, rfl, by decide +kernel, rfl, by decide +kernel, by decide +kernel⟩
theorem c_rest_of (B : Bt K mg) (C_parted : Cal P w K mg base 2 "parted" ["p", "one", "other"] (spF K d_parted)) (F : FunD K "rest_of" "rest_of" (defArgs (top 17)) (defBody (top 17)) (defScope (top 17)) [] [] f fd) (hm : mg "rest_of" = some (.ref f)) : Cal P w K mg base 3 "rest_of" ["p", "one", "other"] (spF K d_rest_of) := by
  have sc := sc_rest_of
  refine ⟨f, fd, hm, F.kp, F.bindsN fun _ _ _ _ _ _ us hl => match us, hl with | [_, _, _], _ => rfl, fnF (k := 2) F sc fun cdv A outer s H E hr => ?_⟩
  exact (qs_one (q_ret (q_ix (q_w (c_call C_parted (hr.mono (by decide)) rfl (qa_cons (q_v (pv 0)) (qa_cons (q_v (pv 1)) (qa_cons (q_v (pv 2)) qa_nil))))) (q_w q_int))))
abbrev nm_raised_whole : List Str := ["base", "count", "found", "_"]
theorem sc_raised_whole : FnScope nm_raised_whole ["base", "count"] (defScope (top 19)) := ⟨rfl, rfl, rfl, by decide +kernel, rfl, by decide +kernel, by decide +kernel⟩
theorem c_raised_whole (B : Bt K mg)  (F : FunD K "raised_whole" "raised_whole" (defArgs (top 19)) (defBody (top 19)) (defScope (top 19)) [] [] f fd) (hm : mg "raised_whole" = some (.ref f)) : Cal P w K mg base 1 "raised_whole" ["base", "count"] (spF K d_raised_whole) := by
  have sc := sc_raised_whole
  refine ⟨f, fd, hm, F.kp, F.bindsN fun _ _ _ _ _ _ us hl => match us, hl with | [_, _], _ => rfl, fnF (k := 0) F sc fun cdv A outer s H E hr => ?_⟩
  exact (qs_cons (q_set (i := 2) sc.nd rfl (.inl rfl) q_int) (qs_cons (q_for PassesOwn.never rfl (qi_r1 rfl B.b_range (qa_cons (q_v (pv 1)) qa_nil)) (qg_name (i := 3) sc.nd rfl (.inl rfl)) (qs_one (q_set (i := 2) sc.nd rfl (.inl rfl) (q_mul (q_s (q_v (pv 2))) (q_s (q_v (pv 0))))))) (qs_one (q_ret (q_v (pv 2))))))
abbrev nm_check_great_modulus : List Str := ["p", "modulus"]
theorem sc_check_great_modulus : FnScope nm_check_great_modulus ["p", "modulus"] (defScope (top 22)) := ⟨rfl, rfl, rfl, by decide +kernel, rfl, by decide +kernel, by decide +kernel⟩
theorem c_check_great_modulus (B : Bt K mg) (C_is_poly_list : Cal P w K mg base 3 "is_poly_list" ["p", "value"] (spF K d_is_poly_list)) (F : FunD K "check_great_modulus" "check_great_modulus" (defArgs (top 22)) (defBody (top 22)) (defScope (top 22)) [] [] f fd) (hm : mg "check_great_modulus" = some (.ref f)) : Cal P w K mg base 4 "check_great_modulus" ["p", "modulus"] (spF K d_check_great_modulus) := by
  have sc := sc_check_great_modulus
  refine ⟨f, fd, hm, F.kp, F.bindsN fun _ _ _ _ _ _ us hl => match us, hl with | [_, _], _ => rfl, fnF (k := 3) F sc fun cdv A outer s H E hr => ?_⟩
  exact (qs_one (q_ifS (q_pw (q_or (q_not (q_t (c_call C_is_poly_list (hr.mono (by decide)) rfl (qa_cons (q_v (pv 0)) (qa_cons (q_v (pv 1)) qa_nil))))) (q_or (q_cmpT op_lt b_lt (q_w (q_B call_len_seq u_len rfl B.b_len (by decide +kernel) (q_w (q_v (pv 1))))) (q_w q_int) (nomark _)) (q_or (q_cmpT op_gt b_gt (q_w (q_B call_len_seq u_len rfl B.b_len (by decide +kernel) (q_w (q_v (pv 1))))) (q_w (q_add (q_s (q_gint rfl B.g_MOST_MODULUS)) (q_s q_int))) (nomark _)) (q_or1 (q_cmpT (op_neD (room64 hr)) b_ne (q_w (q_ix (q_w (q_v (pv 1))) (q_w (q_neg q_int)))) (q_w q_int) (nomark _))))))) (qs_one q_never) qs_nil))
abbrev nm_number_to : List Str := ["p", "number", "count"]
theorem sc_number_to : FnScope nm_number_to ["p", "number", "count"] (defScope (top 23)) := ⟨rfl, rfl, rfl, by decide +kernel, rfl, by decide +kernel, by decide +kernel⟩
theorem c_number_to (B : Bt K mg) (C_raised_whole : Cal P w K mg base 1 "raised_whole" ["base", "count"] (spF K d_raised_whole)) (F : FunD K "number_to" "number_to" (defArgs (top 23)) (defBody (top 23)) (defScope (top 23)) [] [] f fd) (hm : mg "number_to" = some (.ref f)) : Cal P w K mg base 2 "number_to" ["p", "number", "count"] (spF K d_number_to) := by
  have sc := sc_number_to
  refine ⟨f, fd, hm, F.kp, F.bindsN fun _ _ _ _ _ _ us hl => match us, hl with | [_, _, _], _ => rfl, fnF (k := 1) F sc fun cdv A outer s H E hr => ?_⟩
  exact (qs_one (q_ret (q_mod (q_w (c_call C_raised_whole (hr.mono (by decide)) rfl (qa_cons (q_v (pv 1)) (qa_cons (q_mod (q_w (q_v (pv 2))) (q_w (q_sub (q_w (q_v (pv 0))) (q_w q_int)))) qa_nil)))) (q_w (q_v (pv 0))))))
abbrev nm_stepped : List Str := ["p", "word", "here", "odd", "modulus", "polynomial", "number", "lead"]
theorem sc_stepped : FnScope nm_stepped ["p", "word", "here"] (defScope (top 24)) := ⟨rfl, rfl, rfl, by decide +kernel, rfl, by decide +kernel, by decide +kernel⟩
theorem c_stepped (B : Bt K mg) (C_rest_of : Cal P w K mg base 3 "rest_of" ["p", "one", "other"] (spF K d_rest_of)) (C_number_to : Cal P w K mg base 2 "number_to" ["p", "number", "count"] (spF K d_number_to)) (C_scaled : Cal P w K mg base 2 "scaled" ["p", "one", "number"] (spF K d_scaled)) (C_inverse : Cal P w K mg base 1 "inverse" ["p", "number"] (spF K d_inverse)) (F : FunD K "stepped" "stepped" (defArgs (top 24)) (defBody (top 24)) (defScope (top 24)) [] [] f fd) (hm : mg "stepped" = some (.ref f)) : Cal P w K mg base 4 "stepped" ["p", "word", "here"] (spF K d_stepped) := by
  have sc := sc_stepped
  refine ⟨f, fd, hm, F.kp, F.bindsN fun _ _ _ _ _ _ us hl => match us, hl with | [_, _, _], _ => rfl, fnF (k := 3) F sc fun cdv A outer s H E hr => ?_⟩
  exact (qs_cons (q_asg (q_v (pv 2)) (qg_tup rfl (qgs_cons (qg_name (i := 4) sc.nd rfl (.inl rfl)) (qgs_cons (qg_name (i := 5) sc.nd rfl (.inl rfl)) (qgs_cons (qg_name (i := 6) sc.nd rfl (.inl rfl)) qgs_nil))))) (qs_cons (q_ifS (q_cmpT (op_eqD (room64 hr)) b_eq (q_w (q_v (pv 1))) (q_w q_str) (nomark _)) (qs_one (q_ret (q_tup (qa_cons (q_v (pv 4)) (qa_cons (c_call C_rest_of (hr.mono (by decide)) rfl (qa_cons (q_v (pv 0)) (qa_cons (q_v (pv 5)) (qa_cons (q_v (pv 4)) qa_nil)))) (qa_cons (q_v (pv 6)) qa_nil)))))) qs_nil) (qs_cons (q_ifS (q_cmpT (op_eqD (room64 hr)) b_eq (q_w (q_v (pv 5))) (q_w (q_o (q_lst qa_nil))) (nomark _)) (qs_one (q_ret q_non)) qs_nil) (qs_cons (q_ifS (q_cmpT (op_eqD (room64 hr)) b_eq (q_w (q_v (pv 1))) (q_w q_str) (nomark _)) (qs_cons (q_set (i := 7) sc.nd rfl (.inl rfl) (q_ix (q_w (q_v (pv 5))) (q_w (q_neg q_int)))) (qs_one (q_ret (q_tup (qa_cons (q_v (pv 4)) (qa_cons (c_call C_scaled (hr.mono (by decide)) rfl (qa_cons (q_v (pv 0)) (qa_cons (q_v (pv 5)) (qa_cons (c_call C_inverse (hr.mono (by decide)) rfl (qa_cons (q_v (pv 0)) (qa_cons (q_v (pv 7)) qa_nil))) qa_nil)))) (qa_cons (q_mod (q_w (q_mul (q_s (q_v (pv 6))) (q_s (c_call C_number_to (hr.mono (by decide)) rfl (qa_cons (q_v (pv 0)) (qa_cons (q_v (pv 7)) (qa_cons (q_sub (q_w (q_B call_len_seq u_len rfl B.b_len (by decide +kernel) (q_w (q_v (pv 4))))) (q_w q_int)) qa_nil))))))) (q_w (q_v (pv 0)))) qa_nil))))))) qs_nil) (qs_cons (q_ifS (q_pw (q_or (q_cmpT (op_neD (room64 hr)) b_ne (q_w (q_v (pv 1))) (q_w q_str) (nomark _)) (q_or (q_cmpT (op_neD (room64 hr)) b_ne (q_w (q_ix (q_w (q_v (pv 5))) (q_w (q_neg q_int)))) (q_w q_int) (nomark _)) (q_or1 (q_cmpT op_lt b_lt (q_w (q_B call_len_seq u_len rfl B.b_len (by decide +kernel) (q_w (q_v (pv 5))))) (q_w q_int) (nomark _)))))) (qs_one (q_ret q_non)) qs_nil) (qs_cons (q_set (i := 3) sc.nd rfl (.inl rfl) (q_cmp (op_eqD (room64 hr)) b_eq (q_w (q_mod (q_w (q_mul (q_s (q_sub (q_w (q_B call_len_seq u_len rfl B.b_len (by decide +kernel) (q_w (q_v (pv 4))))) (q_w q_int))) (q_s (q_sub (q_w (q_B call_len_seq u_len rfl B.b_len (by decide +kernel) (q_w (q_v (pv 5))))) (q_w q_int))))) (q_w q_int))) (q_w q_int) (nomark _))) (qs_one (q_ret (q_tup (qa_cons (q_v (pv 5)) (qa_cons (q_v (pv 4)) (qa_cons (q_if (q_t (q_v (pv 3))) (q_mod (q_w (q_sub (q_w (q_v (pv 0))) (q_w (q_v (pv 6))))) (q_w (q_v (pv 0)))) (q_v (pv 6))) qa_nil))))))))))))
abbrev nm_word_for : List Str := ["here", "modulus", "polynomial", "_"]
theorem sc_word_for : FnScope nm_word_for ["here"] (defScope (top 25)) := ⟨rfl, rfl, rfl, by decide +kernel, rfl, by decide +kernel, by decide +kernel⟩
theorem c_word_for (B : Bt K mg)  (F : FunD K "word_for" "word_for" (defArgs (top 25)) (defBody (top 25)) (defScope (top 25)) [] [] f fd) (hm : mg "word_for" = some (.ref f)) : Cal P w K mg base 1 "word_for" ["here"] (spF K d_word_for) := by
  have sc := sc_word_for
  refine ⟨f, fd, hm, F.kp, F.bindsN fun _ _ _ _ _ _ us hl => match us, hl with | [_], _ => rfl, fnF (k := 0) F sc fun cdv A outer s H E hr => ?_⟩
  exact (qs_cons (q_asg (q_v (pv 0)) (qg_tup rfl (qgs_cons (qg_name (i := 1) sc.nd rfl (.inl rfl)) (qgs_cons (qg_name (i := 2) sc.nd rfl (.inl rfl)) (qgs_cons (qg_name (i := 3) sc.nd rfl (.inl rfl)) qgs_nil))))) (qs_cons (q_ifS (q_cmpT op_ge b_ge (q_w (q_B call_len_seq u_len rfl B.b_len (by decide +kernel) (q_w (q_v (pv 2))))) (q_w (q_B call_len_seq u_len rfl B.b_len (by decide +kernel) (q_w (q_v (pv 1))))) (nomark _)) (qs_one (q_ret q_str)) qs_nil) (qs_one (q_ret (q_if (q_cmpT (op_neD (room64 hr)) b_ne (q_w (q_ix (q_w (q_v (pv 2))) (q_w (q_neg q_int)))) (q_w q_int) (nomark _)) q_str q_str)))))
abbrev nm_walk_of : List Str := ["p", "modulus", "polynomial", "here", "found", "word"]
theorem sc_walk_of : FnScope nm_walk_of ["p", "modulus", "polynomial"] (defScope (top 26)) := ⟨rfl, rfl, rfl, by decide +kernel, rfl, by decide +kernel, by decide +kernel⟩
theorem c_walk_of (B : Bt K mg) (C_word_for : Cal P w K mg base 1 "word_for" ["here"] (spF K d_word_for)) (C_stepped : Cal P w K mg base 4 "stepped" ["p", "word", "here"] (spF K d_stepped)) (F : FunD K "walk_of" "walk_of" (defArgs (top 26)) (defBody (top 26)) (defScope (top 26)) [] [] f fd) (hm : mg "walk_of" = some (.ref f)) : Cal P w K mg base 5 "walk_of" ["p", "modulus", "polynomial"] (spF K d_walk_of) := by
  have sc := sc_walk_of
  refine ⟨f, fd, hm, F.kp, F.bindsN fun _ _ _ _ _ _ us hl => match us, hl with | [_, _, _], _ => rfl, fnF (k := 4) F sc fun cdv A outer s H E hr => ?_⟩
  exact (qs_cons (q_par (i := 3) (j := 4) rfl sc.nd rfl rfl (by decide) rfl rfl (qm_val (q_tup (qa_cons (q_o (q_list rfl B.b_list (q_w (q_v (pv 1))))) (qa_cons (q_o (q_list rfl B.b_list (q_w (q_v (pv 2))))) (qa_cons q_int qa_nil)))) (qm_own (q_lst qa_nil) qm_nil)) (by rfl)) (qs_cons (q_while 1000000 PassesOwn.never (q_cmpT ((op_notInD (room65 hr)).or (op_notInT (room65 hr))) b_notIn (q_w (q_ix (q_w (q_v (pv 3))) (q_w q_int))) (q_w (q_tup (qa_cons (q_o (q_lst qa_nil)) (qa_cons (q_o (q_lst (qa_cons q_int qa_nil))) qa_nil)))) rfl) (qs_cons (q_set (i := 5) sc.nd rfl (.inl rfl) (c_call C_word_for (hr.mono (by decide)) rfl (qa_cons (q_v (pv 3)) qa_nil))) (qs_cons (q_set (i := 3) sc.nd rfl (.inl rfl) (c_call C_stepped (hr.mono (by decide)) rfl (qa_cons (q_v (pv 0)) (qa_cons (q_v (pv 5)) (qa_cons (q_v (pv 3)) qa_nil))))) (qs_one (q_app (pe_bm PySem.F.plainAttrs_list PySem.F.slot_list_append PySem.F.type_list_append mt_append (pv 4) (pa_cons (q_tup (qa_cons (q_v (pv 5)) (qa_cons (q_o (q_list rfl B.b_list (q_w (q_ix (q_w (q_v (pv 3))) (q_w q_int))))) (qa_cons (q_o (q_list rfl B.b_list (q_w (q_ix (q_w (q_v (pv 3))) (q_w q_int))))) (qa_cons (q_ix (q_w (q_v (pv 3))) (q_w q_int)) qa_nil))))) pa_nil))))))) (qs_one (q_retV (pv 4)))))
abbrev nm_residue_of : List Str := ["p", "modulus", "polynomial", "found", "last"]
theorem sc_residue_of : FnScope nm_residue_of ["p", "modulus", "polynomial"] (defScope (top 27)) := ⟨rfl, rfl, rfl, by decide +kernel, rfl, by decide +kernel, by decide +kernel⟩
theorem c_residue_of (B : Bt K mg) (C_walk_of : Cal P w K mg base 5 "walk_of" ["p", "modulus", "polynomial"] (spF K d_walk_of)) (F : FunD K "residue_of" "residue_of" (defArgs (top 27)) (defBody (top 27)) (defScope (top 27)) [] [] f fd) (hm : mg "residue_of" = some (.ref f)) : Cal P w K mg base 6 "residue_of" ["p", "modulus", "polynomial"] (spF K d_residue_of) := by
  have sc := sc_residue_of
  refine ⟨f, fd, hm, F.kp, F.bindsN fun _ _ _ _ _ _ us hl => match us, hl with | [_, _, _], _ => rfl, fnF (k := 5) F sc fun cdv A outer s H E hr => ?_⟩
  exact (qs_cons (q_set (i := 3) sc.nd rfl (.inl rfl) (c_call C_walk_of (hr.mono (by decide)) rfl (qa_cons (q_v (pv 0)) (qa_cons (q_v (pv 1)) (qa_cons (q_v (pv 2)) qa_nil))))) (qs_cons (q_set (i := 4) sc.nd rfl (.inl rfl) (q_if (q_cmpT (op_neD (room64 hr)) b_ne (q_w (q_v (pv 3))) (q_w (q_o (q_lst qa_nil))) (nomark _)) (q_slT (q_w (q_ix (q_w (q_v (pv 3))) (q_w (q_neg q_int)))) (q_pso q_int) q_pno) (q_tup (qa_cons (q_v (pv 2)) (qa_cons q_int qa_nil))))) (qs_one (q_ret (q_if (q_cmpT (op_eqD (room64 hr)) b_eq (q_w (q_ix (q_w (q_v (pv 4))) (q_w q_int))) (q_w (q_o (q_lst (qa_cons q_int qa_nil)))) (nomark _)) (q_ix (q_w (q_v (pv 4))) (q_w q_int)) q_int)))))
abbrev nm_residue : List Str := ["p", "modulus", "polynomial"]
theorem sc_residue : FnScope nm_residue ["p", "modulus", "polynomial"] (defScope (top 28)) := ⟨rfl, rfl, rfl, by decide +kernel, rfl, by decide +kernel, by decide +kernel⟩
theorem c_residue (B : Bt K mg) (C_check_prime : Cal P w K mg base 2 "check_prime" ["p"] (spF K d_check_prime)) (C_check_great_modulus : Cal P w K mg base 4 "check_great_modulus" ["p", "modulus"] (spF K d_check_great_modulus)) (C_check_poly : Cal P w K mg base 4 "check_poly" ["p", "value"] (spF K d_check_poly)) (C_residue_of : Cal P w K mg base 6 "residue_of" ["p", "modulus", "polynomial"] (spF K d_residue_of)) (F : FunD K "residue" "residue" (defArgs (top 28)) (defBody (top 28)) (defScope (top 28)) [] [] f fd) (hm : mg "residue" = some (.ref f)) : Cal P w K mg base 7 "residue" ["p", "modulus", "polynomial"] (spF K d_residue) := by
  have sc := sc_residue
  refine ⟨f, fd, hm, F.kp, F.bindsN fun _ _ _ _ _ _ us hl => match us, hl with | [_, _, _], _ => rfl, fnF (k := 6) F sc fun cdv A outer s H E hr => ?_⟩
  exact (qs_cons (q_drop (c_call C_check_prime (hr.mono (by decide)) rfl (qa_cons (q_v (pv 0)) qa_nil))) (qs_cons (q_drop (c_call C_check_great_modulus (hr.mono (by decide)) rfl (qa_cons (q_v (pv 0)) (qa_cons (q_v (pv 1)) qa_nil)))) (qs_cons (q_drop (c_call C_check_poly (hr.mono (by decide)) rfl (qa_cons (q_v (pv 0)) (qa_cons (q_v (pv 2)) qa_nil)))) (qs_one (q_ret (c_call C_residue_of (hr.mono (by decide)) rfl (qa_cons (q_v (pv 0)) (qa_cons (q_v (pv 1)) (qa_cons (q_v (pv 2)) qa_nil)))))))))
abbrev nm__law_hash : List Str := ["_law_seed", "_law_index", "_law_mixed"]
theorem sc__law_hash : FnScope nm__law_hash ["_law_seed", "_law_index"] (defScope (top 30)) := ⟨rfl, rfl, rfl, by decide +kernel, rfl, by decide +kernel, by decide +kernel⟩
theorem c__law_hash (B : Bt K mg)  (F : FunD K "_law_hash" "_law_hash" (defArgs (top 30)) (defBody (top 30)) (defScope (top 30)) [] [] f fd) (hm : mg "_law_hash" = some (.ref f)) : Cal P w K mg base 1 "_law_hash" ["_law_seed", "_law_index"] (spF K d__law_hash) := by
  have sc := sc__law_hash
  refine ⟨f, fd, hm, F.kp, F.bindsN fun _ _ _ _ _ _ us hl => match us, hl with | [_, _], _ => rfl, fnF (k := 0) F sc fun cdv A outer s H E hr => ?_⟩
  exact (qs_cons (q_set (i := 2) sc.nd rfl (.inl rfl) (q_mod (q_w (q_BT call_int1 u_int rfl B.b_int (by decide +kernel) (q_w (q_add (q_s (q_add (q_s (q_add (q_s (q_mul (q_s (q_v (pv 0))) (q_s q_int))) (q_s (q_mul (q_s (q_mul (q_s q_int) (q_s (q_v (pv 1))))) (q_s (q_v (pv 1))))))) (q_s (q_mul (q_s q_int) (q_s (q_v (pv 1))))))) (q_s q_int))))) (q_w q_int))) (qs_cons (q_set (i := 2) sc.nd rfl (.inl rfl) (q_mod (q_w (q_BT call_int1 u_int rfl B.b_int (by decide +kernel) (q_w (q_add (q_s (q_add (q_s (q_mul (q_s (q_v (pv 2))) (q_s (q_v (pv 2))))) (q_s (q_mul (q_s q_int) (q_s (q_v (pv 1))))))) (q_s q_int))))) (q_w q_int))) (qs_one (q_ret (q_mod (q_w (q_BT call_int1 u_int rfl B.b_int (by decide +kernel) (q_w (q_mul (q_s (q_v (pv 2))) (q_s q_int))))) (q_w q_int))))))
abbrev nm__law_random : List Str := ["_law_generator_here", "_law_bound", "_law_drawn", "_law_turn"]
theorem sc__law_random : FnScope nm__law_random ["_law_generator_here", "_law_bound"] (defScope (top 31)) := ⟨rfl, rfl, rfl, by decide +kernel, rfl, by decide +kernel, by decide +kernel⟩
theorem c__law_random (B : Bt K mg) (C__law_hash : Cal P w K mg base 1 "_law_hash" ["_law_seed", "_law_index"] (spF K d__law_hash)) (F : FunD K "_law_random" "_law_random" (defArgs (top 31)) (defBody (top 31)) (defScope (top 31)) [] [] f fd) (hm : mg "_law_random" = some (.ref f)) : Cal P w K mg base 2 "_law_random" ["_law_generator_here", "_law_bound"] (spG K d__law_random) := by
  have sc := sc__law_random
  refine ⟨f, fd, hm, F.kp, F.bindsN fun _ _ _ _ _ _ us hl => match us, hl with | [_, _], _ => rfl, fnG (k := 1) F sc fun cdv A outer s H E hr => ?_⟩
  exact (qs_cons (q_ifS (q_cmpT op_gt b_gt (q_w (q_gIx (pv 0) q_int)) (q_w q_int) (nomark _)) (qs_cons (q_set (i := 2) sc.nd rfl (.inl rfl) (q_mod (q_w (q_BT call_int1 u_int rfl B.b_int (by decide +kernel) (q_w (q_gIx (pv 0) q_int)))) (q_w (q_v (pv 1))))) (qs_cons (q_setG (pv 0) q_int (q_fdiv (q_w (q_gIx (pv 0) q_int)) (q_w (q_v (pv 1))))) (qs_one (q_ret (q_v (pv 2)))))) qs_nil) (qs_cons (q_set (i := 2) sc.nd rfl (.inl rfl) q_int) (qs_cons (q_for PassesOwn.never rfl (qi_r1 rfl B.b_range (qa_cons (q_add (q_s q_int) (q_s (q_fdiv (q_w (q_bits (q_v (pv 1)))) (q_w q_int)))) qa_nil)) (qg_name (i := 3) sc.nd rfl (.inl rfl)) (qs_cons (q_setG (pv 0) q_int (q_add (q_s (q_gIx (pv 0) q_int)) (q_s q_int))) (qs_one (q_set (i := 2) sc.nd rfl (.inl rfl) (q_add (q_s (q_mul (q_s (q_v (pv 2))) (q_s q_int))) (q_s (c_call C__law_hash (hr.mono (by decide)) rfl (qa_cons (q_gIx (pv 0) q_int) (qa_cons (q_gIx (pv 0) q_int) qa_nil))))))))) (qs_one (q_ret (q_mod (q_w (q_BT call_int1 u_int rfl B.b_int (by decide +kernel) (q_w (q_v (pv 2))))) (q_w (q_v (pv 1)))))))))
abbrev nm__law_cell : List Str := ["_law_script", "_law_index"]
theorem sc__law_cell : FnScope nm__law_cell ["_law_script", "_law_index"] (defScope (top 32)) := ⟨rfl, rfl, rfl, by decide +kernel, rfl, by decide +kernel, by decide +kernel⟩
theorem c__law_cell (B : Bt K mg)  (F : FunD K "_law_cell" "_law_cell" (defArgs (top 32)) (defBody (top 32)) (defScope (top 32)) [] [] f fd) (hm : mg "_law_cell" = some (.ref f)) : Cal P w K mg base 1 "_law_cell" ["_law_script", "_law_index"] (spS K d__law_cell) := by
  have sc := sc__law_cell
  refine ⟨f, fd, hm, F.kp, F.bindsN fun _ _ _ _ _ _ us hl => match us, hl with | [_, _], _ => rfl, fnS (k := 0) F sc fun cdv A outer s H E hr => ?_⟩
  exact (qs_cons (q_ifS (q_cmpT op_lt b_lt (q_w (q_v (pv 1))) (q_w (q_B call_len_seq u_len rfl B.b_len (by decide +kernel) (q_wv (pv 0)))) (nomark _)) (qs_one (q_ret (q_ix (q_wv (pv 0)) (q_w (q_v (pv 1)))))) qs_nil) (qs_one (q_ret (q_mod (q_w (q_B (cr_sum rfl) u_sum rfl B.b_sum (by decide +kernel) (q_w (q_o (q_sl (q_wv (pv 0)) q_pno (q_pso q_int)))))) (q_w q_int)))))
abbrev nm__law_generator : List Str := ["_law_script", "_law_index", "_law_seed"]
theorem sc__law_generator : FnScope nm__law_generator ["_law_script", "_law_index"] (defScope (top 33)) := ⟨rfl, rfl, rfl, by decide +kernel, rfl, by decide +kernel, by decide +kernel⟩
theorem c__law_generator (B : Bt K mg) (C__law_cell : Cal P w K mg base 1 "_law_cell" ["_law_script", "_law_index"] (spS K d__law_cell)) (F : FunD K "_law_generator" "_law_generator" (defArgs (top 33)) (defBody (top 33)) (defScope (top 33)) [] [] f fd) (hm : mg "_law_generator" = some (.ref f)) : Cal P w K mg base 2 "_law_generator" ["_law_script", "_law_index"] (spS K d__law_generator) := by
  have sc := sc__law_generator
  refine ⟨f, fd, hm, F.kp, F.bindsN fun _ _ _ _ _ _ us hl => match us, hl with | [_, _], _ => rfl, fnS (k := 1) F sc fun cdv A outer s H E hr => ?_⟩
  exact (qs_cons (q_set (i := 2) sc.nd rfl (.inl rfl) (c_callS C__law_cell (hr.mono (by decide)) rfl (qa_scr (pv 0) (qa_cons (q_v (pv 1)) qa_nil)))) (qs_one (q_retO (q_lst (qa_cons (q_mod (q_w (q_BT call_int1 u_int rfl B.b_int (by decide +kernel) (q_w (q_max rfl rfl B.b_max (qa_cons (q_sub (q_w (q_v (pv 2))) (q_w (q_bin op_powW b_powW (q_w q_int) (q_w q_int)))) (qa_cons q_int qa_nil)))))) (q_w (q_bin op_powW b_powW (q_w (q_bin op_powW b_powW (q_w q_int) (q_w q_int))) (q_w q_int)))) (qa_cons (q_mod (q_w (q_BT call_int1 u_int rfl B.b_int (by decide +kernel) (q_w (q_v (pv 2))))) (q_w q_int)) (qa_cons (q_mul (q_s q_int) (q_s (q_v (pv 1)))) qa_nil)))))))
abbrev nm__law_trim : List Str := ["_law_p", "_law_numbers", "_law_found", "_law_number"]
theorem sc__law_trim : FnScope nm__law_trim ["_law_p", "_law_numbers"] (defScope (top 34)) := ⟨rfl, rfl, rfl, by decide +kernel, rfl, by decide +kernel, by decide +kernel⟩
theorem c__law_trim (B : Bt K mg)  (F : FunD K "_law_trim" "_law_trim" (defArgs (top 34)) (defBody (top 34)) (defScope (top 34)) [] [] f fd) (hm : mg "_law_trim" = some (.ref f)) : Cal P w K mg base 1 "_law_trim" ["_law_p", "_law_numbers"] (spF K d__law_trim) := by
  have sc := sc__law_trim
  refine ⟨f, fd, hm, F.kp, F.bindsN fun _ _ _ _ _ _ us hl => match us, hl with | [_, _], _ => rfl, fnF (k := 0) F sc fun cdv A outer s H E hr => ?_⟩
  exact (qs_cons (q_setLcO (i := 2) rfl sc.nd rfl rfl (sw_true rfl rfl rfl (by decide +kernel)) (qi_list (q_v (pv 1))) (blkOk_by (N := nm__law_trim) (sc := defScope (top 34)) (own := [("_law_number", 3)]) (by decide +kernel)) rfl (blkg_name (by decide)) (fun _ _ _ _ _ => (pg_name (i := 3) sc.nd rfl (.inl rfl))) (fun _ _ _ _ _ => qts_nil) (fun _ _ _ _ _ => (q_mod (q_w (q_BT call_int1 u_int rfl B.b_int (by decide +kernel) (q_w (q_v (pv 3))))) (q_w (q_v (pv 0)))))) (qs_cons (q_while 1000000 PassesOwn.never (q_pw (q_and (q_cmpT (op_neD (room64 hr)) b_ne (q_ws (q_bv (pv 2))) (q_w (q_o (q_lst qa_nil))) (nomark _)) (q_and1 (q_cmpT (op_eqD (room64 hr)) b_eq (q_w (q_ix (q_ws (q_bv (pv 2))) (q_w (q_neg q_int)))) (q_w q_int) (nomark _))))) (qs_one (q_pop (pv 2)))) (qs_one (q_retV (pv 2)))))
abbrev nm__law_plus : List Str := ["_law_p", "_law_one", "_law_other", "_law_factor", "_law_size", "_law_low", "_law_high", "_law_at"]
theorem sc__law_plus : FnScope nm__law_plus ["_law_p", "_law_one", "_law_other", "_law_factor"] (defScope (top 35)) := ⟨rfl, rfl, rfl, by decide +kernel, rfl, by decide +kernel, by decide +kernel⟩
theorem c__law_plus (B : Bt K mg) (C__law_trim : Cal P w K mg base 1 "_law_trim" ["_law_p", "_law_numbers"] (spF K d__law_trim)) (F : FunD K "_law_plus" "_law_plus" (defArgs (top 35)) (defBody (top 35)) (defScope (top 35)) [] [] f fd) (hm : mg "_law_plus" = some (.ref f)) : Cal P w K mg base 2 "_law_plus" ["_law_p", "_law_one", "_law_other", "_law_factor"] (spF K d__law_plus) := by
  have sc := sc__law_plus
  refine ⟨f, fd, hm, F.kp, F.bindsN fun _ _ _ _ _ _ us hl => match us, hl with | [_, _, _, _], _ => rfl, fnF (k := 1) F sc fun cdv A outer s H E hr => ?_⟩
  exact (qs_cons (q_set (i := 4) sc.nd rfl (.inl rfl) (q_max rfl rfl B.b_max (qa_cons (q_B call_len_seq u_len rfl B.b_len (by decide +kernel) (q_w (q_v (pv 1)))) (qa_cons (q_B call_len_seq u_len rfl B.b_len (by decide +kernel) (q_w (q_v (pv 2)))) qa_nil)))) (qs_cons (q_asg (q_tup (qa_cons (q_add (q_s (q_v (pv 1))) (q_s (q_mul (q_s (q_o (q_lst (qa_cons q_int qa_nil)))) (q_s (q_sub (q_w (q_v (pv 4))) (q_w (q_B call_len_seq u_len rfl B.b_len (by decide +kernel) (q_w (q_v (pv 1)))))))))) (qa_cons (q_add (q_s (q_v (pv 2))) (q_s (q_mul (q_s (q_o (q_lst (qa_cons q_int qa_nil)))) (q_s (q_sub (q_w (q_v (pv 4))) (q_w (q_B call_len_seq u_len rfl B.b_len (by decide +kernel) (q_w (q_v (pv 2)))))))))) qa_nil))) (qg_tup rfl (qgs_cons (qg_name (i := 5) sc.nd rfl (.inr rfl)) (qgs_cons (qg_name (i := 6) sc.nd rfl (.inr rfl)) qgs_nil)))) (qs_one (q_retO (c_callO C__law_trim (hr.mono (by decide)) rfl (qa_cons (q_v (pv 0)) (qa_cons (q_o (q_lc rfl sc.nd (qi_r1 rfl B.b_range (qa_cons (q_v (pv 4)) qa_nil)) (blkOk_by (N := nm__law_plus) (sc := defScope (top 35)) (own := [("_law_at", 7)]) (by decide +kernel)) rfl (blkg_name (by decide)) (fun _ _ _ _ _ => (pg_name (i := 7) sc.nd rfl (.inl rfl))) (fun _ _ _ _ _ => qts_nil) (fun _ _ _ _ _ => (q_add (q_s (q_ix (q_w (q_v (pv 5))) (q_w (q_v (pv 7))))) (q_s (q_mul (q_s (q_v (pv 3))) (q_s (q_ix (q_w (q_v (pv 6))) (q_w (q_v (pv 7))))))))))) qa_nil)))))))
abbrev nm__law_times : List Str := ["_law_p", "_law_one", "_law_other", "_law_found", "_law_at", "_law_low", "_law_place", "_law_high"]
theorem sc__law_times : FnScope nm__law_times ["_law_p", "_law_one", "_law_other"] (defScope (top 36)) := ⟨rfl, rfl, rfl, by decide +kernel, rfl, by decide +kernel, by decide +kernel⟩
theorem c__law_times (B : Bt K mg) (C__law_trim : Cal P w K mg base 1 "_law_trim" ["_law_p", "_law_numbers"] (spF K d__law_trim)) (F : FunD K "_law_times" "_law_times" (defArgs (top 36)) (defBody (top 36)) (defScope (top 36)) [] [] f fd) (hm : mg "_law_times" = some (.ref f)) : Cal P w K mg base 2 "_law_times" ["_law_p", "_law_one", "_law_other"] (spF K d__law_times) := by
  have sc := sc__law_times
  refine ⟨f, fd, hm, F.kp, F.bindsN fun _ _ _ _ _ _ us hl => match us, hl with | [_, _, _], _ => rfl, fnF (k := 1) F sc fun cdv A outer s H E hr => ?_⟩
  exact (qs_cons (q_setO (i := 3) sc.nd rfl (.inl rfl) (q_repO (q_s (q_o (q_lst (qa_cons q_int qa_nil)))) (q_s (q_add (q_s (q_B call_len_seq u_len rfl B.b_len (by decide +kernel) (q_w (q_v (pv 1))))) (q_s (q_B call_len_seq u_len rfl B.b_len (by decide +kernel) (q_w (q_v (pv 2))))))))) (qs_cons (q_for PassesOwn.never rfl (qi_enum rfl B.b_enumerate (qa_cons (q_v (pv 1)) qa_nil)) (qg_tup rfl (qgs_cons (qg_name (i := 4) sc.nd rfl (.inl rfl)) (qgs_cons (qg_name (i := 5) sc.nd rfl (.inl rfl)) qgs_nil))) (qs_one (q_for PassesOwn.never rfl (qi_enum rfl B.b_enumerate (qa_cons (q_v (pv 2)) qa_nil)) (qg_tup rfl (qgs_cons (qg_name (i := 6) sc.nd rfl (.inl rfl)) (qgs_cons (qg_name (i := 7) sc.nd rfl (.inl rfl)) qgs_nil))) (qs_one (q_setIx (pv 3) (q_add (q_s (q_v (pv 4))) (q_s (q_v (pv 6)))) (q_add (q_s (q_ix (q_ws (q_bv (pv 3))) (q_w (q_add (q_s (q_v (pv 4))) (q_s (q_v (pv 6))))))) (q_s (q_mul (q_s (q_v (pv 5))) (q_s (q_v (pv 7))))))))))) (qs_one (q_frz 3 (q_retO (c_callO C__law_trim (hr.mono (by decide)) rfl (qa_cons (q_v (pv 0)) (qa_cons (q_v (pv 3)) qa_nil))))))))
abbrev nm__law_back : List Str := ["_law_p", "_law_number", "_law_low"]
theorem sc__law_back : FnScope nm__law_back ["_law_p", "_law_number"] (defScope (top 37)) := ⟨rfl, rfl, rfl, by decide +kernel, rfl, by decide +kernel, by decide +kernel⟩
theorem c__law_back (B : Bt K mg)  (F : FunD K "_law_back" "_law_back" (defArgs (top 37)) (defBody (top 37)) (defScope (top 37)) [] [] f fd) (hm : mg "_law_back" = some (.ref f)) : Cal P w K mg base 1 "_law_back" ["_law_p", "_law_number"] (spF K d__law_back) := by
  have sc := sc__law_back
  refine ⟨f, fd, hm, F.kp, F.bindsN fun _ _ _ _ _ _ us hl => match us, hl with | [_, _], _ => rfl, fnF (k := 0) F sc fun cdv A outer s H E hr => ?_⟩
  exact (qs_one (q_ret (q_ix (q_w (q_o (q_lc rfl sc.nd (qi_r1 rfl B.b_range (qa_cons (q_v (pv 0)) qa_nil)) (blkOk_by (N := nm__law_back) (sc := defScope (top 37)) (own := [("_law_low", 2)]) (by decide +kernel)) rfl (blkg_name (by decide)) (fun _ _ _ _ _ => (pg_name (i := 2) sc.nd rfl (.inl rfl))) (fun _ _ _ _ _ => qts_one (q_cmpT (op_eqD (room64 hr)) b_eq (q_w (q_mod (q_w (q_BT call_int1 u_int rfl B.b_int (by decide +kernel) (q_w (q_mul (q_s (q_v (pv 2))) (q_s (q_v (pv 1))))))) (q_w (q_v (pv 0))))) (q_w q_int) (nomark _))) (fun _ _ _ _ _ => (q_v (pv 2)))))) (q_w q_int))))
abbrev nm__law_parted : List Str := ["_law_p", "_law_one", "_law_other", "_law_rest_here", "_law_quotient", "_law_back_here", "_law_term"]
theorem sc__law_parted : FnScope nm__law_parted ["_law_p", "_law_one", "_law_other"] (defScope (top 38)) := ⟨rfl, rfl, rfl, by decide +kernel, rfl, by decide +kernel, by decide +kernel⟩
theorem c__law_parted (B : Bt K mg) (C__law_back : Cal P w K mg base 1 "_law_back" ["_law_p", "_law_number"] (spF K d__law_back)) (C__law_plus : Cal P w K mg base 2 "_law_plus" ["_law_p", "_law_one", "_law_other", "_law_factor"] (spF K d__law_plus)) (C__law_times : Cal P w K mg base 2 "_law_times" ["_law_p", "_law_one", "_law_other"] (spF K d__law_times)) (F : FunD K "_law_parted" "_law_parted" (defArgs (top 38)) (defBody (top 38)) (defScope (top 38)) [] [] f fd) (hm : mg "_law_parted" = some (.ref f)) : Cal P w K mg base 3 "_law_parted" ["_law_p", "_law_one", "_law_other"] (spF K d__law_parted) := by
  have sc := sc__law_parted
  refine ⟨f, fd, hm, F.kp, F.bindsN fun _ _ _ _ _ _ us hl => match us, hl with | [_, _, _], _ => rfl, fnF (k := 2) F sc fun cdv A outer s H E hr => ?_⟩
  exact (qs_cons (q_par3 (i := 3) (j := 4) (l := 5) rfl sc.nd rfl rfl rfl (by decide) (by decide) (by decide) rfl rfl rfl (qm_val (q_o (q_list rfl B.b_list (q_w (q_v (pv 1))))) (qm_val (q_o (q_lst qa_nil)) (qm_val (c_call C__law_back (hr.mono (by decide)) rfl (qa_cons (q_v (pv 0)) (qa_cons (q_ix (q_w (q_v (pv 2))) (q_w (q_neg q_int))) qa_nil))) qm_nil))) (by rfl)) (qs_cons (q_while 1000000 PassesOwn.never (q_cmpT op_ge b_ge (q_w (q_B call_len_seq u_len rfl B.b_len (by decide +kernel) (q_w (q_v (pv 3))))) (q_w (q_B call_len_seq u_len rfl B.b_len (by decide +kernel) (q_w (q_v (pv 2))))) (nomark _)) (qs_cons (q_set (i := 6) sc.nd rfl (.inl rfl) (q_add (q_s (q_mul (q_s (q_o (q_lst (qa_cons q_int qa_nil)))) (q_s (q_sub (q_w (q_B call_len_seq u_len rfl B.b_len (by decide +kernel) (q_w (q_v (pv 3))))) (q_w (q_B call_len_seq u_len rfl B.b_len (by decide +kernel) (q_w (q_v (pv 2))))))))) (q_s (q_o (q_lst (qa_cons (q_mod (q_w (q_BT call_int1 u_int rfl B.b_int (by decide +kernel) (q_w (q_mul (q_s (q_ix (q_w (q_v (pv 3))) (q_w (q_neg q_int)))) (q_s (q_v (pv 5))))))) (q_w (q_v (pv 0)))) qa_nil)))))) (qs_cons (q_set (i := 4) sc.nd rfl (.inl rfl) (c_call C__law_plus (hr.mono (by decide)) rfl (qa_cons (q_v (pv 0)) (qa_cons (q_v (pv 4)) (qa_cons (q_v (pv 6)) (qa_cons q_int qa_nil)))))) (qs_one (q_set (i := 3) sc.nd rfl (.inl rfl) (c_call C__law_plus (hr.mono (by decide)) rfl (qa_cons (q_v (pv 0)) (qa_cons (q_v (pv 3)) (qa_cons (c_call C__law_times (hr.mono (by decide)) rfl (qa_cons (q_v (pv 0)) (qa_cons (q_v (pv 6)) (qa_cons (q_v (pv 2)) qa_nil)))) (qa_cons (q_neg q_int) qa_nil)))))))))) (qs_one (q_ret (q_tup (qa_cons (q_v (pv 4)) (qa_cons (q_v (pv 3)) qa_nil)))))))
abbrev nm__law_rest : List Str := ["_law_p", "_law_one", "_law_other"]
theorem sc__law_rest : FnScope nm__law_rest ["_law_p", "_law_one", "_law_other"] (defScope (top 39)) := ⟨rfl, rfl, rfl, by decide +kernel, rfl, by decide +kernel, by decide +kernel⟩
theorem c__law_rest (B : Bt K mg) (C__law_parted : Cal P w K mg base 3 "_law_parted" ["_law_p", "_law_one", "_law_other"] (spF K d__law_parted)) (F : FunD K "_law_rest" "_law_rest" (defArgs (top 39)) (defBody (top 39)) (defScope (top 39)) [] [] f fd) (hm : mg "_law_rest" = some (.ref f)) : Cal P w K mg base 4 "_law_rest" ["_law_p", "_law_one", "_law_other"] (spF K d__law_rest) := by
  have sc := sc__law_rest
  refine ⟨f, fd, hm, F.kp, F.bindsN fun _ _ _ _ _ _ us hl => match us, hl with | [_, _, _], _ => rfl, fnF (k := 3) F sc fun cdv A outer s H E hr => ?_⟩
  exact (qs_one (q_ret (q_ix (q_w (c_call C__law_parted (hr.mono (by decide)) rfl (qa_cons (q_v (pv 0)) (qa_cons (q_v (pv 1)) (qa_cons (q_v (pv 2)) qa_nil))))) (q_w q_int))))
abbrev nm__law_monics : List Str := ["_law_p", "_law_power", "_law_found", "_law_turn", "_law_longer", "_law_one", "_law_number"]
theorem sc__law_monics : FnScope nm__law_monics ["_law_p", "_law_power"] (defScope (top 40)) := ⟨rfl, rfl, rfl, by decide +kernel, rfl, by decide +kernel, by decide +kernel⟩
theorem c__law_monics (B : Bt K mg)  (F : FunD K "_law_monics" "_law_monics" (defArgs (top 40)) (defBody (top 40)) (defScope (top 40)) [] [] f fd) (hm : mg "_law_monics" = some (.ref f)) : Cal P w K mg base 1 "_law_monics" ["_law_p", "_law_power"] (spF K d__law_monics) := by
  have sc := sc__law_monics
  refine ⟨f, fd, hm, F.kp, F.bindsN fun _ _ _ _ _ _ us hl => match us, hl with | [_, _], _ => rfl, fnF (k := 0) F sc fun cdv A outer s H E hr => ?_⟩
  exact (qs_cons (q_set (i := 2) sc.nd rfl (.inl rfl) (q_o (q_lst (qa_cons (q_o (q_lst qa_nil)) qa_nil)))) (qs_cons (q_for PassesOwn.never rfl (qi_r1 rfl B.b_range (qa_cons (q_v (pv 1)) qa_nil)) (qg_name (i := 3) sc.nd rfl (.inl rfl)) (qs_cons (q_set (i := 4) sc.nd rfl (.inl rfl) (q_o (q_lst qa_nil))) (qs_cons (q_for PassesOwn.never rfl (qi_list (q_v (pv 2))) (qg_name (i := 5) sc.nd rfl (.inr rfl)) (qs_one (q_set (i := 4) sc.nd rfl (.inl rfl) (q_add (q_s (q_v (pv 4))) (q_s (q_o (q_lc rfl sc.nd (qi_r1 rfl B.b_range (qa_cons (q_v (pv 0)) qa_nil)) (blkOk_by (N := nm__law_monics) (sc := defScope (top 40)) (own := [("_law_number", 6)]) (by decide +kernel)) rfl (blkg_name (by decide)) (fun _ _ _ _ _ => (pg_name (i := 6) sc.nd rfl (.inl rfl))) (fun _ _ _ _ _ => qts_nil) (fun _ _ _ _ _ => (q_add (q_s (q_v (pv 5))) (q_s (q_o (q_lst (qa_cons (q_v (pv 6)) qa_nil))))))))))))) (qs_one (q_set (i := 2) sc.nd rfl (.inl rfl) (q_v (pv 4))))))) (qs_one (q_retO (q_lc rfl sc.nd (qi_list (q_v (pv 2))) (blkOk_by (N := nm__law_monics) (sc := defScope (top 40)) (own := [("_law_one", 5)]) (by decide +kernel)) rfl (blkg_name (by decide)) (fun _ _ _ _ _ => (pg_name (i := 5) sc.nd rfl (.inl rfl))) (fun _ _ _ _ _ => qts_nil) (fun _ _ _ _ _ => (q_add (q_s (q_v (pv 5))) (q_s (q_o (q_lst (qa_cons q_int qa_nil)))))))))))
abbrev nm__law_is_prime : List Str := ["_law_p", "_law_one", "_law_power", "_law_other"]
theorem sc__law_is_prime : FnScope nm__law_is_prime ["_law_p", "_law_one"] (defScope (top 41)) := ⟨rfl, rfl, rfl, by decide +kernel, rfl, by decide +kernel, by decide +kernel⟩
theorem c__law_is_prime (B : Bt K mg) (C__law_monics : Cal P w K mg base 1 "_law_monics" ["_law_p", "_law_power"] (spF K d__law_monics)) (C__law_rest : Cal P w K mg base 4 "_law_rest" ["_law_p", "_law_one", "_law_other"] (spF K d__law_rest)) (F : FunD K "_law_is_prime" "_law_is_prime" (defArgs (top 41)) (defBody (top 41)) (defScope (top 41)) [] [] f fd) (hm : mg "_law_is_prime" = some (.ref f)) : Cal P w K mg base 5 "_law_is_prime" ["_law_p", "_law_one"] (spF K d__law_is_prime) := by
  have sc := sc__law_is_prime
  refine ⟨f, fd, hm, F.kp, F.bindsN fun _ _ _ _ _ _ us hl => match us, hl with | [_, _], _ => rfl, fnF (k := 4) F sc fun cdv A outer s H E hr => ?_⟩
  exact (qs_cons (q_ifS (q_pw (q_or (q_cmpT op_lt b_lt (q_w (q_B call_len_seq u_len rfl B.b_len (by decide +kernel) (q_w (q_v (pv 1))))) (q_w q_int) (nomark _)) (q_or1 (q_cmpT (op_neD (room64 hr)) b_ne (q_w (q_ix (q_w (q_v (pv 1))) (q_w (q_neg q_int)))) (q_w q_int) (nomark _))))) (qs_one (q_ret q_bl)) qs_nil) (qs_cons (q_for PassesOwn.never rfl (qi_r2 rfl B.b_range (qa_cons q_int (qa_cons (q_add (q_s (q_fdiv (q_w (q_sub (q_w (q_B call_len_seq u_len rfl B.b_len (by decide +kernel) (q_w (q_v (pv 1))))) (q_w q_int))) (q_w q_int))) (q_s q_int)) qa_nil))) (qg_name (i := 2) sc.nd rfl (.inl rfl)) (qs_one (q_for PassesOwn.never rfl (qi_list (c_call C__law_monics (hr.mono (by decide)) rfl (qa_cons (q_v (pv 0)) (qa_cons (q_v (pv 2)) qa_nil)))) (qg_name (i := 3) sc.nd rfl (.inl rfl)) (qs_one (q_ifS (q_cmpT (op_eqD (room64 hr)) b_eq (q_w (c_call C__law_rest (hr.mono (by decide)) rfl (qa_cons (q_v (pv 0)) (qa_cons (q_v (pv 1)) (qa_cons (q_v (pv 3)) qa_nil))))) (q_w (q_o (q_lst qa_nil))) (nomark _)) (qs_one (q_ret q_bl)) qs_nil))))) (qs_one (q_ret q_bl))))
abbrev nm__law_prime_number : List Str := ["_law_generator_here"]
theorem sc__law_prime_number : FnScope nm__law_prime_number ["_law_generator_here"] (defScope (top 42)) := ⟨rfl, rfl, rfl, by decide +kernel, rfl, by decide +kernel, by decide +kernel⟩
theorem c__law_prime_number (B : Bt K mg) (C__law_random : Cal P w K mg base 2 "_law_random" ["_law_generator_here", "_law_bound"] (spG K d__law_random)) (F : FunD K "_law_prime_number" "_law_prime_number" (defArgs (top 42)) (defBody (top 42)) (defScope (top 42)) [] [] f fd) (hm : mg "_law_prime_number" = some (.ref f)) : Cal P w K mg base 3 "_law_prime_number" ["_law_generator_here"] (spG K d__law_prime_number) := by
  have sc := sc__law_prime_number
  refine ⟨f, fd, hm, F.kp, F.bindsN fun _ _ _ _ _ _ us hl => match us, hl with | [_], _ => rfl, fnG (k := 2) F sc fun cdv A outer s H E hr => ?_⟩
  exact (qs_one (q_ret (q_ix (q_w (q_o (q_lst (qa_cons q_int (qa_cons q_int (qa_cons q_int qa_nil)))))) (q_w (c_callG C__law_random (hr.mono (by decide)) rfl (qa_gen (pv 0) (qa_cons q_int qa_nil)))))))
abbrev nm__law_monic : List Str := ["_law_generator_here", "_law_p", "_law_most", "_law_turn"]
theorem sc__law_monic : FnScope nm__law_monic ["_law_generator_here", "_law_p", "_law_most"] (defScope (top 43)) := ⟨rfl, rfl, rfl, by decide +kernel, rfl, by decide +kernel, by decide +kernel⟩
theorem c__law_monic (B : Bt K mg) (C__law_random : Cal P w K mg base 2 "_law_random" ["_law_generator_here", "_law_bound"] (spG K d__law_random)) (F : FunD K "_law_monic" "_law_monic" (defArgs (top 43)) (defBody (top 43)) (defScope (top 43)) [] [] f fd) (hm : mg "_law_monic" = some (.ref f)) : Cal P w K mg base 3 "_law_monic" ["_law_generator_here", "_law_p", "_law_most"] (spG K d__law_monic) := by
  have sc := sc__law_monic
  refine ⟨f, fd, hm, F.kp, F.bindsN fun _ _ _ _ _ _ us hl => match us, hl with | [_, _, _], _ => rfl, fnG (k := 2) F sc fun cdv A outer s H E hr => ?_⟩
  exact (qs_one (q_ret (q_add (q_s (q_o (q_lc rfl sc.nd (qi_r1 rfl B.b_range (qa_cons (q_add (q_s q_int) (q_s (c_callG C__law_random (hr.mono (by decide)) rfl (qa_gen (pv 0) (qa_cons (q_v (pv 2)) qa_nil))))) qa_nil)) (blkOk_by (N := nm__law_monic) (sc := defScope (top 43)) (own := [("_law_turn", 3)]) (by decide +kernel)) rfl (blkg_name (by decide)) (fun _ _ _ _ _ => (pg_name (i := 3) sc.nd rfl (.inl rfl))) (fun _ _ _ _ _ => qts_nil) (fun _ _ _ _ _ => (c_callG C__law_random (hr.mono (by decide)) rfl (qa_gen (pv 0) (qa_cons (q_v (pv 1)) qa_nil))))))) (q_s (q_o (q_lst (qa_cons q_int qa_nil)))))))
abbrev nm__law_raised : List Str := ["_law_p", "_law_one", "_law_count", "_law_q", "_law_found", "_law_base", "_law_left"]
theorem sc__law_raised : FnScope nm__law_raised ["_law_p", "_law_one", "_law_count", "_law_q"] (defScope (top 44)) := ⟨rfl, rfl, rfl, by decide +kernel, rfl, by decide +kernel, by decide +kernel⟩
theorem c__law_raised (B : Bt K mg) (C__law_rest : Cal P w K mg base 4 "_law_rest" ["_law_p", "_law_one", "_law_other"] (spF K d__law_rest)) (C__law_times : Cal P w K mg base 2 "_law_times" ["_law_p", "_law_one", "_law_other"] (spF K d__law_times)) (F : FunD K "_law_raised" "_law_raised" (defArgs (top 44)) (defBody (top 44)) (defScope (top 44)) [] [] f fd) (hm : mg "_law_raised" = some (.ref f)) : Cal P w K mg base 5 "_law_raised" ["_law_p", "_law_one", "_law_count", "_law_q"] (spF K d__law_raised) := by
  have sc := sc__law_raised
  refine ⟨f, fd, hm, F.kp, F.bindsN fun _ _ _ _ _ _ us hl => match us, hl with | [_, _, _, _], _ => rfl, fnF (k := 4) F sc fun cdv A outer s H E hr => ?_⟩
  exact (qs_cons (q_par3 (i := 4) (j := 5) (l := 6) rfl sc.nd rfl rfl rfl (by decide) (by decide) (by decide) rfl rfl rfl (qm_val (c_call C__law_rest (hr.mono (by decide)) rfl (qa_cons (q_v (pv 0)) (qa_cons (q_o (q_lst (qa_cons q_int qa_nil))) (qa_cons (q_v (pv 3)) qa_nil)))) (qm_val (c_call C__law_rest (hr.mono (by decide)) rfl (qa_cons (q_v (pv 0)) (qa_cons (q_v (pv 1)) (qa_cons (q_v (pv 3)) qa_nil)))) (qm_val (q_v (pv 2)) qm_nil))) (by rfl)) (qs_cons (q_while 1000000 PassesOwn.never (q_cmpT op_gt b_gt (q_w (q_v (pv 6))) (q_w q_int) (nomark _)) (qs_cons (q_ifS (q_cmpT (op_eqD (room64 hr)) b_eq (q_w (q_mod (q_w (q_BT call_int1 u_int rfl B.b_int (by decide +kernel) (q_w (q_v (pv 6))))) (q_w q_int))) (q_w q_int) (nomark _)) (qs_one (q_set (i := 4) sc.nd rfl (.inl rfl) (c_call C__law_rest (hr.mono (by decide)) rfl (qa_cons (q_v (pv 0)) (qa_cons (c_call C__law_times (hr.mono (by decide)) rfl (qa_cons (q_v (pv 0)) (qa_cons (q_v (pv 4)) (qa_cons (q_v (pv 5)) qa_nil)))) (qa_cons (q_v (pv 3)) qa_nil)))))) qs_nil) (qs_one (q_par (i := 5) (j := 6) rfl sc.nd rfl rfl (by decide) rfl rfl (qm_val (c_call C__law_rest (hr.mono (by decide)) rfl (qa_cons (q_v (pv 0)) (qa_cons (c_call C__law_times (hr.mono (by decide)) rfl (qa_cons (q_v (pv 0)) (qa_cons (q_v (pv 5)) (qa_cons (q_v (pv 5)) qa_nil)))) (qa_cons (q_v (pv 3)) qa_nil)))) (qm_val (q_fdiv (q_w (q_BT call_int1 u_int rfl B.b_int (by decide +kernel) (q_w (q_v (pv 6))))) (q_w q_int)) qm_nil)) (by rfl))))) (qs_one (q_ret (q_v (pv 4))))))
abbrev nm__law_whole : List Str := ["_law_p", "_law_power", "_law_found", "_law_turn"]
theorem sc__law_whole : FnScope nm__law_whole ["_law_p", "_law_power"] (defScope (top 45)) := ⟨rfl, rfl, rfl, by decide +kernel, rfl, by decide +kernel, by decide +kernel⟩
theorem c__law_whole (B : Bt K mg)  (F : FunD K "_law_whole" "_law_whole" (defArgs (top 45)) (defBody (top 45)) (defScope (top 45)) [] [] f fd) (hm : mg "_law_whole" = some (.ref f)) : Cal P w K mg base 1 "_law_whole" ["_law_p", "_law_power"] (spF K d__law_whole) := by
  have sc := sc__law_whole
  refine ⟨f, fd, hm, F.kp, F.bindsN fun _ _ _ _ _ _ us hl => match us, hl with | [_, _], _ => rfl, fnF (k := 0) F sc fun cdv A outer s H E hr => ?_⟩
  exact (qs_cons (q_set (i := 2) sc.nd rfl (.inl rfl) q_int) (qs_cons (q_for PassesOwn.never rfl (qi_r1 rfl B.b_range (qa_cons (q_v (pv 1)) qa_nil)) (qg_name (i := 3) sc.nd rfl (.inl rfl)) (qs_one (q_set (i := 2) sc.nd rfl (.inl rfl) (q_mul (q_s (q_v (pv 2))) (q_s (q_v (pv 0))))))) (qs_one (q_ret (q_v (pv 2))))))
abbrev nm__law_a_prime : List Str := ["_law_generator_here", "_law_p", "_law_most", "_law_power", "_law_listed", "_law_one"]
theorem sc__law_a_prime : FnScope nm__law_a_prime ["_law_generator_here", "_law_p", "_law_most"] (defScope (top 46)) := ⟨rfl, rfl, rfl, by decide +kernel, rfl, by decide +kernel, by decide +kernel⟩
theorem c__law_a_prime (B : Bt K mg) (C__law_random : Cal P w K mg base 2 "_law_random" ["_law_generator_here", "_law_bound"] (spG K d__law_random)) (C__law_monics : Cal P w K mg base 1 "_law_monics" ["_law_p", "_law_power"] (spF K d__law_monics)) (C__law_is_prime : Cal P w K mg base 5 "_law_is_prime" ["_law_p", "_law_one"] (spF K d__law_is_prime)) (F : FunD K "_law_a_prime" "_law_a_prime" (defArgs (top 46)) (defBody (top 46)) (defScope (top 46)) [] [] f fd) (hm : mg "_law_a_prime" = some (.ref f)) : Cal P w K mg base 6 "_law_a_prime" ["_law_generator_here", "_law_p", "_law_most"] (spG K d__law_a_prime) := by
  have sc := sc__law_a_prime
  refine ⟨f, fd, hm, F.kp, F.bindsN fun _ _ _ _ _ _ us hl => match us, hl with | [_, _, _], _ => rfl, fnG (k := 5) F sc fun cdv A outer s H E hr => ?_⟩
  exact (qs_cons (q_set (i := 3) sc.nd rfl (.inl rfl) (q_add (q_s q_int) (q_s (c_callG C__law_random (hr.mono (by decide)) rfl (qa_gen (pv 0) (qa_cons (q_v (pv 2)) qa_nil)))))) (qs_cons (q_setLc (i := 4) rfl sc.nd rfl rfl (sw_true rfl rfl rfl (by decide +kernel)) (qi_list (c_call C__law_monics (hr.mono (by decide)) rfl (qa_cons (q_v (pv 1)) (qa_cons (q_v (pv 3)) qa_nil)))) (blkOk_by (N := nm__law_a_prime) (sc := defScope (top 46)) (own := [("_law_one", 5)]) (by decide +kernel)) rfl (blkg_name (by decide)) (fun _ _ _ _ _ => (pg_name (i := 5) sc.nd rfl (.inl rfl))) (fun _ _ _ _ _ => qts_one (q_t (c_call C__law_is_prime (hr.mono (by decide)) rfl (qa_cons (q_v (pv 1)) (qa_cons (q_v (pv 5)) qa_nil))))) (fun _ _ _ _ _ => (q_v (pv 5)))) (qs_one (q_ret (q_ix (q_w (q_v (pv 4))) (q_w (c_callG C__law_random (hr.mono (by decide)) rfl (qa_gen (pv 0) (qa_cons (q_B call_len_seq u_len rfl B.b_len (by decide +kernel) (q_w (q_v (pv 4)))) qa_nil)))))))))
abbrev nm__law_residue : List Str := ["_law_p", "_law_prime", "_law_one", "_law_found"]
theorem sc__law_residue : FnScope nm__law_residue ["_law_p", "_law_prime", "_law_one"] (defScope (top 47)) := ⟨rfl, rfl, rfl, by decide +kernel, rfl, by decide +kernel, by decide +kernel⟩
theorem c__law_residue (B : Bt K mg) (C__law_raised : Cal P w K mg base 5 "_law_raised" ["_law_p", "_law_one", "_law_count", "_law_q"] (spF K d__law_raised)) (C__law_whole : Cal P w K mg base 1 "_law_whole" ["_law_p", "_law_power"] (spF K d__law_whole)) (F : FunD K "_law_residue" "_law_residue" (defArgs (top 47)) (defBody (top 47)) (defScope (top 47)) [] [] f fd) (hm : mg "_law_residue" = some (.ref f)) : Cal P w K mg base 6 "_law_residue" ["_law_p", "_law_prime", "_law_one"] (spF K d__law_residue) := by
  have sc := sc__law_residue
  refine ⟨f, fd, hm, F.kp, F.bindsN fun _ _ _ _ _ _ us hl => match us, hl with | [_, _, _], _ => rfl, fnF (k := 5) F sc fun cdv A outer s H E hr => ?_⟩
  exact (qs_cons (q_set (i := 3) sc.nd rfl (.inl rfl) (c_call C__law_raised (hr.mono (by decide)) rfl (qa_cons (q_v (pv 0)) (qa_cons (q_v (pv 2)) (qa_cons (q_fdiv (q_w (q_sub (q_w (c_call C__law_whole (hr.mono (by decide)) rfl (qa_cons (q_v (pv 0)) (qa_cons (q_sub (q_w (q_B call_len_seq u_len rfl B.b_len (by decide +kernel) (q_w (q_v (pv 1))))) (q_w q_int)) qa_nil)))) (q_w q_int))) (q_w (q_sub (q_w (q_v (pv 0))) (q_w q_int)))) (qa_cons (q_v (pv 1)) qa_nil)))))) (qs_one (q_ret (q_if (q_cmpT (op_neD (room64 hr)) b_ne (q_w (q_v (pv 3))) (q_w (q_o (q_lst qa_nil))) (nomark _)) (q_ix (q_w (q_v (pv 3))) (q_w q_int)) q_int))))
abbrev nm__law_residue_by : List Str := ["_law_p", "_law_primes", "_law_one", "_law_found", "_law_prime"]
theorem sc__law_residue_by : FnScope nm__law_residue_by ["_law_p", "_law_primes", "_law_one"] (defScope (top 48)) := ⟨rfl, rfl, rfl, by decide +kernel, rfl, by decide +kernel, by decide +kernel⟩
theorem c__law_residue_by (B : Bt K mg) (C__law_residue : Cal P w K mg base 6 "_law_residue" ["_law_p", "_law_prime", "_law_one"] (spF K d__law_residue)) (F : FunD K "_law_residue_by" "_law_residue_by" (defArgs (top 48)) (defBody (top 48)) (defScope (top 48)) [] [] f fd) (hm : mg "_law_residue_by" = some (.ref f)) : Cal P w K mg base 7 "_law_residue_by" ["_law_p", "_law_primes", "_law_one"] (spF K d__law_residue_by) := by
  have sc := sc__law_residue_by
  refine ⟨f, fd, hm, F.kp, F.bindsN fun _ _ _ _ _ _ us hl => match us, hl with | [_, _, _], _ => rfl, fnF (k := 6) F sc fun cdv A outer s H E hr => ?_⟩
  exact (qs_cons (q_set (i := 3) sc.nd rfl (.inl rfl) q_int) (qs_cons (q_for PassesOwn.never rfl (qi_list (q_v (pv 1))) (qg_name (i := 4) sc.nd rfl (.inl rfl)) (qs_one (q_set (i := 3) sc.nd rfl (.inl rfl) (q_mod (q_w (q_BT call_int1 u_int rfl B.b_int (by decide +kernel) (q_w (q_mul (q_s (q_v (pv 3))) (q_s (c_call C__law_residue (hr.mono (by decide)) rfl (qa_cons (q_v (pv 0)) (qa_cons (q_v (pv 4)) (qa_cons (q_v (pv 2)) qa_nil))))))))) (q_w (q_v (pv 0))))))) (qs_one (q_ret (q_v (pv 3))))))
abbrev nm__law_walked : List Str := ["_law_p", "_law_modulus", "_law_polynomial", "_law_turn", "_law_low", "_law_high", "_law_number", "_law_odd"]
theorem sc__law_walked : FnScope nm__law_walked ["_law_p", "_law_modulus", "_law_polynomial"] (defScope (top 49)) := ⟨rfl, rfl, rfl, by decide +kernel, rfl, by decide +kernel, by decide +kernel⟩
theorem c__law_walked (B : Bt K mg) (C__law_rest : Cal P w K mg base 4 "_law_rest" ["_law_p", "_law_one", "_law_other"] (spF K d__law_rest)) (C__law_whole : Cal P w K mg base 1 "_law_whole" ["_law_p", "_law_power"] (spF K d__law_whole)) (C__law_times : Cal P w K mg base 2 "_law_times" ["_law_p", "_law_one", "_law_other"] (spF K d__law_times)) (C__law_back : Cal P w K mg base 1 "_law_back" ["_law_p", "_law_number"] (spF K d__law_back)) (F : FunD K "_law_walked" "_law_walked" (defArgs (top 49)) (defBody (top 49)) (defScope (top 49)) [] [] f fd) (hm : mg "_law_walked" = some (.ref f)) : Cal P w K mg base 5 "_law_walked" ["_law_p", "_law_modulus", "_law_polynomial"] (spF K d__law_walked) := by
  have sc := sc__law_walked
  refine ⟨f, fd, hm, F.kp, F.bindsN fun _ _ _ _ _ _ us hl => match us, hl with | [_, _, _], _ => rfl, fnF (k := 4) F sc fun cdv A outer s H E hr => ?_⟩
  exact (qs_cons (q_par3 (i := 4) (j := 5) (l := 6) rfl sc.nd rfl rfl rfl (by decide) (by decide) (by decide) rfl rfl rfl (qm_val (q_v (pv 1)) (qm_val (c_call C__law_rest (hr.mono (by decide)) rfl (qa_cons (q_v (pv 0)) (qa_cons (q_v (pv 2)) (qa_cons (q_v (pv 1)) qa_nil)))) (qm_val q_int qm_nil))) (by rfl)) (qs_cons (q_for PassesOwn.never rfl (qi_r1 rfl B.b_range (qa_cons (q_add (q_s (q_B call_len_seq u_len rfl B.b_len (by decide +kernel) (q_w (q_v (pv 1))))) (q_s (q_B call_len_seq u_len rfl B.b_len (by decide +kernel) (q_w (q_v (pv 2)))))) qa_nil)) (qg_name (i := 3) sc.nd rfl (.inl rfl)) (qs_cons (q_ifS (q_cmpT (op_neD (room64 hr)) b_ne (q_w (q_v (pv 5))) (q_w (q_o (q_lst qa_nil))) (nomark _)) (qs_cons (q_set (i := 6) sc.nd rfl (.inl rfl) (q_mod (q_w (q_BT call_int1 u_int rfl B.b_int (by decide +kernel) (q_w (q_mul (q_s (q_v (pv 6))) (q_s (c_call C__law_whole (hr.mono (by decide)) rfl (qa_cons (q_ix (q_w (q_v (pv 5))) (q_w (q_neg q_int))) (qa_cons (q_sub (q_w (q_B call_len_seq u_len rfl B.b_len (by decide +kernel) (q_w (q_v (pv 4))))) (q_w q_int)) qa_nil)))))))) (q_w (q_v (pv 0))))) (qs_one (q_set (i := 5) sc.nd rfl (.inl rfl) (c_call C__law_times (hr.mono (by decide)) rfl (qa_cons (q_v (pv 0)) (qa_cons (q_v (pv 5)) (qa_cons (q_o (q_lst (qa_cons (c_call C__law_back (hr.mono (by decide)) rfl (qa_cons (q_v (pv 0)) (qa_cons (q_ix (q_w (q_v (pv 5))) (q_w (q_neg q_int))) qa_nil))) qa_nil))) qa_nil))))))) qs_nil) (qs_one (q_ifS (q_cmpT op_gt b_gt (q_w (q_B call_len_seq u_len rfl B.b_len (by decide +kernel) (q_w (q_v (pv 5))))) (q_w q_int) (nomark _)) (qs_cons (q_set (i := 7) sc.nd rfl (.inl rfl) (q_cmp (op_eqD (room64 hr)) b_eq (q_w (q_mod (q_w (q_BT call_int1 u_int rfl B.b_int (by decide +kernel) (q_w (q_mul (q_s (q_sub (q_w (q_B call_len_seq u_len rfl B.b_len (by decide +kernel) (q_w (q_v (pv 4))))) (q_w q_int))) (q_s (q_sub (q_w (q_B call_len_seq u_len rfl B.b_len (by decide +kernel) (q_w (q_v (pv 5))))) (q_w q_int))))))) (q_w q_int))) (q_w q_int) (nomark _))) (qs_one (q_par3 (i := 4) (j := 5) (l := 6) rfl sc.nd rfl rfl rfl (by decide) (by decide) (by decide) rfl rfl rfl (qm_val (q_v (pv 5)) (qm_val (c_call C__law_rest (hr.mono (by decide)) rfl (qa_cons (q_v (pv 0)) (qa_cons (q_v (pv 4)) (qa_cons (q_v (pv 5)) qa_nil)))) (qm_val (q_mod (q_w (q_BT call_int1 u_int rfl B.b_int (by decide +kernel) (q_w (q_if (q_t (q_v (pv 7))) (q_sub (q_w q_int) (q_w (q_v (pv 6)))) (q_v (pv 6)))))) (q_w (q_v (pv 0)))) qm_nil))) (by rfl)))) qs_nil)))) (qs_one (q_ret (q_if (q_cmpT (op_eqD (room64 hr)) b_eq (q_w (q_v (pv 5))) (q_w (q_o (q_lst (qa_cons q_int qa_nil)))) (nomark _)) (q_v (pv 6)) q_int)))))
abbrev nm__law_made : List Str := ["_law_p", "_law_primes", "_law_found", "_law_prime"]
theorem sc__law_made : FnScope nm__law_made ["_law_p", "_law_primes"] (defScope (top 50)) := ⟨rfl, rfl, rfl, by decide +kernel, rfl, by decide +kernel, by decide +kernel⟩
theorem c__law_made (B : Bt K mg) (C__law_times : Cal P w K mg base 2 "_law_times" ["_law_p", "_law_one", "_law_other"] (spF K d__law_times)) (F : FunD K "_law_made" "_law_made" (defArgs (top 50)) (defBody (top 50)) (defScope (top 50)) [] [] f fd) (hm : mg "_law_made" = some (.ref f)) : Cal P w K mg base 3 "_law_made" ["_law_p", "_law_primes"] (spF K d__law_made) := by
  have sc := sc__law_made
  refine ⟨f, fd, hm, F.kp, F.bindsN fun _ _ _ _ _ _ us hl => match us, hl with | [_, _], _ => rfl, fnF (k := 2) F sc fun cdv A outer s H E hr => ?_⟩
  exact (qs_cons (q_set (i := 2) sc.nd rfl (.inl rfl) (q_o (q_lst (qa_cons q_int qa_nil)))) (qs_cons (q_for PassesOwn.never rfl (qi_list (q_v (pv 1))) (qg_name (i := 3) sc.nd rfl (.inl rfl)) (qs_one (q_set (i := 2) sc.nd rfl (.inl rfl) (c_call C__law_times (hr.mono (by decide)) rfl (qa_cons (q_v (pv 0)) (qa_cons (q_v (pv 2)) (qa_cons (q_v (pv 3)) qa_nil))))))) (qs_one (q_ret (q_v (pv 2))))))
abbrev nm__law_turned : List Str := ["_law_p", "_law_one", "_law_other", "_law_number", "_law_odd"]
theorem sc__law_turned : FnScope nm__law_turned ["_law_p", "_law_one", "_law_other", "_law_number"] (defScope (top 51)) := ⟨rfl, rfl, rfl, by decide +kernel, rfl, by decide +kernel, by decide +kernel⟩
theorem c__law_turned (B : Bt K mg)  (F : FunD K "_law_turned" "_law_turned" (defArgs (top 51)) (defBody (top 51)) (defScope (top 51)) [] [] f fd) (hm : mg "_law_turned" = some (.ref f)) : Cal P w K mg base 1 "_law_turned" ["_law_p", "_law_one", "_law_other", "_law_number"] (spF K d__law_turned) := by
  have sc := sc__law_turned
  refine ⟨f, fd, hm, F.kp, F.bindsN fun _ _ _ _ _ _ us hl => match us, hl with | [_, _, _, _], _ => rfl, fnF (k := 0) F sc fun cdv A outer s H E hr => ?_⟩
  exact (qs_cons (q_set (i := 4) sc.nd rfl (.inl rfl) (q_cmp (op_eqD (room64 hr)) b_eq (q_w (q_mod (q_w (q_BT call_int1 u_int rfl B.b_int (by decide +kernel) (q_w (q_mul (q_s (q_sub (q_w (q_B call_len_seq u_len rfl B.b_len (by decide +kernel) (q_w (q_v (pv 1))))) (q_w q_int))) (q_s (q_sub (q_w (q_B call_len_seq u_len rfl B.b_len (by decide +kernel) (q_w (q_v (pv 2))))) (q_w q_int))))))) (q_w q_int))) (q_w q_int) (nomark _))) (qs_one (q_ret (q_mod (q_w (q_BT call_int1 u_int rfl B.b_int (by decide +kernel) (q_w (q_if (q_t (q_v (pv 4))) (q_sub (q_w q_int) (q_w (q_v (pv 3)))) (q_v (pv 3)))))) (q_w (q_v (pv 0)))))))
abbrev nm__law_right : List Str := ["_law_generator_here", "_law_p", "_law_low", "_law_high", "_law_most", "_law_one", "_law_other", "_law_due", "_law_back_here", "_law_turn"]
theorem sc__law_right : FnScope nm__law_right ["_law_generator_here"] (defScope (top 52)) := ⟨rfl, rfl, rfl, by decide +kernel, rfl, by decide +kernel, by decide +kernel⟩
def u__law_right : SF := (sSeq (sSet 1 (eCallG 0 d__law_prime_number aNil)) (sSeq (sO 2 (oLc (iR1 (aCons (e2 dAdd (eC (.int 1)) (eCallG 0 d__law_random (aCons (eC (.int 3)) aNil))) aNil)) (gN 9) tTrue (eCallG 0 d__law_a_prime (aCons (eV 1) (aCons (eC (.int 2)) aNil))) [9])) (sSeq (sO 3 (oLc (iR1 (aCons (e2 dAdd (eC (.int 1)) (eCallG 0 d__law_random (aCons (eC (.int 3)) aNil))) aNil)) (gN 9) tTrue (eCallG 0 d__law_a_prime (aCons (eV 1) (aCons (eC (.int 2)) aNil))) [9])) (sSeq (sPar [5, 6] (mVal (eCall d__law_made (aCons (eV 1) (aCons (eV 2) aNil))) (mVal (eCall d__law_made (aCons (eV 1) (aCons (eV 3) aNil))) mNil))) (sSeq (sPar [7, 8] (mVal (eCall d__law_residue_by (aCons (eV 1) (aCons (eV 3) (aCons (eV 5) aNil)))) (mVal (eCall d__law_residue_by (aCons (eV 1) (aCons (eV 2) (aCons (eV 6) aNil)))) mNil))) (sSeq (sIf (tOrF (bE (e2 dNe (eCall d_residue (aCons (eV 1) (aCons (eV 6) (aCons (eV 5) aNil)))) (eV 7))) (tOrF (bE (e2 dNe (eCall d_residue (aCons (eV 1) (aCons (eV 5) (aCons (eV 6) aNil)))) (eV 8))) (bE (e2 dNe (eV 7) (eCall d__law_turned (aCons (eV 1) (aCons (eV 5) (aCons (eV 6) (aCons (eV 8) aNil))))))))) (sRet (eC (.bool false))) sNil) (sSeq (sFor (iL (eO (oLst (aCons (eC (.int 12)) (aCons (eC (.int 30)) aNil))))) (gN 4) (sSeq (sPar [5, 6] (mVal (eCallG 0 d__law_monic (aCons (eV 1) (aCons (eV 4) aNil))) (mVal (eCallG 0 d__law_monic (aCons (eV 1) (aCons (eV 4) aNil))) mNil))) (sSeq (sSet 7 (eCall d__law_walked (aCons (eV 1) (aCons (eV 5) (aCons (eV 6) aNil))))) (sSeq (sIf (tOrF (bE (e2 dNe (eCall d_residue (aCons (eV 1) (aCons (eV 5) (aCons (eV 6) aNil)))) (eV 7))) (bE (e2 dNe (eCall d_residue (aCons (eV 1) (aCons (eV 6) (aCons (eV 5) aNil)))) (eCall d__law_turned (aCons (eV 1) (aCons (eV 5) (aCons (eV 6) (aCons (eV 7) aNil)))))))) (sRet (eC (.bool false))) sNil) (sIf (tOrF (bE (e2 dNe (eCall d_residue (aCons (eV 1) (aCons (eV 5) (aCons (eV 5) aNil)))) (eC (.int 0)))) (bE (e2 dNe (eCall d_residue (aCons (eV 1) (aCons (eV 5) (aCons (eCall d__law_times (aCons (eV 1) (aCons (eV 6) (aCons (eV 6) aNil)))) aNil)))) (e2 dMod (e1 dInt (e2 dMul (eV 7) (eV 7))) (eV 1))))) (sRet (eC (.bool false))) sNil))))) (sRet (eC (.bool true))))))))))
def d__law_right : GF := runG 10 1 u__law_right
theorem c__law_right (B : Bt K mg) (C__law_prime_number : Cal P w K mg base 3 "_law_prime_number" ["_law_generator_here"] (spG K d__law_prime_number)) (C__law_random : Cal P w K mg base 2 "_law_random" ["_law_generator_here", "_law_bound"] (spG K d__law_random)) (C__law_a_prime : Cal P w K mg base 6 "_law_a_prime" ["_law_generator_here", "_law_p", "_law_most"] (spG K d__law_a_prime)) (C__law_made : Cal P w K mg base 3 "_law_made" ["_law_p", "_law_primes"] (spF K d__law_made)) (C__law_residue_by : Cal P w K mg base 7 "_law_residue_by" ["_law_p", "_law_primes", "_law_one"] (spF K d__law_residue_by)) (C_residue : Cal P w K mg base 7 "residue" ["p", "modulus", "polynomial"] (spF K d_residue)) (C__law_turned : Cal P w K mg base 1 "_law_turned" ["_law_p", "_law_one", "_law_other", "_law_number"] (spF K d__law_turned)) (C__law_monic : Cal P w K mg base 3 "_law_monic" ["_law_generator_here", "_law_p", "_law_most"] (spG K d__law_monic)) (C__law_walked : Cal P w K mg base 5 "_law_walked" ["_law_p", "_law_modulus", "_law_polynomial"] (spF K d__law_walked)) (C__law_times : Cal P w K mg base 2 "_law_times" ["_law_p", "_law_one", "_law_other"] (spF K d__law_times)) (F : FunD K "_law_right" "_law_right" (defArgs (top 52)) (defBody (top 52)) (defScope (top 52)) [] [] f fd) (hm : mg "_law_right" = some (.ref f)) : Cal P w K mg base 8 "_law_right" ["_law_generator_here"] (spG K d__law_right) := by
  have sc := sc__law_right
  refine ⟨f, fd, hm, F.kp, F.bindsN fun _ _ _ _ _ _ us hl => match us, hl with | [_], _ => rfl, fnG (k := 7) F sc fun cdv A outer s H E hr => ?_⟩
  exact (qs_cons (q_set (i := 1) sc.nd rfl (.inr rfl) (c_callG C__law_prime_number (hr.mono (by decide)) rfl (qa_gen (pv 0) qa_nil))) (qs_cons (q_setLc (i := 2) rfl sc.nd rfl rfl (sw_true rfl rfl rfl (by decide +kernel)) (qi_r1 rfl B.b_range (qa_cons (q_add (q_s q_int) (q_s (c_callG C__law_random (hr.mono (by decide)) rfl (qa_gen (pv 0) (qa_cons q_int qa_nil))))) qa_nil)) (blkOk_by (N := nm__law_right) (sc := defScope (top 52)) (own := [("_law_turn", 9)]) (by decide +kernel)) rfl (blkg_name (by decide)) (fun _ _ _ _ _ => (pg_name (i := 9) sc.nd rfl (.inl rfl))) (fun _ _ _ _ _ => qts_nil) (fun _ _ _ _ _ => (c_callG C__law_a_prime (hr.mono (by decide)) rfl (qa_gen (pv 0) (qa_cons (q_v (pv 1)) (qa_cons q_int qa_nil)))))) (qs_cons (q_setLc (i := 3) rfl sc.nd rfl rfl (sw_true rfl rfl rfl (by decide +kernel)) (qi_r1 rfl B.b_range (qa_cons (q_add (q_s q_int) (q_s (c_callG C__law_random (hr.mono (by decide)) rfl (qa_gen (pv 0) (qa_cons q_int qa_nil))))) qa_nil)) (blkOk_by (N := nm__law_right) (sc := defScope (top 52)) (own := [("_law_turn", 9)]) (by decide +kernel)) rfl (blkg_name (by decide)) (fun _ _ _ _ _ => (pg_name (i := 9) sc.nd rfl (.inl rfl))) (fun _ _ _ _ _ => qts_nil) (fun _ _ _ _ _ => (c_callG C__law_a_prime (hr.mono (by decide)) rfl (qa_gen (pv 0) (qa_cons (q_v (pv 1)) (qa_cons q_int qa_nil)))))) (qs_cons (q_par (i := 5) (j := 6) rfl sc.nd rfl rfl (by decide) rfl rfl (qm_val (c_call C__law_made (hr.mono (by decide)) rfl (qa_cons (q_v (pv 1)) (qa_cons (q_v (pv 2)) qa_nil))) (qm_val (c_call C__law_made (hr.mono (by decide)) rfl (qa_cons (q_v (pv 1)) (qa_cons (q_v (pv 3)) qa_nil))) qm_nil)) (by rfl)) (qs_cons (q_par (i := 7) (j := 8) rfl sc.nd rfl rfl (by decide) rfl rfl (qm_val (c_call C__law_residue_by (hr.mono (by decide)) rfl (qa_cons (q_v (pv 1)) (qa_cons (q_v (pv 3)) (qa_cons (q_v (pv 5)) qa_nil)))) (qm_val (c_call C__law_residue_by (hr.mono (by decide)) rfl (qa_cons (q_v (pv 1)) (qa_cons (q_v (pv 2)) (qa_cons (q_v (pv 6)) qa_nil)))) qm_nil)) (by rfl)) (qs_cons (q_ifS (q_pw (q_or (q_cmpT (op_neD (room64 hr)) b_ne (q_w (c_call C_residue (hr.mono (by decide)) rfl (qa_cons (q_v (pv 1)) (qa_cons (q_v (pv 6)) (qa_cons (q_v (pv 5)) qa_nil))))) (q_w (q_v (pv 7))) (nomark _)) (q_or (q_cmpT (op_neD (room64 hr)) b_ne (q_w (c_call C_residue (hr.mono (by decide)) rfl (qa_cons (q_v (pv 1)) (qa_cons (q_v (pv 5)) (qa_cons (q_v (pv 6)) qa_nil))))) (q_w (q_v (pv 8))) (nomark _)) (q_or1 (q_cmpT (op_neD (room64 hr)) b_ne (q_w (q_v (pv 7))) (q_w (c_call C__law_turned (hr.mono (by decide)) rfl (qa_cons (q_v (pv 1)) (qa_cons (q_v (pv 5)) (qa_cons (q_v (pv 6)) (qa_cons (q_v (pv 8)) qa_nil)))))) (nomark _)))))) (qs_one (q_ret q_bl)) qs_nil) (qs_cons (q_for PassesOwn.never rfl (qi_list (q_o (q_lst (qa_cons q_int (qa_cons q_int qa_nil))))) (qg_name (i := 4) sc.nd rfl (.inl rfl)) (qs_cons (q_par (i := 5) (j := 6) rfl sc.nd rfl rfl (by decide) rfl rfl (qm_val (c_callG C__law_monic (hr.mono (by decide)) rfl (qa_gen (pv 0) (qa_cons (q_v (pv 1)) (qa_cons (q_v (pv 4)) qa_nil)))) (qm_val (c_callG C__law_monic (hr.mono (by decide)) rfl (qa_gen (pv 0) (qa_cons (q_v (pv 1)) (qa_cons (q_v (pv 4)) qa_nil)))) qm_nil)) (by rfl)) (qs_cons (q_set (i := 7) sc.nd rfl (.inl rfl) (c_call C__law_walked (hr.mono (by decide)) rfl (qa_cons (q_v (pv 1)) (qa_cons (q_v (pv 5)) (qa_cons (q_v (pv 6)) qa_nil))))) (qs_cons (q_ifS (q_pw (q_or (q_cmpT (op_neD (room64 hr)) b_ne (q_w (c_call C_residue (hr.mono (by decide)) rfl (qa_cons (q_v (pv 1)) (qa_cons (q_v (pv 5)) (qa_cons (q_v (pv 6)) qa_nil))))) (q_w (q_v (pv 7))) (nomark _)) (q_or1 (q_cmpT (op_neD (room64 hr)) b_ne (q_w (c_call C_residue (hr.mono (by decide)) rfl (qa_cons (q_v (pv 1)) (qa_cons (q_v (pv 6)) (qa_cons (q_v (pv 5)) qa_nil))))) (q_w (c_call C__law_turned (hr.mono (by decide)) rfl (qa_cons (q_v (pv 1)) (qa_cons (q_v (pv 5)) (qa_cons (q_v (pv 6)) (qa_cons (q_v (pv 7)) qa_nil)))))) (nomark _))))) (qs_one (q_ret q_bl)) qs_nil) (qs_one (q_ifS (q_pw (q_or (q_cmpT (op_neD (room64 hr)) b_ne (q_w (c_call C_residue (hr.mono (by decide)) rfl (qa_cons (q_v (pv 1)) (qa_cons (q_v (pv 5)) (qa_cons (q_v (pv 5)) qa_nil))))) (q_w q_int) (nomark _)) (q_or1 (q_cmpT (op_neD (room64 hr)) b_ne (q_w (c_call C_residue (hr.mono (by decide)) rfl (qa_cons (q_v (pv 1)) (qa_cons (q_v (pv 5)) (qa_cons (c_call C__law_times (hr.mono (by decide)) rfl (qa_cons (q_v (pv 1)) (qa_cons (q_v (pv 6)) (qa_cons (q_v (pv 6)) qa_nil)))) qa_nil))))) (q_w (q_mod (q_w (q_BT call_int1 u_int rfl B.b_int (by decide +kernel) (q_w (q_mul (q_s (q_v (pv 7))) (q_s (q_v (pv 7))))))) (q_w (q_v (pv 1))))) (nomark _))))) (qs_one (q_ret q_bl)) qs_nil)))))) (qs_one (q_ret q_bl)))))))))
abbrev nm_law : List Str := ["_law_script"]
theorem sc_law : FnScope nm_law ["_law_script"] (defScope (top 53)) := ⟨rfl, rfl, rfl, by decide +kernel, rfl, by decide +kernel, by decide +kernel⟩
def u_law : SF := (sSeq (sIf (tNotF (bE (eCallN d__law_right (oCallS 0 d__law_generator (aCons (eC (.int 0)) aNil))))) (sRet (eC (.bool false))) sNil) (sRet (eAnd (e2 dEq (eCall d_residue (aCons (eC (.int 3)) (aCons (eO (oLst (aCons (eC (.int 0)) (aCons (eC (.int 1)) aNil)))) (aCons (eO (oLst (aCons (eC (.int 1)) (aCons (eC (.int 1)) aNil)))) aNil)))) (eC (.int 1))) (eAnd (e2 dEq (eCall d_residue (aCons (eC (.int 3)) (aCons (eO (oLst (aCons (eC (.int 1)) (aCons (eC (.int 1)) aNil)))) (aCons (eO (oLst (aCons (eC (.int 0)) (aCons (eC (.int 1)) aNil)))) aNil)))) (eC (.int 2))) (eAnd (e2 dEq (eCall d_residue (aCons (eC (.int 7)) (aCons (eO (oLst (aCons (eC (.int 3)) (aCons (eC (.int 1)) aNil)))) (aCons (eO (oLst (aCons (eC (.int 0)) (aCons (eC (.int 0)) (aCons (eC (.int 1)) aNil))))) aNil)))) (eC (.int 2))) (e2 dEq (eCall d_residue (aCons (eC (.int 7)) (aCons (eO (oLst (aCons (eC (.int 0)) (aCons (eC (.int 0)) (aCons (eC (.int 1)) aNil))))) (aCons (eO (oLst (aCons (eC (.int 3)) (aCons (eC (.int 1)) aNil)))) aNil)))) (eC (.int 2))))))))
def d_law : SDF := runS 1 1 u_law
theorem law_ok (B : Bt K mg) (C__law_right : Cal P w K mg base 8 "_law_right" ["_law_generator_here"] (spG K d__law_right)) (C__law_generator : Cal P w K mg base 2 "_law_generator" ["_law_script", "_law_index"] (spS K d__law_generator)) (C_residue : Cal P w K mg base 7 "residue" ["p", "modulus", "polynomial"] (spF K d_residue)) (F : FunD K "law" "law" (defArgs (top 53)) (defBody (top 53)) (defScope (top 53)) [] [] f fd) : FnOk P w K mg base CX0 9 f fd ["_law_script"] (spS K d_law) := by
  have sc := sc_law
  refine fnS (k := 8) F sc fun cdv A outer s H E hr => ?_
  exact (qs_cons (q_ifS (q_not (q_t (c_callN C__law_right (hr.mono (by decide)) rfl (c_callSO C__law_generator (hr.mono (by decide)) rfl (qa_scr (pv 0) (qa_cons q_int qa_nil)))))) (qs_one (q_ret q_bl)) qs_nil) (qs_one (q_ret (q_andV (q_cmp (op_eqD (room64 hr)) b_eq (q_w (c_call C_residue (hr.mono (by decide)) rfl (qa_cons q_int (qa_cons (q_o (q_lst (qa_cons q_int (qa_cons q_int qa_nil)))) (qa_cons (q_o (q_lst (qa_cons q_int (qa_cons q_int qa_nil)))) qa_nil))))) (q_w q_int) (nomark _)) (q_andV (q_cmp (op_eqD (room64 hr)) b_eq (q_w (c_call C_residue (hr.mono (by decide)) rfl (qa_cons q_int (qa_cons (q_o (q_lst (qa_cons q_int (qa_cons q_int qa_nil)))) (qa_cons (q_o (q_lst (qa_cons q_int (qa_cons q_int qa_nil)))) qa_nil))))) (q_w q_int) (nomark _)) (q_andV (q_cmp (op_eqD (room64 hr)) b_eq (q_w (c_call C_residue (hr.mono (by decide)) rfl (qa_cons q_int (qa_cons (q_o (q_lst (qa_cons q_int (qa_cons q_int qa_nil)))) (qa_cons (q_o (q_lst (qa_cons q_int (qa_cons q_int (qa_cons q_int qa_nil))))) qa_nil))))) (q_w q_int) (nomark _)) (q_one (q_cmp (op_eqD (room64 hr)) b_eq (q_w (c_call C_residue (hr.mono (by decide)) rfl (qa_cons q_int (qa_cons (q_o (q_lst (qa_cons q_int (qa_cons q_int (qa_cons q_int qa_nil))))) (qa_cons (q_o (q_lst (qa_cons q_int (qa_cons q_int qa_nil)))) qa_nil))))) (q_w q_int) (nomark _)))))))))
end

end W43
namespace TR43
open PySem PySem.Spec PyProof.Rows L2 QL MA DN BR W43
section
variable {F : Type} [Fq F] {n : Nat} {G : GS}
theorem primes_ok {sl : Sl} {s : SV} (h0 : ∀ i : Int, (sl.set 9 (.val (.int i)))[0]? = some .gen) (h1 : ∀ i : Int, (sl.set 9 (.val (.int i)))[1]? = some (.val (.int (pp F)))) {c : Nat} (hG : Gd n G) (hn : n ≤ 1000000) (hc : c ≤ 1000) :
    ∃ ls G', lcL (gN 9) tTrue (eCallG 0 d__law_a_prime (aCons (eV 1) (aCons (eC (.int 2)) aNil))) sl (rngD 0 c) [] G = some (lls ls, G') ∧ ls.length = c ∧ (∀ l ∈ ls, Nm F l ∧ IsP F l ∧ l.length ≤ 3) ∧ Gd (n + 2 * c) G' := by
  obtain ⟨ys, G2, k1, k2, k3, k4⟩ := lc_st (g := gN 9) (t := tTrue) (e := eCallG 0 d__law_a_prime (aCons (eV 1) (aCons (eC (.int 2)) aNil))) (sl := sl) (G := G) (ds := rngD 0 c) (fun i G => Gd (n + 2 * i) G) (fun y => ∃ l, y = .list (nums l) ∧ Nm F l ∧ IsP F l ∧ l.length ≤ 3) hG fun i x G hd hI => by
    obtain ⟨hx, hi⟩ := rng_at _ _ i x hd
    subst hx
    obtain ⟨l, G', q1, q2, q3, q4, q5⟩ := a_prime_ok (F := F) (most := 2) (by omega) (fun k h1 h2 => exP F ⟨h1, h2⟩) hI (by omega)
    refine ⟨_, .list (nums l), G', rfl, rfl, ?_, ⟨l, rfl, q2, q3, q4⟩, q5.mono (by omega)⟩
    have q1' : d__law_a_prime [.int (pp F), .int 2] G = some (.val (L l), G') := q1
    simp only [eCallG_s, h0, aCons_s, aNil_s, eV_s, h1, eC_s, q1', rv_val]
  rw [rng_len] at k2 k4
  obtain ⟨ls, e1, e2'⟩ := lists_of k3
  subst e1
  exact ⟨ls, G2, k1, by rw [← k2, lls_len], e2', k4⟩
theorem eq_of {i j : Int} (hi : 0 ≤ i ∧ i < pp F) (hj : 0 ≤ j ∧ j < pp F) (h : (of i : F) = of j) : dNe (.int i) (.int j) = some (.bool false) := by
  rw [of_inj' hi hj h, dNe_i]; simp
theorem right_ok (hG : Gd n G) (hn : n ≤ 1000) : ∃ G', d__law_right [] G = some (.val (.bool true), G') := by
  obtain ⟨p, G1, a1, a2, a3⟩ := prime_number_ok hG (by omega)
  obtain ⟨F, _, hF⟩ := field_of a2
  subst hF
  have hp := pp_357 (F := F)
  obtain ⟨c1, G2, b1, b2, b3, b4⟩ := random_ok (b := 3) (by omega) a3 (by omega)
  obtain ⟨low, G3, l1, l2, l3, l4⟩ := primes_ok (F := F) (sl := [.gen, .val (.int (pp F)), .no, .no, .no, .no, .no, .no, .no, .no]) (s := .no) (fun _ => rfl) (fun _ => rfl) (c := (1 + c1).toNat) b4 (by omega) (by omega)
  obtain ⟨c2, G4, b5, b6, b7, b8⟩ := random_ok (b := 3) (by omega) l4 (by omega)
  obtain ⟨high, G5, m1, m2, m3, m4⟩ := primes_ok (F := F) (sl := [.gen, .val (.int (pp F)), .val (.list (lls low)), .no, .no, .no, .no, .no, .no, .no]) (s := .no) (fun _ => rfl) (fun _ => rfl) (c := (1 + c2).toNat) b8 (by omega) (by omega)
  obtain ⟨one, A, d1, n1, n2, n3, n4, n5, n6, n7, n8⟩ := made_ok (F := F) (ls := low) (fun l hl => ⟨(l3 l hl).1, (l3 l hl).2.1.1, (l3 l hl).2.1.2.1, by have := (l3 l hl).2.2; omega⟩) (by omega)
  obtain ⟨other, B, d2, o1, o2, o3, o4, o5, o6, o7, o8⟩ := made_ok (F := F) (ls := high) (fun l hl => ⟨(m3 l hl).1, (m3 l hl).2.1.1, (m3 l hl).2.1.2.1, by have := (m3 l hl).2.2; omega⟩) (by omega)
  have la := (rep_of_mon n2 n3).2
  have lb := (rep_of_mon o2 o3).2
  have lasta := (rep_of_mon n2 n3).1
  have lastb := (rep_of_mon o2 o3).1
  obtain ⟨k1, r1, r2, r3, r4⟩ := residue_by_ok (ls := high) (one := one) (fun l hl => ⟨(m3 l hl).2.1, (m3 l hl).1, by have := (m3 l hl).2.2; omega⟩) n2 (by omega)
  obtain ⟨k2, r5, r6, r7, r8⟩ := residue_by_ok (ls := low) (one := other) (fun l hl => ⟨(l3 l hl).2.1, (l3 l hl).1, by have := (l3 l hl).2.2; omega⟩) o2 (by omega)
  rw [← o8 A (rep_pl n2)] at r4
  rw [← n8 B (rep_pl o2)] at r8
  obtain ⟨k3, s1, s2, s3, s4⟩ := residue_ok o2 n2 lastb (by omega) (by omega) (by omega)
  obtain ⟨k4, s5, s6, s7, s8⟩ := residue_ok n2 o2 lasta (by omega) (by omega) (by omega)
  rw [show other.length - 1 = d2 from by omega] at s4
  rw [show one.length - 1 = d1 from by omega] at s8
  obtain ⟨k5, t1, t2, t3, t4⟩ := turned_ok (F := F) (one := one) (other := other) (n := k2) (by omega) (by omega) (by omega) (by omega)
  rw [show other.length - 1 = d2 from by omega, show one.length - 1 = d1 from by omega, r8, ← recip n3 o3] at t4
  have q1 := eq_of (F := F) ⟨s2, s3⟩ ⟨r2, r3⟩ (s4.trans r4.symm)
  have q2 := eq_of (F := F) ⟨s6, s7⟩ ⟨r6, r7⟩ (s8.trans r8.symm)
  have q3 := eq_of (F := F) ⟨r2, r3⟩ ⟨t2, t3⟩ (r4.trans t4.symm)
  obtain ⟨sl', G', h1, h2⟩ := for_inv (g := gN 4) (u := (sSeq (sPar [5, 6] (mVal (eCallG 0 d__law_monic (aCons (eV 1) (aCons (eV 4) aNil))) (mVal (eCallG 0 d__law_monic (aCons (eV 1) (aCons (eV 4) aNil))) mNil))) (sSeq (sSet 7 (eCall d__law_walked (aCons (eV 1) (aCons (eV 5) (aCons (eV 6) aNil))))) (sSeq (sIf (tOrF (bE (e2 dNe (eCall d_residue (aCons (eV 1) (aCons (eV 5) (aCons (eV 6) aNil)))) (eV 7))) (bE (e2 dNe (eCall d_residue (aCons (eV 1) (aCons (eV 6) (aCons (eV 5) aNil)))) (eCall d__law_turned (aCons (eV 1) (aCons (eV 5) (aCons (eV 6) (aCons (eV 7) aNil)))))))) (sRet (eC (.bool false))) sNil) (sIf (tOrF (bE (e2 dNe (eCall d_residue (aCons (eV 1) (aCons (eV 5) (aCons (eV 5) aNil)))) (eC (.int 0)))) (bE (e2 dNe (eCall d_residue (aCons (eV 1) (aCons (eV 5) (aCons (eCall d__law_times (aCons (eV 1) (aCons (eV 6) (aCons (eV 6) aNil)))) aNil)))) (e2 dMod (e1 dInt (e2 dMul (eV 7) (eV 7))) (eV 1))))) (sRet (eC (.bool false))) sNil)))))
    (ds := [.int 12, .int 30]) (G := G5)
    (sl := [.gen, .val (.int (pp F)), .val (.list (lls low)), .val (.list (lls high)), .no, .val (L one), .val (L other), .val (.int k1), .val (.int k2), .no])
    (fun i sl G => Gd (n + 100 + 200 * i) G ∧ ∃ x2 x3 x4 x5 x6 x7 x8 x9, sl = [.gen, .val (.int (pp F)), x2, x3, x4, x5, x6, x7, x8, x9])
    ⟨m4.mono (by omega), _, _, _, _, _, _, _, _, rfl⟩ fun i d sl G hd hI => by
      obtain ⟨hg, x2, x3, x4, x5, x6, x7, x8, x9, hs⟩ := hI
      subst hs
      obtain ⟨most, hmo, hm1, hm2⟩ : ∃ most : Nat, d = .int (most : Int) ∧ 1 ≤ most ∧ most ≤ 30 := by
        match i, hd with
        | 0, hd => exact ⟨12, by cases hd; rfl, by omega, by omega⟩
        | 1, hd => exact ⟨30, by cases hd; rfl, by omega, by omega⟩
        | i + 2, hd => simp at hd
      have hi : i < 2 := (List.getElem?_eq_some_iff.mp hd).1
      subst hmo
      obtain ⟨u1, Ga, v1, v2, v3, v4, v5, v6⟩ := monic_ok (F := F) (most := most) (by omega) hg (by omega)
      obtain ⟨u2, Gb, w1, w2, w3, w4, w5, w6⟩ := monic_ok (F := F) (most := most) (by omega) v6 (by omega)
      have ra : Rep u1 (ps u1 : PS F) := ⟨v2, rfl⟩
      have rb : Rep u2 (ps u2 : PS F) := ⟨w2, rfl⟩
      have hMa := rep_mon ra v3
      have hMb := rep_mon rb w3
      obtain ⟨e1, f1, f2, f3, f4⟩ := walked_ok ra rb v3 v4 (by omega) (by omega)
      obtain ⟨e2, f5, f6, f7, f8⟩ := residue_ok ra rb v3 v4 (by omega) (by omega)
      obtain ⟨e3, g1, g2, g3, g4⟩ := residue_ok rb ra w3 w4 (by omega) (by omega)
      obtain ⟨e4, g5, g6, g7, g8⟩ := turned_ok (F := F) (one := u1) (other := u2) (n := e1) (by omega) (by omega) (by omega) (by omega)
      rw [f4, ← recip hMa hMb] at g8
      obtain ⟨e5, i1, i2, i3, i4⟩ := residue_ok ra ra v3 v4 (by omega) (by omega)
      have hself : rem (u1.length - 1) (ps u1 : PS F) (ps u1) = 0 := by
        have := rem_mulM hMa (pl_1 (F := F))
        rw [one_mul'] at this
        exact this
      rw [← tau_rem hMa (rep_pl ra), hself, tau_zero hMa (by omega), ← of_zero] at i4
      obtain ⟨u3, j1, j2⟩ := times_ok (F := F) w2.1 w2.1 (by omega) (by omega)
      have l3' : u3.length ≤ u2.length - 1 + (u2.length - 1) + 1 := rep_len j2 (hMb.mul hMb).1
      obtain ⟨e6, j3, j4, j5, j6⟩ := residue_ok ra j2 v3 v4 (by omega) (by omega)
      rw [tau_mul hMa (rep_pl rb) (rep_pl rb), ← f4] at j6
      have hm := dMul_i 3 3 (small_of (F := F) ⟨f2, f3⟩) (small_of (F := F) ⟨f2, f3⟩) (by omega)
      have hr := mod_rng (F := F) (e1 * e1)
      have z1 := eq_of (F := F) ⟨f6, f7⟩ ⟨f2, f3⟩ (f8.trans f4.symm)
      have z2 := eq_of (F := F) ⟨g2, g3⟩ ⟨g6, g7⟩ (g4.trans g8.symm)
      have z3 := eq_of (F := F) ⟨i2, i3⟩ ⟨by omega, by omega⟩ i4
      have z4 := eq_of (F := F) ⟨j4, j5⟩ hr (by rw [j6, of_mod, of_mul])
      refine ⟨[.gen, .val (.int (pp F)), x2, x3, .val (.int (most : Int)), x5, x6, x7, x8, x9], [.gen, .val (.int (pp F)), x2, x3, .val (.int (most : Int)), .val (L u1), .val (L u2), .val (.int e1), x8, x9], Gb, .nx, rfl, ?_, .inl rfl, w6.mono (by omega), _, _, _, _, _, _, _, _, rfl⟩
      simp only [sSeq_s, sPar_s, mVal_s, mNil_s, eCallG_s, List.getElem?_cons_zero, List.getElem?_cons_succ, aCons_s, aNil_s, eV_s, v1, w1, rv_val, parSet_val, parSet_nil, List.set_cons_succ, List.set_cons_zero, sSet_s, eCall_s, f1, sIf_s, tOrF_s, bE_s, e2_s, f5, z1, g1, g5, z2, sNil_s, i1, eC_s, z3, j1, rv_own, j3, e1_s, hm, dInt_i, dMod_i pp_pos, z4]
  obtain ⟨_, y2, y3, y4, y5, y6, y7, y8, y9, hs⟩ := h2
  have o1' : okR (1 + c1) = true := okR_of (by omega)
  have o2' : okR (1 + c2) = true := okR_of (by omega)
  have z1 : (rngD 0 (1 + c1).toNat).length ≤ 16777215 := by rw [rng_len]; omega
  have z2 : (rngD 0 (1 + c2).toNat).length ≤ 16777215 := by rw [rng_len]; omega
  refine ⟨G', ?_⟩
  simp only [d__law_right, runG, startS, u__law_right, List.length_cons, List.length_nil, if_true, List.map_cons, List.map_nil, List.replicate, List.cons_append, List.nil_append, Nat.reduceSub, Nat.reduceAdd, sSeq_s, sSet_s, eCallG_s, List.getElem?_cons_zero, List.getElem?_cons_succ, aCons_s, aNil_s, a1, rv_val, List.set_cons_succ, List.set_cons_zero, sO_s, oLc_s, iR1_s, e2_s, eC_s, eV_s, b1, dAdd_i, o1', z1, wipe1, wipe0, l1, b5, o2', z2, m1, sPar_s, mVal_s, mNil_s, eCall_s, n1, o1, parSet_val, parSet_nil, r1, r5, sIf_s, tOrF_s, bE_s, s1, q1, s5, q2, t1, q3, sNil_s, sFor_s, iL_s, eO_s, oLst_s, Nat.reduceLeDiff, h1, hs, sRet_s, endF_rt]
end
def isI (k : Int) : Option RV → Bool
  | some (.val (.int i)) => decide (i = k)
  | _ => false
theorem isI_eq {k : Int} {x : Option RV} (h : isI k x = true) : x = some (.val (.int k)) := by
  unfold isI at h
  split at h
  · rw [of_decide_eq_true h]
  · cases h
theorem f1 : isI 1 (d_residue [.int 3, .list [.int 0, .int 1], .list [.int 1, .int 1]]) = true := by decide +kernel
theorem f2 : isI 2 (d_residue [.int 3, .list [.int 1, .int 1], .list [.int 0, .int 1]]) = true := by decide +kernel
theorem f3 : isI 2 (d_residue [.int 7, .list [.int 3, .int 1], .list [.int 0, .int 0, .int 1]]) = true := by decide +kernel
theorem f4 : isI 2 (d_residue [.int 7, .list [.int 0, .int 0, .int 1], .list [.int 3, .int 1]]) = true := by decide +kernel
theorem truth (ns : List Int) (h : ns.length ≤ 63) : d_law ns [] = some (.val (.bool true)) := by
  obtain ⟨G, h1, h2⟩ := generator_ok (ns := ns) (i := 0) (by omega) (by omega)
  obtain ⟨G', h3⟩ := right_ok h2 (by omega)
  have h1' : d__law_generator ns [.int 0] = some (.own G) := h1
  have k1 := isI_eq f1
  have k2 := isI_eq f2
  have k3 := isI_eq f3
  have k4 := isI_eq f4
  simp only [d_law, runS, startS, u_law, List.length_cons, List.length_nil, if_true, List.map_cons, List.map_nil, List.replicate, List.cons_append, List.nil_append, Nat.reduceSub, Nat.reduceAdd, sSeq_s, sIf_s, tNotF_s, bE_s, eCallN_s, oCallS_s, List.getElem?_cons_zero, aCons_s, aNil_s, eC_s, h1', h3, rv_val, Bool.not_true, sNil_s, sRet_s, eAnd_s, e2_s, eCall_s, eO_s, oLst_s, Nat.reduceLeDiff, k1, k2, k3, k4, dEq_i, decide_true, endF_rt]
end TR43

namespace HDW43
open PySem PySem.Spec PyProof.Rows L2 QL
def dd (x : Str) (i : Nat) : He.DefD := ⟨(x, none), x, x, defArgs (W43.top i), defBody (W43.top i), defScope (W43.top i), [], []⟩
def fn : List He.DefD := [dd "is_whole" 8, dd "is_between" 9, dd "check_prime" 10, dd "is_poly_list" 11, dd "check_poly" 12, dd "inverse" 13, dd "trimmed" 14, dd "scaled" 15, dd "parted" 16, dd "rest_of" 17, dd "raised_whole" 19, dd "check_great_modulus" 22, dd "number_to" 23, dd "stepped" 24, dd "word_for" 25, dd "walk_of" 26, dd "residue_of" 27, dd "residue" 28, dd "_law_hash" 30, dd "_law_random" 31, dd "_law_cell" 32, dd "_law_generator" 33, dd "_law_trim" 34, dd "_law_plus" 35, dd "_law_times" 36, dd "_law_back" 37, dd "_law_parted" 38, dd "_law_rest" 39, dd "_law_monics" 40, dd "_law_is_prime" 41, dd "_law_prime_number" 42, dd "_law_monic" 43, dd "_law_raised" 44, dd "_law_whole" 45, dd "_law_a_prime" 46, dd "_law_residue" 47, dd "_law_residue_by" 48, dd "_law_walked" 49, dd "_law_made" 50, dd "_law_turned" 51, dd "_law_right" 52, dd "law" 53]
def fa : List He.Fa := [.glo "is_whole", .glo "is_between", .glo "check_prime", .glo "is_poly_list", .glo "check_poly", .glo "inverse", .glo "trimmed", .glo "scaled", .glo "parted", .glo "rest_of", .glo "raised_whole", .glo "check_great_modulus", .glo "number_to", .glo "stepped", .glo "word_for", .glo "walk_of", .glo "residue_of", .glo "residue", .glo "_law_hash", .glo "_law_random", .glo "_law_cell", .glo "_law_generator", .glo "_law_trim", .glo "_law_plus", .glo "_law_times", .glo "_law_back", .glo "_law_parted", .glo "_law_rest", .glo "_law_monics", .glo "_law_is_prime", .glo "_law_prime_number", .glo "_law_monic", .glo "_law_raised", .glo "_law_whole", .glo "_law_a_prime", .glo "_law_residue", .glo "_law_residue_by", .glo "_law_walked", .glo "_law_made", .glo "_law_turned", .glo "_law_right", .glo "law", .free "bool", .free "enumerate", .free "int", .free "isinstance", .free "len", .free "list", .free "max", .free "range", .free "sum", .glo "PRIMES", .int "MOST_POWER" 60, .int "MOST_MODULUS" 30]
def ex (K : PySem.W.Frag) : Bool := He.tupB K "PRIMES" [.int 3, .int 5, .int 7]
abbrev R : PySem.W.OpenRow := PySem.W.OpenLaw.row PySem.Challenge.rw_modulusfields_k43_whole_residues_turned
def loose0 : List Str := ["InvalidModulus", "InvalidPolynomial", "InvalidPrime", "MOST_MODULUS", "MOST_POWER", "ModulusError", "PRIMES", "__name__", "_law_a_prime", "_law_back", "_law_cell", "_law_generator", "_law_hash", "_law_is_prime", "_law_made", "_law_monic", "_law_monics", "_law_parted", "_law_plus", "_law_prime_number", "_law_raised", "_law_random", "_law_residue", "_law_residue_by", "_law_rest", "_law_right", "_law_times", "_law_trim", "_law_turned", "_law_walked"]
def loose1 : List Str := ["_law_whole", "check_great_modulus", "check_poly", "check_prime", "inverse", "is_between", "is_poly_list", "is_whole", "number_to", "parted", "raised_whole", "residue", "residue_of", "rest_of", "scaled", "stepped", "trimmed", "walk_of", "word_for"]
def loose : List Str := loose0 ++ loose1
abbrev hk : PySem.W.Hook := He.hookX 4 fa fn [] [] ex
def ob (s : PySem.W.SharedT) : He.AlX := He.obsX 4 fa fn [] [] ex (HandSHeadRun.getT s)
theorem ob_eq (s : PySem.W.SharedT) : ob s = hk.obs s.abs := He.obsX_eq (HandSHeadRun.getT_eq s)
set_option maxHeartbeats 0 in
theorem run (w : World) : HandSHeadRun.RunEq R (PySem.W.view R.prog [53]) hk ob 6000 loose w := by
  intro os
  kernel_rfl
set_option maxHeartbeats 0 in
theorem facts {P : Program} {w : World} {K : PySem.W.Frag} {h : Heap} {mg : Str → Option Value} {f : Addr} (X : K.In h) (G : h.Ns mainGlobals mg) (hfa : mg ("law" : Str) = some (.ref f)) (cx : He.SaysX fa fn [] [] ex w h K) :
    ∃ fd : FuncData, (∀ (s : Shared) (v : Value), BindsTo s fd ⟨[v], []⟩ [("_law_script", v)]) ∧ ∀ base : Heap, K.In base → base.Ns mainGlobals mg → FnOk P w K mg base CX0 9 f fd ["_law_script"] (spS K W43.d_law) := by
  have c : He.SaysD fa fn K := cx.t.d
  have hex : ex K = true := cx.more
  have t_PRIMES := hex
  have B : W43.Bt K mg := {
    b_bool := He.free_ok X G (c.fact 42 (f := .free "bool") rfl),
    b_enumerate := He.free_ok X G (c.fact 43 (f := .free "enumerate") rfl),
    b_int := He.free_ok X G (c.fact 44 (f := .free "int") rfl),
    b_isinstance := He.free_ok X G (c.fact 45 (f := .free "isinstance") rfl),
    b_len := He.free_ok X G (c.fact 46 (f := .free "len") rfl),
    b_list := He.free_ok X G (c.fact 47 (f := .free "list") rfl),
    b_max := He.free_ok X G (c.fact 48 (f := .free "max") rfl),
    b_range := He.free_ok X G (c.fact 49 (f := .free "range") rfl),
    b_sum := He.free_ok X G (c.fact 50 (f := .free "sum") rfl),
    g_PRIMES := ⟨_, He.glo_ok X G (c.fact 51 (f := .glo "PRIMES") rfl), fun H => He.tupB_ok t_PRIMES H⟩,
    g_MOST_POWER := He.int_ok X G (c.fact 52 (f := .int "MOST_POWER" 60) rfl),
    g_MOST_MODULUS := He.int_ok X G (c.fact 53 (f := .int "MOST_MODULUS" 30) rfl) }
  obtain ⟨fd_is_whole, F_is_whole⟩ := c.def_ 0 (d := dd "is_whole" 8) rfl
  obtain ⟨fd_is_between, F_is_between⟩ := c.def_ 1 (d := dd "is_between" 9) rfl
  obtain ⟨fd_check_prime, F_check_prime⟩ := c.def_ 2 (d := dd "check_prime" 10) rfl
  obtain ⟨fd_is_poly_list, F_is_poly_list⟩ := c.def_ 3 (d := dd "is_poly_list" 11) rfl
  obtain ⟨fd_check_poly, F_check_poly⟩ := c.def_ 4 (d := dd "check_poly" 12) rfl
  obtain ⟨fd_inverse, F_inverse⟩ := c.def_ 5 (d := dd "inverse" 13) rfl
  obtain ⟨fd_trimmed, F_trimmed⟩ := c.def_ 6 (d := dd "trimmed" 14) rfl
  obtain ⟨fd_scaled, F_scaled⟩ := c.def_ 7 (d := dd "scaled" 15) rfl
  obtain ⟨fd_parted, F_parted⟩ := c.def_ 8 (d := dd "parted" 16) rfl
  obtain ⟨fd_rest_of, F_rest_of⟩ := c.def_ 9 (d := dd "rest_of" 17) rfl
  obtain ⟨fd_raised_whole, F_raised_whole⟩ := c.def_ 10 (d := dd "raised_whole" 19) rfl
  obtain ⟨fd_check_great_modulus, F_check_great_modulus⟩ := c.def_ 11 (d := dd "check_great_modulus" 22) rfl
  obtain ⟨fd_number_to, F_number_to⟩ := c.def_ 12 (d := dd "number_to" 23) rfl
  obtain ⟨fd_stepped, F_stepped⟩ := c.def_ 13 (d := dd "stepped" 24) rfl
  obtain ⟨fd_word_for, F_word_for⟩ := c.def_ 14 (d := dd "word_for" 25) rfl
  obtain ⟨fd_walk_of, F_walk_of⟩ := c.def_ 15 (d := dd "walk_of" 26) rfl
  obtain ⟨fd_residue_of, F_residue_of⟩ := c.def_ 16 (d := dd "residue_of" 27) rfl
  obtain ⟨fd_residue, F_residue⟩ := c.def_ 17 (d := dd "residue" 28) rfl
  obtain ⟨fd__law_hash, F__law_hash⟩ := c.def_ 18 (d := dd "_law_hash" 30) rfl
  obtain ⟨fd__law_random, F__law_random⟩ := c.def_ 19 (d := dd "_law_random" 31) rfl
  obtain ⟨fd__law_cell, F__law_cell⟩ := c.def_ 20 (d := dd "_law_cell" 32) rfl
  obtain ⟨fd__law_generator, F__law_generator⟩ := c.def_ 21 (d := dd "_law_generator" 33) rfl
  obtain ⟨fd__law_trim, F__law_trim⟩ := c.def_ 22 (d := dd "_law_trim" 34) rfl
  obtain ⟨fd__law_plus, F__law_plus⟩ := c.def_ 23 (d := dd "_law_plus" 35) rfl
  obtain ⟨fd__law_times, F__law_times⟩ := c.def_ 24 (d := dd "_law_times" 36) rfl
  obtain ⟨fd__law_back, F__law_back⟩ := c.def_ 25 (d := dd "_law_back" 37) rfl
  obtain ⟨fd__law_parted, F__law_parted⟩ := c.def_ 26 (d := dd "_law_parted" 38) rfl
  obtain ⟨fd__law_rest, F__law_rest⟩ := c.def_ 27 (d := dd "_law_rest" 39) rfl
  obtain ⟨fd__law_monics, F__law_monics⟩ := c.def_ 28 (d := dd "_law_monics" 40) rfl
  obtain ⟨fd__law_is_prime, F__law_is_prime⟩ := c.def_ 29 (d := dd "_law_is_prime" 41) rfl
  obtain ⟨fd__law_prime_number, F__law_prime_number⟩ := c.def_ 30 (d := dd "_law_prime_number" 42) rfl
  obtain ⟨fd__law_monic, F__law_monic⟩ := c.def_ 31 (d := dd "_law_monic" 43) rfl
  obtain ⟨fd__law_raised, F__law_raised⟩ := c.def_ 32 (d := dd "_law_raised" 44) rfl
  obtain ⟨fd__law_whole, F__law_whole⟩ := c.def_ 33 (d := dd "_law_whole" 45) rfl
  obtain ⟨fd__law_a_prime, F__law_a_prime⟩ := c.def_ 34 (d := dd "_law_a_prime" 46) rfl
  obtain ⟨fd__law_residue, F__law_residue⟩ := c.def_ 35 (d := dd "_law_residue" 47) rfl
  obtain ⟨fd__law_residue_by, F__law_residue_by⟩ := c.def_ 36 (d := dd "_law_residue_by" 48) rfl
  obtain ⟨fd__law_walked, F__law_walked⟩ := c.def_ 37 (d := dd "_law_walked" 49) rfl
  obtain ⟨fd__law_made, F__law_made⟩ := c.def_ 38 (d := dd "_law_made" 50) rfl
  obtain ⟨fd__law_turned, F__law_turned⟩ := c.def_ 39 (d := dd "_law_turned" 51) rfl
  obtain ⟨fd__law_right, F__law_right⟩ := c.def_ 40 (d := dd "_law_right" 52) rfl
  obtain ⟨fd_law, F_law⟩ := c.def_ 41 (d := dd "law" 53) rfl
  have e := hfa.symm.trans (He.glo_ok X G (c.fact 41 (f := .glo "law") rfl))
  cases e
  refine ⟨fd_law, fun s v => FunD.bindsA (ps := ["_law_script"]) F_law (fun _ _ _ _ _ _ us hl => match us, hl with | [_], _ => rfl) s [v] rfl, fun base _ _ => ?_⟩
  have C_is_whole := W43.c_is_whole (P := P) (w := w) (base := base) B  F_is_whole (He.glo_ok X G (c.fact 0 (f := .glo "is_whole") rfl))
  have C_is_between := W43.c_is_between (P := P) (w := w) (base := base) B C_is_whole F_is_between (He.glo_ok X G (c.fact 1 (f := .glo "is_between") rfl))
  have C_check_prime := W43.c_check_prime (P := P) (w := w) (base := base) B C_is_whole F_check_prime (He.glo_ok X G (c.fact 2 (f := .glo "check_prime") rfl))
  have C_is_poly_list := W43.c_is_poly_list (P := P) (w := w) (base := base) B C_is_between F_is_poly_list (He.glo_ok X G (c.fact 3 (f := .glo "is_poly_list") rfl))
  have C_check_poly := W43.c_check_poly (P := P) (w := w) (base := base) B C_is_poly_list F_check_poly (He.glo_ok X G (c.fact 4 (f := .glo "check_poly") rfl))
  have C_inverse := W43.c_inverse (P := P) (w := w) (base := base) B  F_inverse (He.glo_ok X G (c.fact 5 (f := .glo "inverse") rfl))
  have C_trimmed := W43.c_trimmed (P := P) (w := w) (base := base) B  F_trimmed (He.glo_ok X G (c.fact 6 (f := .glo "trimmed") rfl))
  have C_scaled := W43.c_scaled (P := P) (w := w) (base := base) B C_trimmed F_scaled (He.glo_ok X G (c.fact 7 (f := .glo "scaled") rfl))
  have C_parted := W43.c_parted (P := P) (w := w) (base := base) B C_inverse C_trimmed F_parted (He.glo_ok X G (c.fact 8 (f := .glo "parted") rfl))
  have C_rest_of := W43.c_rest_of (P := P) (w := w) (base := base) B C_parted F_rest_of (He.glo_ok X G (c.fact 9 (f := .glo "rest_of") rfl))
  have C_raised_whole := W43.c_raised_whole (P := P) (w := w) (base := base) B  F_raised_whole (He.glo_ok X G (c.fact 10 (f := .glo "raised_whole") rfl))
  have C_check_great_modulus := W43.c_check_great_modulus (P := P) (w := w) (base := base) B C_is_poly_list F_check_great_modulus (He.glo_ok X G (c.fact 11 (f := .glo "check_great_modulus") rfl))
  have C_number_to := W43.c_number_to (P := P) (w := w) (base := base) B C_raised_whole F_number_to (He.glo_ok X G (c.fact 12 (f := .glo "number_to") rfl))
  have C_stepped := W43.c_stepped (P := P) (w := w) (base := base) B C_rest_of C_number_to C_scaled C_inverse F_stepped (He.glo_ok X G (c.fact 13 (f := .glo "stepped") rfl))
  have C_word_for := W43.c_word_for (P := P) (w := w) (base := base) B  F_word_for (He.glo_ok X G (c.fact 14 (f := .glo "word_for") rfl))
  have C_walk_of := W43.c_walk_of (P := P) (w := w) (base := base) B C_word_for C_stepped F_walk_of (He.glo_ok X G (c.fact 15 (f := .glo "walk_of") rfl))
  have C_residue_of := W43.c_residue_of (P := P) (w := w) (base := base) B C_walk_of F_residue_of (He.glo_ok X G (c.fact 16 (f := .glo "residue_of") rfl))
  have C_residue := W43.c_residue (P := P) (w := w) (base := base) B C_check_prime C_check_great_modulus C_check_poly C_residue_of F_residue (He.glo_ok X G (c.fact 17 (f := .glo "residue") rfl))
  have C__law_hash := W43.c__law_hash (P := P) (w := w) (base := base) B  F__law_hash (He.glo_ok X G (c.fact 18 (f := .glo "_law_hash") rfl))
  have C__law_random := W43.c__law_random (P := P) (w := w) (base := base) B C__law_hash F__law_random (He.glo_ok X G (c.fact 19 (f := .glo "_law_random") rfl))
  have C__law_cell := W43.c__law_cell (P := P) (w := w) (base := base) B  F__law_cell (He.glo_ok X G (c.fact 20 (f := .glo "_law_cell") rfl))
  have C__law_generator := W43.c__law_generator (P := P) (w := w) (base := base) B C__law_cell F__law_generator (He.glo_ok X G (c.fact 21 (f := .glo "_law_generator") rfl))
  have C__law_trim := W43.c__law_trim (P := P) (w := w) (base := base) B  F__law_trim (He.glo_ok X G (c.fact 22 (f := .glo "_law_trim") rfl))
  have C__law_plus := W43.c__law_plus (P := P) (w := w) (base := base) B C__law_trim F__law_plus (He.glo_ok X G (c.fact 23 (f := .glo "_law_plus") rfl))
  have C__law_times := W43.c__law_times (P := P) (w := w) (base := base) B C__law_trim F__law_times (He.glo_ok X G (c.fact 24 (f := .glo "_law_times") rfl))
  have C__law_back := W43.c__law_back (P := P) (w := w) (base := base) B  F__law_back (He.glo_ok X G (c.fact 25 (f := .glo "_law_back") rfl))
  have C__law_parted := W43.c__law_parted (P := P) (w := w) (base := base) B C__law_back C__law_plus C__law_times F__law_parted (He.glo_ok X G (c.fact 26 (f := .glo "_law_parted") rfl))
  have C__law_rest := W43.c__law_rest (P := P) (w := w) (base := base) B C__law_parted F__law_rest (He.glo_ok X G (c.fact 27 (f := .glo "_law_rest") rfl))
  have C__law_monics := W43.c__law_monics (P := P) (w := w) (base := base) B  F__law_monics (He.glo_ok X G (c.fact 28 (f := .glo "_law_monics") rfl))
  have C__law_is_prime := W43.c__law_is_prime (P := P) (w := w) (base := base) B C__law_monics C__law_rest F__law_is_prime (He.glo_ok X G (c.fact 29 (f := .glo "_law_is_prime") rfl))
  have C__law_prime_number := W43.c__law_prime_number (P := P) (w := w) (base := base) B C__law_random F__law_prime_number (He.glo_ok X G (c.fact 30 (f := .glo "_law_prime_number") rfl))
  have C__law_monic := W43.c__law_monic (P := P) (w := w) (base := base) B C__law_random F__law_monic (He.glo_ok X G (c.fact 31 (f := .glo "_law_monic") rfl))
  have C__law_raised := W43.c__law_raised (P := P) (w := w) (base := base) B C__law_rest C__law_times F__law_raised (He.glo_ok X G (c.fact 32 (f := .glo "_law_raised") rfl))
  have C__law_whole := W43.c__law_whole (P := P) (w := w) (base := base) B  F__law_whole (He.glo_ok X G (c.fact 33 (f := .glo "_law_whole") rfl))
  have C__law_a_prime := W43.c__law_a_prime (P := P) (w := w) (base := base) B C__law_random C__law_monics C__law_is_prime F__law_a_prime (He.glo_ok X G (c.fact 34 (f := .glo "_law_a_prime") rfl))
  have C__law_residue := W43.c__law_residue (P := P) (w := w) (base := base) B C__law_raised C__law_whole F__law_residue (He.glo_ok X G (c.fact 35 (f := .glo "_law_residue") rfl))
  have C__law_residue_by := W43.c__law_residue_by (P := P) (w := w) (base := base) B C__law_residue F__law_residue_by (He.glo_ok X G (c.fact 36 (f := .glo "_law_residue_by") rfl))
  have C__law_walked := W43.c__law_walked (P := P) (w := w) (base := base) B C__law_rest C__law_whole C__law_times C__law_back F__law_walked (He.glo_ok X G (c.fact 37 (f := .glo "_law_walked") rfl))
  have C__law_made := W43.c__law_made (P := P) (w := w) (base := base) B C__law_times F__law_made (He.glo_ok X G (c.fact 38 (f := .glo "_law_made") rfl))
  have C__law_turned := W43.c__law_turned (P := P) (w := w) (base := base) B  F__law_turned (He.glo_ok X G (c.fact 39 (f := .glo "_law_turned") rfl))
  have C__law_right := W43.c__law_right (P := P) (w := w) (base := base) B C__law_prime_number C__law_random C__law_a_prime C__law_made C__law_residue_by C_residue C__law_turned C__law_monic C__law_walked C__law_times F__law_right (He.glo_ok X G (c.fact 40 (f := .glo "_law_right") rfl))
  exact W43.law_ok (P := P) (w := w) (base := base) B C__law_right C__law_generator C_residue F_law
end HDW43
open PySem PySem.W PySem.Calls PyProof.Rows
set_option maxRecDepth 100000 in
set_option maxHeartbeats 0 in
theorem PySem.Challenge.cw_modulusfields_k43_whole_residues_turned_holds : PySem.Challenge.rw_modulusfields_k43_whole_residues_turned.Holds := by
  w_on; o_law
  refine HandSHeadRun.head_any (r := OpenLaw.row PySem.Challenge.rw_modulusfields_k43_whole_residues_turned) (q := view (OpenLaw.row PySem.Challenge.rw_modulusfields_k43_whole_residues_turned).prog [53]) (H := HDW43.hk) (ob := HDW43.ob) (M := 6000) (loose := HDW43.loose) (d := HandSHeadRun.topDef (OpenLaw.row PySem.Challenge.rw_modulusfields_k43_whole_residues_turned).prog 53) (kwd := []) HDW43.ob_eq
    (by kernel_rfl) (fun s => by kernel_rfl) HDW43.run (by kernel_rfl) (by kernel_rfl) (by kernel_rfl) (by rfl) (by first | assumption | decide +kernel) (by decide +kernel) ⟨rfl, rfl, rfl, rfl, rfl, by decide +kernel⟩ ?hw ?hc
  case hw => w_witness2
  case hc =>
    refine L2.walk_ofE (l := PySem.Challenge.rw_modulusfields_k43_whole_residues_turned) (n := 63) (k := 9) (x := "_law_script") (CX := L2.CX0) rfl (by decide) (by kernel_rfl) ⟨rfl, by decide, by decide⟩ ?F (fun _ _ _ _ z => z)
    intro w mg fa h Y G hmg0
    obtain ⟨K, KX, c⟩ := Y
    have hmg : mg ("law" : PySem.Str) = some (.ref fa) := by
      have e : (HandSHeadRun.topDef (OpenLaw.row PySem.Challenge.rw_modulusfields_k43_whole_residues_turned).prog 53).name = ("law" : PySem.Str) := by kernel_rfl
      rw [← e]
      exact hmg0
    obtain ⟨fd, hb, hF⟩ := HDW43.facts (P := (PySem.Challenge.rw_modulusfields_k43_whole_residues_turned).prog) (w := w) KX G hmg c
    exact ⟨K, fd, QL.spS K W43.d_law, KX, hb, fun H a ns hl _ hS => ⟨a, [], ns, H, [], .val (.bool true), rfl, hS, QL.Ex.refl H, .nil, TR43.truth ns hl, fun v Hi' H' _ _ _ _ r => QL.Rp.bl_inv r⟩, hF⟩

